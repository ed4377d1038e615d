-- Printed by myprint.py (wip/tools) out of the translation. Not trusted: Lean checks it.
import Derived.Test.YtclhmoghkcnkmaaDoorAx0
import Derived.Test.YtclhmoghkcnkmaaDoorAx2
import Derived.Test.YtclhmoghkcnkmaaDoorAx3
import Derived.Test.YtclhmoghkcnkmaaDoorAx5
import Derived.Test.YtclhmoghkcnkmaaDoorAx6
import Derived.Test.YtclhmoghkcnkmaaDoorAx8
import Derived.Test.YtclhmoghkcnkmaaDoorAx11
import Derived.Test.YtclhmoghkcnkmaaDoorAx15
import Derived.Test.YtclhmoghkcnkmaaDoorAx22
namespace Go.Proofs.YtclhmoghkcnkmaaDoor.A
open Go.RowKit Go.Proofs.YtclhmoghkcnkmaaDoorW.PrintWords Go.Proofs.YtclhmoghkcnkmaaDoorW.PrintLast Go.Proofs.YtclhmoghkcnkmaaDoorW.PrintMore
attribute [local go_sem] max2_int min2_int max_two min_two max_three min_three max_four min_four   -- for this text's walks alone
set_option linter.unusedVariables false
set_option linter.unusedSimpArgs false

attribute [local go_sem high] eqA34
/-! ### laws_FnNameIn: function 11 -/
mutual
def laws_FnNameIn.j0 : Nat → List Int → List Int → Bool → Option (Bool)
 | 0, _, _, _ => none
 | k + 1, x0, x1, x20 => if x20 = true then (some true) else ((spec_DrawTextPieces.f k x0).bind fun t554 => ((spec_DrawEndText.f k x1).bind fun bt555 => ((impl_TextPieces.f k t554).bind fun t558 => ((spec_TextPieces.f k t554).bind fun t561 => ((laws_lzPieces.f k t558 t561).bind fun t564 => (if t564 = true then ((spec_TextOk.f k t554).bind fun t565 => (if t565 = true then ((impl_EndText.f bt555.1 bt555.2).bind fun t566 => (laws_FnNameIn.j1 k x1 t554 t558 t566.toList.isEmpty bt555.1 bt555.2)) else (laws_FnNameIn.j1 k x1 t554 t558 true bt555.1 bt555.2))) else (laws_FnNameIn.j1 k x1 t554 t558 true bt555.1 bt555.2)))))))
def laws_FnNameIn.j1 : Nat → List Int → ByteArray → List (S34) → Bool → Int → Int → Option (Bool)
 | 0, _, _, _, _, _, _ => none
 | k + 1, x1, x5, x7, x41, x558000, x558001 => if x41 = true then ((spec_TextPieces.f k x5).bind fun t567 => ((laws_lzPieces.f k x7 t567).bind fun t570 => (some t570))) else ((impl_EndText.f x558000 x558001).bind fun t571 => (if 1 + t571.size ≤ 9223372036854775807 then (if 1 + t571.size + 1 ≤ 9223372036854775807 then (if (wrap64 ((x7.length : Int) + 1)) = 0 then (none) else (if 0 ≤ ((x1.length : Int) % (wrap64 ((x7.length : Int) + 1))) then (if ((x1.length : Int) % (wrap64 ((x7.length : Int) + 1))) ≤ (x7.length : Int) then ((laws_lzSize.f k (x7.take (((x1.length : Int) % (wrap64 ((x7.length : Int) + 1))) : Int).toNat)).bind fun t576 => (if (wrap64 ((x5.size : Int) + (1 + (t571.size : Int) + 1))) > 40 then (some true) else (if 0 ≤ t576 then (if t576 ≤ (x5.size : Int) then (if (t576 : Int).toNat + (1 + t571.size + 1) ≤ 9223372036854775807 then (if (t576 : Int).toNat + (1 + t571.size + 1) + (x5.size - (t576 : Int).toNat) ≤ 9223372036854775807 then ((impl_TextPieces.f k (((x5.extract 0 (t576 : Int).toNat) ++ (((⟨#[64]⟩ : ByteArray) ++ t571) ++ (⟨#[59]⟩ : ByteArray))) ++ (x5.extract (t576 : Int).toNat x5.size))).bind fun t577 => (if (t577.length : Int) = (wrap64 ((x7.length : Int) + 1)) then (if ((x1.length : Int) % (wrap64 ((x7.length : Int) + 1))) ≤ (t577.length : Int) then ((laws_lzPieces.f k (t577.take (((x1.length : Int) % (wrap64 ((x7.length : Int) + 1))) : Int).toNat) (x7.take (((x1.length : Int) % (wrap64 ((x7.length : Int) + 1))) : Int).toNat)).bind fun t588 => (if t588 = true then (if ((x1.length : Int) % (wrap64 ((x7.length : Int) + 1))) < (t577.length : Int) then (if (((rd_T34 t577 ((x1.length : Int) % (wrap64 ((x7.length : Int) + 1)))).f0) == (1 + (t571.size : Int) + 1) && (((rd_T34 t577 ((x1.length : Int) % (wrap64 ((x7.length : Int) + 1)))).f1) && ((((rd_T34 t577 ((x1.length : Int) % (wrap64 ((x7.length : Int) + 1)))).f2.f0) == x558000 && (((rd_T34 t577 ((x1.length : Int) % (wrap64 ((x7.length : Int) + 1)))).f2.f1) == x558001))))) = true then (if 0 ≤ (wrap64 (((x1.length : Int) % (wrap64 ((x7.length : Int) + 1))) + 1)) then (if (wrap64 (((x1.length : Int) % (wrap64 ((x7.length : Int) + 1))) + 1)) ≤ (t577.length : Int) then ((laws_lzPieces.f k (t577.drop ((wrap64 (((x1.length : Int) % (wrap64 ((x7.length : Int) + 1))) + 1)) : Int).toNat) (x7.drop (((x1.length : Int) % (wrap64 ((x7.length : Int) + 1))) : Int).toNat)).bind fun t598 => (some t598)) else (none)) else (none)) else (some false)) else (none)) else (some false))) else (none)) else (some false))) else (none)) else (none)) else (none)) else (none)))) else (none)) else (none))) else (none)) else (none)))
end
def laws_FnNameIn.f (k : Nat) (l0 : List Int) (l1 : List Int) : Option (Bool) := if (l0.length : Int) > 1048576 then (laws_FnNameIn.j0 k l0 l1 true) else (laws_FnNameIn.j0 k l0 l1 (decide ((l1.length : Int) > 1048576)))
theorem laws_FnNameIn.mono_l : ∀ k, (∀ y0 y1 y2, LeO (laws_FnNameIn.j0 k y0 y1 y2) (laws_FnNameIn.j0 (k + 1) y0 y1 y2)) ∧ (∀ y0 y1 y2 y3 y4 y5, LeO (laws_FnNameIn.j1 k y0 y1 y2 y3 y4 y5) (laws_FnNameIn.j1 (k + 1) y0 y1 y2 y3 y4 y5))
 | 0 => ⟨fun _ _ _ r h => by simp [laws_FnNameIn.j0] at h, fun _ _ _ _ _ _ r h => by simp [laws_FnNameIn.j1] at h⟩
 | k + 1 => by
  obtain ⟨ih0, ih1⟩ := laws_FnNameIn.mono_l k
  refine ⟨?_, ?_⟩
  ·intro y0 y1 y2
   unfold laws_FnNameIn.j0
   repeat' first
   | (with_reducible exact ih0 _ _ _)
   | (with_reducible exact ih1 _ _ _ _ _ _)
   | (with_reducible exact impl_TextPieces.mono _ _)
   | (with_reducible exact laws_lzPieces.mono _ _ _)
   | (with_reducible exact laws_lzSize.mono _ _)
   | (with_reducible exact spec_DrawEndText.mono _ _)
   | (with_reducible exact spec_DrawTextPieces.mono _ _)
   | (with_reducible exact spec_TextOk.mono _ _)
   | (with_reducible exact spec_TextPieces.mono _ _)
   | (with_reducible exact LeO.refl _)
   | (with_reducible exact LeO.none _)
   | (with_reducible refine LeO.ite ?_ ?_)
   | (with_reducible refine LeO.bind ?_ (fun _ => ?_))
   | exact ih0 _ _ _
   | exact ih1 _ _ _ _ _ _
   | exact impl_TextPieces.mono _ _
   | exact laws_lzPieces.mono _ _ _
   | exact laws_lzSize.mono _ _
   | exact spec_DrawEndText.mono _ _
   | exact spec_DrawTextPieces.mono _ _
   | exact spec_TextOk.mono _ _
   | exact spec_TextPieces.mono _ _
   | exact LeO.none _
   | refine LeO.ite ?_ ?_
   | refine LeO.bind ?_ (fun _ => ?_)
  ·intro y0 y1 y2 y3 y4 y5
   unfold laws_FnNameIn.j1
   repeat' first
   | (with_reducible exact ih0 _ _ _)
   | (with_reducible exact ih1 _ _ _ _ _ _)
   | (with_reducible exact impl_TextPieces.mono _ _)
   | (with_reducible exact laws_lzPieces.mono _ _ _)
   | (with_reducible exact laws_lzSize.mono _ _)
   | (with_reducible exact spec_DrawEndText.mono _ _)
   | (with_reducible exact spec_DrawTextPieces.mono _ _)
   | (with_reducible exact spec_TextOk.mono _ _)
   | (with_reducible exact spec_TextPieces.mono _ _)
   | (with_reducible exact LeO.refl _)
   | (with_reducible exact LeO.none _)
   | (with_reducible refine LeO.ite ?_ ?_)
   | (with_reducible refine LeO.bind ?_ (fun _ => ?_))
   | exact ih0 _ _ _
   | exact ih1 _ _ _ _ _ _
   | exact impl_TextPieces.mono _ _
   | exact laws_lzPieces.mono _ _ _
   | exact laws_lzSize.mono _ _
   | exact spec_DrawEndText.mono _ _
   | exact spec_DrawTextPieces.mono _ _
   | exact spec_TextOk.mono _ _
   | exact spec_TextPieces.mono _ _
   | exact LeO.none _
   | refine LeO.ite ?_ ?_
   | refine LeO.bind ?_ (fun _ => ?_)
theorem laws_FnNameIn.mono : ∀ a0 a1 k, LeO (laws_FnNameIn.f k a0 a1) (laws_FnNameIn.f (k + 1) a0 a1) := by
 intro a0 a1 k
 obtain ⟨ih0, ih1⟩ := laws_FnNameIn.mono_l k
 unfold laws_FnNameIn.f
 repeat' first
   | (with_reducible exact ih0 _ _ _)
   | (with_reducible exact ih1 _ _ _ _ _ _)
   | (with_reducible exact impl_TextPieces.mono _ _)
   | (with_reducible exact laws_lzPieces.mono _ _ _)
   | (with_reducible exact laws_lzSize.mono _ _)
   | (with_reducible exact spec_DrawEndText.mono _ _)
   | (with_reducible exact spec_DrawTextPieces.mono _ _)
   | (with_reducible exact spec_TextOk.mono _ _)
   | (with_reducible exact spec_TextPieces.mono _ _)
   | (with_reducible exact LeO.refl _)
   | (with_reducible exact LeO.none _)
   | (with_reducible refine LeO.ite ?_ ?_)
   | (with_reducible refine LeO.bind ?_ (fun _ => ?_))
   | exact ih0 _ _ _
   | exact ih1 _ _ _ _ _ _
   | exact impl_TextPieces.mono _ _
   | exact laws_lzPieces.mono _ _ _
   | exact laws_lzSize.mono _ _
   | exact spec_DrawEndText.mono _ _
   | exact spec_DrawTextPieces.mono _ _
   | exact spec_TextOk.mono _ _
   | exact spec_TextPieces.mono _ _
   | exact LeO.none _
   | refine LeO.ite ?_ ?_
   | refine LeO.bind ?_ (fun _ => ?_)
def laws_FnNameIn.T13 : Bool × List (List Nat × List Nat) := (true, [([], []), ([], []), ([0, 1], [0, 1]), ([], []), ([2, 3], [2, 3]), ([], []), ([], []), ([5, 6], [5, 6]), ([4, 7], [4, 7]), ([8], [8]), ([9, 9, 0, 1, 2, 3, 4, 5, 6, 7, 8, 9], [9])])
def laws_FnNameIn.B13 : List Nat := [0, 0, 3, 0, 15, 0, 0, 96, 255, 511, 1023]
theorem laws_FnNameIn.tab13 : rtab .any (opsOf Tryd.f11 13) = laws_FnNameIn.T13 := by kernel_rfl
theorem laws_FnNameIn.bits13 : waitsOk laws_FnNameIn.T13.2 laws_FnNameIn.B13 = true := by kernel_rfl
def laws_FnNameIn.T15 : Bool × List (List Nat × List Nat) := (true, [([], []), ([0], [0]), ([], []), ([2], [2]), ([1, 3], [1, 3]), ([4], [4]), ([5], [5]), ([5], [5]), ([6, 7, 5], [5, 6, 7]), ([5], [5]), ([5], [5]), ([9, 10, 5], [5, 9, 10]), ([8, 11, 5, 5], [5, 8, 11]), ([5, 12], [5, 12]), ([13, 12], [13]), ([14], [14]), ([14], [14]), ([15, 16, 14], [14, 15, 16]), ([17, 14], [14, 17]), ([14], [14]), ([19, 14], [14, 19]), ([14], [14]), ([20, 21, 14], [14, 20, 21]), ([18, 22, 14], [14, 18, 22]), ([14, 23], [14, 23]), ([24, 14], [24]), ([25], [25]), ([25], [25]), ([27, 25], [25, 27]), ([26, 28, 25], [25, 26, 28]), ([25], [25]), ([25], [25]), ([30, 31, 25], [25, 30, 31]), ([29, 32, 25, 25], [25, 29, 32]), ([25, 33], [25, 33]), ([34, 33, 0, 1, 2, 3, 4, 5, 6, 7, 8, 9, 10, 11, 12, 13, 14, 15, 16, 17, 18, 19, 20, 21, 22, 23, 24, 25, 26, 27, 28, 29, 30, 31, 32, 33, 34], [34])])
def laws_FnNameIn.B15 : List Nat := [0, 1, 0, 4, 15, 31, 63, 63, 255, 63, 63, 1599, 4095, 8191, 16383, 32767, 32767, 131071, 262143, 32767, 557055, 32767, 3702783, 8388607, 16777215, 33554431, 67108863, 67108863, 201326591, 536870911, 67108863, 67108863, 3288334335, 8589934591, 17179869183, 34359738367]
theorem laws_FnNameIn.tab15 : rtab .any (opsOf Tryd.f11 15) = laws_FnNameIn.T15 := by kernel_rfl
theorem laws_FnNameIn.bits15 : waitsOk laws_FnNameIn.T15.2 laws_FnNameIn.B15 = true := by kernel_rfl
set_option maxHeartbeats 8000000 in
set_option maxRecDepth 100000 in
theorem laws_FnNameIn.calls (k : Nat) (A0 : Option Addr) (c0 : Nat) (l0 : List Int) (A1 : Option Addr) (c1 : Nat) (l1 : List Int) (r : Bool) (w : World) (hr0 : Kd.C (Kd.int .u8) w A0 l0.length l0) (hc0 : l0.length ≤ c0) (hr1 : Kd.C (Kd.int .u8) w A1 l1.length l1) (hc1 : l1.length ≤ c1) (hG : GV w) (h : laws_FnNameIn.f k l0 l1 = some r) :
  Calls Tryd.prog 11 #[.slice A0 l0.length c0, .slice A1 l1.length c1] w fun e w' => e = .returned (.bool r) ∧ Below w.heap.size w w' := by
 have hu32 := Tryd.underlying32
 have hu34 := Tryd.underlying34
 have HG := Aside0.mk hG
 clear hG
 have HR0 := Aside0.mk hr0
 have HC0 := Aside0.mk hc0
 clear hr0 hc0
 have HR1 := Aside0.mk hr1
 have HC1 := Aside0.mk hc1
 clear hr1 hc1
 have HB := Aside0.mk (Below.refl w.heap.size w)
 have H : (if (l0.length : Int) > 1048576 then (laws_FnNameIn.j0 k l0 l1 true) else (laws_FnNameIn.j0 k l0 l1 (decide ((l1.length : Int) > 1048576)))) = some r := h
 clear h
 have HC3 := Aside0.mk H
 clear H
 go_enter Tryd.func11, Tryd.ntmps11
 go_upto_region 1 with (fail)
 go_cut [20] (fun v20 wc => ∃ (kq : Nat) (x20_2 : Bool), v20 = .bool x20_2 ∧ Aside0 (laws_FnNameIn.j0 kq l0 l1 x20_2 = some r) ∧ Aside0 (kq ≤ k) ∧ Aside0 (Below w.heap.size w wc))
 case first =>
  have H := HC3.out
  clear HC3
  by_cases c4 : (l0.length : Int) > 1048576
  ·rw [if_pos c4] at H
   have c4b0 : decide (1048576 < (l0.length : Int)) = true := decide_eq_true c4
   have c4b1 : decide (1048576 < l0.length) = true := decide_eq_true (by omega)
   clear c4
   (first | rw [c4b0] | (simp only [i64_w, i32_w]; rw [c4b0]) | skip)
   have H' := Aside0.mk H
   clear H
   go_wp2
   go_meet
   case rel => exact ⟨_, (true), (by first | rfl | (simp; done) | (simp [*]; done)), H', ⟨by first | omega | exact Nat.le_refl _⟩, ⟨by repeat (first | (with_reducible first | exact HB.out | apply below_alloc | apply pw_below_drewN | apply below_drew1) | exact HB.out)⟩⟩
  ·rw [if_neg c4] at H
   have c4b0 : decide (1048576 < (l0.length : Int)) = false := decide_eq_false c4
   have c4b1 : decide (1048576 < l0.length) = false := decide_eq_false (by omega)
   clear c4
   (first | rw [c4b0] | (simp only [i64_w, i32_w]; rw [c4b0]) | skip)
   have H' := Aside0.mk H
   clear H
   go_wp2
   go_meet
   case rel => exact ⟨_, (decide ((l1.length : Int) > 1048576)), (by first | rfl | (simp; done) | (simp [*]; done)), H', ⟨by first | omega | exact Nat.le_refl _⟩, ⟨by repeat (first | (with_reducible first | exact HB.out | apply below_alloc | apply pw_below_drewN | apply below_drew1) | exact HB.out)⟩⟩
 case rest =>
  clear HC3
  try clear c1
  try clear p2
  try clear c4
  try clear c4b0
  try clear c4b1
  obtain ⟨kq, x20_2, rfl, HA, HJ2, HB⟩ := hcut
  cases kq with
  | zero => exact absurd HA.out (by simp [laws_FnNameIn.j0])
  | succ kj2 =>
   have H := HA.out
   clear HA
   simp only [laws_FnNameIn.j0] at H
   by_cases c5 : x20_2 = true
   ·subst c5
    have H1 : (some true) = some r := by rw [if_pos rfl] at H; exact H
    clear H
    have H := H1
    clear H1
    obtain rfl := Option.some.inj H
    go_wp2
    go_ret
    exact ⟨by first | rfl | (simp [errW_none, errW_some] <;> rfl) | (simp [*, errW_none, errW_some] <;> rfl) | (simp [errW_none, errW_some, pk_empty1, pk_empty2]; done) | (simp [*, errW_none, errW_some, pk_empty1, pk_empty2]; done), by repeat (first | (with_reducible first | exact HB.out | apply below_alloc | apply pw_below_drewN | apply below_drew1) | exact HB.out)⟩
   ·replace c5 := Bool.eq_false_iff.mpr c5
    subst c5
    have H1 : ((spec_DrawTextPieces.f kj2 l0).bind fun t554 => ((spec_DrawEndText.f kj2 l1).bind fun bt555 => ((impl_TextPieces.f kj2 t554).bind fun t558 => ((spec_TextPieces.f kj2 t554).bind fun t561 => ((laws_lzPieces.f kj2 t558 t561).bind fun t564 => (if t564 = true then ((spec_TextOk.f kj2 t554).bind fun t565 => (if t565 = true then ((impl_EndText.f bt555.1 bt555.2).bind fun t566 => (laws_FnNameIn.j1 kj2 l1 t554 t558 t566.toList.isEmpty bt555.1 bt555.2)) else (laws_FnNameIn.j1 kj2 l1 t554 t558 true bt555.1 bt555.2))) else (laws_FnNameIn.j1 kj2 l1 t554 t558 true bt555.1 bt555.2))))))) = some r := by rw [if_neg (show ¬ (false = true) by decide)] at H; exact H
    clear H
    have H := H1
    clear H1
    replace H := Option.bind_eq_some_iff.mp H
    obtain ⟨t554, A60, H⟩ := H
    replace H : ((spec_DrawEndText.f kj2 l1).bind fun bt555 => ((impl_TextPieces.f kj2 t554).bind fun t558 => ((spec_TextPieces.f kj2 t554).bind fun t561 => ((laws_lzPieces.f kj2 t558 t561).bind fun t564 => (if t564 = true then ((spec_TextOk.f kj2 t554).bind fun t565 => (if t565 = true then ((impl_EndText.f bt555.1 bt555.2).bind fun t566 => (laws_FnNameIn.j1 kj2 l1 t554 t558 t566.toList.isEmpty bt555.1 bt555.2)) else (laws_FnNameIn.j1 kj2 l1 t554 t558 true bt555.1 bt555.2))) else (laws_FnNameIn.j1 kj2 l1 t554 t558 true bt555.1 bt555.2)))))) = some r := H
    have A6 := Aside0.mk A60
    clear A60
    replace H := Option.bind_eq_some_iff.mp H
    obtain ⟨⟨t555, t556⟩, A70, H⟩ := H
    replace H : ((impl_TextPieces.f kj2 t554).bind fun t558 => ((spec_TextPieces.f kj2 t554).bind fun t561 => ((laws_lzPieces.f kj2 t558 t561).bind fun t564 => (if t564 = true then ((spec_TextOk.f kj2 t554).bind fun t565 => (if t565 = true then ((impl_EndText.f t555 t556).bind fun t566 => (laws_FnNameIn.j1 kj2 l1 t554 t558 t566.toList.isEmpty t555 t556)) else (laws_FnNameIn.j1 kj2 l1 t554 t558 true t555 t556))) else (laws_FnNameIn.j1 kj2 l1 t554 t558 true t555 t556))))) = some r := H
    have A7 := Aside0.mk A70
    clear A70
    replace H := Option.bind_eq_some_iff.mp H
    obtain ⟨t558, A80, H⟩ := H
    replace H : ((spec_TextPieces.f kj2 t554).bind fun t561 => ((laws_lzPieces.f kj2 t558 t561).bind fun t564 => (if t564 = true then ((spec_TextOk.f kj2 t554).bind fun t565 => (if t565 = true then ((impl_EndText.f t555 t556).bind fun t566 => (laws_FnNameIn.j1 kj2 l1 t554 t558 t566.toList.isEmpty t555 t556)) else (laws_FnNameIn.j1 kj2 l1 t554 t558 true t555 t556))) else (laws_FnNameIn.j1 kj2 l1 t554 t558 true t555 t556)))) = some r := H
    have A8 := Aside0.mk A80
    clear A80
    have HC9 := Aside0.mk H
    clear H
    go_upto_region 6 with (first | ((with_reducible refine gate_callee (f := 23) rfl ?_); refine goesL_ (some 22) rfl rfl Tryd.func23 (by kernel_rfl) rfl #[.slice A0 l0.length c0] rfl (by (try simp only [List.map_toArray, List.map_cons, List.map_nil]); first | done | rfl | (simp only [List.length_drop, List.length_take]; rfl)) ?_; (with_reducible refine (spec_DrawTextPieces.calls kj2 _ _ l0 t554 _ ?side1 ?side2 A6.out).mono ?_); (case side1 => repeat (first | exact (Kd.C_below HR0.out HB.out) | (with_reducible refine Kd.C_alloc ?_ _) | (with_reducible refine Kd.C_drewN ?_ _) | (with_reducible refine Kd.C_drew ?_))); (case side2 => exact HC0.out); rintro e w10 ⟨rfl, hb⟩; refine ⟨_, rfl, ?_⟩; have n0_ := Aside0.mk (below_step (by repeat (first | (with_reducible first | exact HB.out | apply below_alloc | apply pw_below_drewN | apply below_drew1) | exact HB.out)) hb); clear HB; have HB := n0_; clear n0_; (try clear hb); (try clear hb2); (try clear hk); (try clear hi)) | ((with_reducible refine gate_callee (f := 32) rfl ?_); refine goesL_ (some 24) rfl rfl Tryd.func32 (by kernel_rfl) rfl #[.slice A1 l1.length c1] rfl (by (try simp only [List.map_toArray, List.map_cons, List.map_nil]); first | done | rfl | (simp only [List.length_drop, List.length_take]; rfl)) ?_; (with_reducible refine (spec_DrawEndText.calls kj2 _ _ l1 t555 t556 _ ?side1 ?side2 A7.out).mono ?_); (case side1 => repeat (first | exact (Kd.C_below HR1.out HB.out) | (with_reducible refine Kd.C_alloc ?_ _) | (with_reducible refine Kd.C_drewN ?_ _) | (with_reducible refine Kd.C_drew ?_))); (case side2 => exact HC1.out); rintro e w11 ⟨rfl, hb⟩; refine ⟨_, rfl, ?_⟩; have n0_ := Aside0.mk (below_step (by repeat (first | (with_reducible first | exact HB.out | apply below_alloc | apply pw_below_drewN | apply below_drew1) | exact HB.out)) hb); clear HB; have HB := n0_; clear n0_; (try clear hb); (try clear hb2); (try clear hk); (try clear hi)) | ((with_reducible refine gate_dst (N := 6) rfl ?_); (try (refine gate_guard (by rfl) ?_; dsimp only)); refine box_event ?hg (N := 6) ?hd (cs := #[.int .i64 0, .int .i64 0]) (t := 32) ?hr ?_; (case hd => rfl); (case hg => rfl); (case hr => first | (go_simp; done) | (go_simp; rfl)); intro gb557 hg w12 hbox hb; have n0_ := Aside0.mk (below_step (by repeat (first | (with_reducible first | exact HB.out | apply below_alloc | apply pw_below_drewN | apply below_drew1) | exact HB.out)) hb); have n1_ := Aside0.mk (hbox); have n2_ := Aside0.mk ((by rw [hg]; exact (below_size (by repeat (first | (with_reducible first | exact HB.out | apply below_alloc | apply pw_below_drewN | apply below_drew1) | exact HB.out))) : w.heap.size ≤ gb557)); have n3_ := Aside0.mk ((by rw [hg]; exact (below_size (by repeat (first | (with_reducible first | exact HB.out | apply below_alloc | apply pw_below_drewN | apply below_drew1) | exact HB.out))) : w.heap.size ≤ gb557)); clear HB; have HB := n0_; have BK557 := n1_; have GW557 := n2_; have GE557 := n3_; clear n0_ n1_ n2_ n3_; clear hb hbox hg; have hcz13_0 : w12.cell? ⟨gb557, 0, none⟩ = some (.int .i64 0) := (blk_cell BK557.out 0).trans rfl; have hcz13_1 : w12.cell? ⟨gb557, 1, none⟩ = some (.int .i64 0) := (blk_cell BK557.out 1).trans rfl; have hfz13_0 := blk_frozen BK557.out 0; have hfz13_1 := blk_frozen BK557.out 1) | ((with_reducible refine gate_callee (f := 15) rfl ?_); refine goesL_ (some 26) rfl rfl Tryd.func15 (by kernel_rfl) rfl #[.string t554] rfl (by (try simp only [List.map_toArray, List.map_cons, List.map_nil]); first | done | rfl | (simp only [List.length_drop, List.length_take]; rfl)) ?_; (with_reducible refine (impl_TextPieces.calls kj2 t554 t558 _ ?side1 A8.out).mono ?_); (case side1 => first | exact HG.out | exact GV_below HG.out (by repeat (first | (with_reducible first | exact HB.out | apply below_alloc | apply pw_below_drewN | apply below_drew1 | refine below_set ?_ GE557.out) | exact HB.out))); rintro e w14 ⟨v559, rfl, ho0, hb⟩; refine ⟨_, rfl, ?_⟩; have n0_ := Aside0.mk (Kd.R_lower ho0 (below_size (by repeat (first | (with_reducible first | exact HB.out | apply below_alloc | apply pw_below_drewN | apply below_drew1 | refine below_set ?_ GE557.out) | exact HB.out)))); have n1_ := Aside0.mk (blk_below (g := gb557) (o := .cells #[.int .i64 t555, .int .i64 t556] 32 (0, 0)) (by (with_reducible repeat (first | refine blk_drewN ?_ _ | refine blk_drew ?_ | refine blk_alloc ?_ _)); refine blk_put (cs := #[.int .i64 t555, .int .i64 0]) ?_ 1 _ rfl; (with_reducible repeat (first | refine blk_drewN ?_ _ | refine blk_drew ?_ | refine blk_alloc ?_ _)); refine blk_put (cs := #[.int .i64 0, .int .i64 0]) ?_ 0 _ rfl; (with_reducible repeat (first | refine blk_drewN ?_ _ | refine blk_drew ?_ | refine blk_alloc ?_ _)); exact BK557.out) hb); have n2_ := Aside0.mk (below_step (by repeat (first | (with_reducible first | exact HB.out | apply below_alloc | apply pw_below_drewN | apply below_drew1 | refine below_set ?_ GE557.out) | exact HB.out)) hb); clear BK557; clear HB; have HO560 := n0_; have BK557 := n1_; have HB := n2_; clear n0_ n1_ n2_; (try clear hb); (try clear hb2); (try clear hk); (try clear hi); (try clear ho0)))
    (try simp only [Act.put, s1_, s2_, s3_])
    go_cut [41] (fun v41 wc => ∃ (kq : Nat) (x41_8 : Bool), v41 = .bool x41_8 ∧ Aside0 (laws_FnNameIn.j1 kq l1 t554 t558 x41_8 t555 t556 = some r) ∧ Aside0 (kq ≤ kj2) ∧ Aside0 (Kd.R k34 34 wc w.heap.size (fun _ => True) v559 t558) ∧ Aside0 (wc.heap[gb557]? = some (.cells #[.int .i64 t555, .int .i64 t556] 32 (0, 0))) ∧ Aside0 (Below w.heap.size w wc))
    case first =>
     have H := HC9.out
     clear HC9
     replace H := Option.bind_eq_some_iff.mp H
     obtain ⟨t561, A150, H⟩ := H
     replace H : ((laws_lzPieces.f kj2 t558 t561).bind fun t564 => (if t564 = true then ((spec_TextOk.f kj2 t554).bind fun t565 => (if t565 = true then ((impl_EndText.f t555 t556).bind fun t566 => (laws_FnNameIn.j1 kj2 l1 t554 t558 t566.toList.isEmpty t555 t556)) else (laws_FnNameIn.j1 kj2 l1 t554 t558 true t555 t556))) else (laws_FnNameIn.j1 kj2 l1 t554 t558 true t555 t556))) = some r := H
     have A15 := Aside0.mk A150
     clear A150
     replace H := Option.bind_eq_some_iff.mp H
     obtain ⟨t564, A160, H⟩ := H
     replace H : (if t564 = true then ((spec_TextOk.f kj2 t554).bind fun t565 => (if t565 = true then ((impl_EndText.f t555 t556).bind fun t566 => (laws_FnNameIn.j1 kj2 l1 t554 t558 t566.toList.isEmpty t555 t556)) else (laws_FnNameIn.j1 kj2 l1 t554 t558 true t555 t556))) else (laws_FnNameIn.j1 kj2 l1 t554 t558 true t555 t556)) = some r := H
     have A16 := Aside0.mk A160
     clear A160
     by_cases c17 : t564 = true
     ·subst c17
      have H1 : ((spec_TextOk.f kj2 t554).bind fun t565 => (if t565 = true then ((impl_EndText.f t555 t556).bind fun t566 => (laws_FnNameIn.j1 kj2 l1 t554 t558 t566.toList.isEmpty t555 t556)) else (laws_FnNameIn.j1 kj2 l1 t554 t558 true t555 t556))) = some r := by rw [if_pos rfl] at H; exact H
      clear H
      have H := H1
      clear H1
      replace H := Option.bind_eq_some_iff.mp H
      obtain ⟨t565, A180, H⟩ := H
      replace H : (if t565 = true then ((impl_EndText.f t555 t556).bind fun t566 => (laws_FnNameIn.j1 kj2 l1 t554 t558 t566.toList.isEmpty t555 t556)) else (laws_FnNameIn.j1 kj2 l1 t554 t558 true t555 t556)) = some r := H
      have A18 := Aside0.mk A180
      clear A180
      by_cases c19 : t565 = true
      ·subst c19
       have H1 : ((impl_EndText.f t555 t556).bind fun t566 => (laws_FnNameIn.j1 kj2 l1 t554 t558 t566.toList.isEmpty t555 t556)) = some r := by rw [if_pos rfl] at H; exact H
       clear H
       have H := H1
       clear H1
       replace H := Option.bind_eq_some_iff.mp H
       obtain ⟨t566, A200, H⟩ := H
       replace H : (laws_FnNameIn.j1 kj2 l1 t554 t558 t566.toList.isEmpty t555 t556) = some r := H
       have A20 := Aside0.mk A200
       clear A200
       have H' := Aside0.mk H
       clear H
       go_wp2_with (first | ((with_reducible refine gate_callee (f := 14) rfl ?_); refine goesL_ (some 29) rfl rfl Tryd.func14 (by kernel_rfl) rfl #[.string t554] rfl (by (try simp only [List.map_toArray, List.map_cons, List.map_nil]); first | done | rfl | (simp only [List.length_drop, List.length_take]; rfl)) ?_; (with_reducible refine (spec_TextPieces.calls kj2 t554 t561 _ A15.out).mono ?_); rintro e w21 ⟨v562, rfl, ho0, hb⟩; refine ⟨_, rfl, ?_⟩; have n0_ := Aside0.mk (Kd.R_elder' (by (with_reducible repeat (first | apply Kd.R_alloc | apply Kd.R_drewN | apply Kd.R_drew)); exact HO560.out) (Kd.R_base ho0) hb); have n1_ := Aside0.mk (Kd.R_lower (Kd.R_new' ho0 (Kd.R_lt (by (with_reducible repeat (first | apply Kd.R_alloc | apply Kd.R_drewN | apply Kd.R_drew)); exact HO560.out))) (below_size (by repeat (first | (with_reducible first | exact HB.out | apply below_alloc | apply pw_below_drewN | apply below_drew1 | refine below_set ?_ GE557.out) | exact HB.out)))); have n2_ := Aside0.mk (blk_below (g := gb557) (o := .cells #[.int .i64 t555, .int .i64 t556] 32 (0, 0)) (by (with_reducible repeat (first | refine blk_drewN ?_ _ | refine blk_drew ?_ | refine blk_alloc ?_ _)); exact BK557.out) hb); have n3_ := Aside0.mk (below_step (by repeat (first | (with_reducible first | exact HB.out | apply below_alloc | apply pw_below_drewN | apply below_drew1 | refine below_set ?_ GE557.out) | exact HB.out)) hb); clear HO560; clear BK557; clear HB; have HO560 := n0_; have HO563 := n1_; have BK557 := n2_; have HB := n3_; clear n0_ n1_ n2_ n3_; (try clear hb); (try clear hb2); (try clear hk); (try clear hi); (try clear ho0); obtain ⟨Ao22, co22, eo22⟩ := Kd.R_slice HO560.out; subst eo22; obtain ⟨Ao23, co23, eo23⟩ := Kd.R_slice HO563.out; subst eo23) | ((with_reducible refine gate_callee (f := 24) rfl ?_); refine goesL_ (some 30) rfl rfl Tryd.func24 (by kernel_rfl) rfl #[.slice Ao22 t558.length co22, .slice Ao23 t561.length co23] rfl (by (try simp only [List.map_toArray, List.map_cons, List.map_nil]); first | done | rfl | (simp only [List.length_drop, List.length_take]; rfl)) ?_; (with_reducible refine (laws_lzPieces.calls kj2 _ _ t558 _ _ t561 true _ ?side1 ?side2 ?side3 ?side4 A16.out).mono ?_); (case side1 => repeat (first | exact (Kd.R_reads' HO560.out).2.2 | (with_reducible refine Kd.C_alloc ?_ _) | (with_reducible refine Kd.C_drewN ?_ _) | (with_reducible refine Kd.C_drew ?_))); (case side2 => exact (Kd.R_reads' HO560.out).2.1); (case side3 => repeat (first | exact (Kd.R_reads' HO563.out).2.2 | (with_reducible refine Kd.C_alloc ?_ _) | (with_reducible refine Kd.C_drewN ?_ _) | (with_reducible refine Kd.C_drew ?_))); (case side4 => exact (Kd.R_reads' HO563.out).2.1); rintro e w' ⟨rfl, ⟨nd, rfl⟩⟩; refine ⟨_, rfl, ?_⟩) | (go_at_call 22; (with_reducible refine (spec_TextOk.calls kj2 t554 true _ A18.out).mono ?_); rintro e w' ⟨rfl, ⟨nd, rfl⟩⟩; have hcz24_0 : w21.cell? ⟨gb557, 0, none⟩ = some (.int .i64 t555) := (blk_cell BK557.out 0).trans rfl; have hcz24_1 : w21.cell? ⟨gb557, 1, none⟩ = some (.int .i64 t556) := (blk_cell BK557.out 1).trans rfl; have hfz24_0 := blk_frozen BK557.out 0; have hfz24_1 := blk_frozen BK557.out 1) | (go_at_call 26; (with_reducible refine (impl_EndText.calls t555 t556 t566 _ A20.out).mono ?_); rintro e w25 ⟨rfl, hb⟩; have n0_ := Aside0.mk (Kd.R_below (by (with_reducible repeat (first | apply Kd.R_alloc | apply Kd.R_drewN | apply Kd.R_drew)); exact HO560.out) hb); have n1_ := Aside0.mk (Kd.R_below (by (with_reducible repeat (first | apply Kd.R_alloc | apply Kd.R_drewN | apply Kd.R_drew)); exact HO563.out) hb); have n2_ := Aside0.mk (blk_below (g := gb557) (o := .cells #[.int .i64 t555, .int .i64 t556] 32 (0, 0)) (by (with_reducible repeat (first | refine blk_drewN ?_ _ | refine blk_drew ?_ | refine blk_alloc ?_ _)); exact BK557.out) hb); have n3_ := Aside0.mk (below_step (by repeat (first | (with_reducible first | exact HB.out | apply below_alloc | apply pw_below_drewN | apply below_drew1 | refine below_set ?_ GE557.out) | exact HB.out)) hb); clear HO560; clear HO563; clear BK557; clear HB; have HO560 := n0_; have HO563 := n1_; have BK557 := n2_; have HB := n3_; clear n0_ n1_ n2_ n3_; (try clear hb); (try clear hb2); (try clear hk); (try clear hi)))
       go_meet
       case rel => exact ⟨_, (t566.toList.isEmpty), (by first | rfl | (simp; done) | (simp [*]; done)), H', ⟨by have := HJ2.out; first | omega | exact Nat.le_refl _⟩, ⟨by (with_reducible repeat (first | apply Kd.R_alloc | apply Kd.R_drewN | apply Kd.R_drew)); exact Kd.R_mono HO560.out (fun _ hk => trivial)⟩, ⟨by (with_reducible repeat (first | refine blk_drewN ?_ _ | refine blk_drew ?_ | refine blk_alloc ?_ _)); exact BK557.out⟩, ⟨by repeat (first | (with_reducible first | exact HB.out | apply below_alloc | apply pw_below_drewN | apply below_drew1 | refine below_set ?_ GE557.out) | exact HB.out)⟩⟩
      ·replace c19 := Bool.eq_false_iff.mpr c19
       subst c19
       have H1 : (laws_FnNameIn.j1 kj2 l1 t554 t558 true t555 t556) = some r := by rw [if_neg (show ¬ (false = true) by decide)] at H; exact H
       clear H
       have H := H1
       clear H1
       have H' := Aside0.mk H
       clear H
       go_wp2_with (first | ((with_reducible refine gate_callee (f := 14) rfl ?_); refine goesL_ (some 29) rfl rfl Tryd.func14 (by kernel_rfl) rfl #[.string t554] rfl (by (try simp only [List.map_toArray, List.map_cons, List.map_nil]); first | done | rfl | (simp only [List.length_drop, List.length_take]; rfl)) ?_; (with_reducible refine (spec_TextPieces.calls kj2 t554 t561 _ A15.out).mono ?_); rintro e w26 ⟨v562, rfl, ho0, hb⟩; refine ⟨_, rfl, ?_⟩; have n0_ := Aside0.mk (Kd.R_elder' (by (with_reducible repeat (first | apply Kd.R_alloc | apply Kd.R_drewN | apply Kd.R_drew)); exact HO560.out) (Kd.R_base ho0) hb); have n1_ := Aside0.mk (Kd.R_lower (Kd.R_new' ho0 (Kd.R_lt (by (with_reducible repeat (first | apply Kd.R_alloc | apply Kd.R_drewN | apply Kd.R_drew)); exact HO560.out))) (below_size (by repeat (first | (with_reducible first | exact HB.out | apply below_alloc | apply pw_below_drewN | apply below_drew1 | refine below_set ?_ GE557.out) | exact HB.out)))); have n2_ := Aside0.mk (blk_below (g := gb557) (o := .cells #[.int .i64 t555, .int .i64 t556] 32 (0, 0)) (by (with_reducible repeat (first | refine blk_drewN ?_ _ | refine blk_drew ?_ | refine blk_alloc ?_ _)); exact BK557.out) hb); have n3_ := Aside0.mk (below_step (by repeat (first | (with_reducible first | exact HB.out | apply below_alloc | apply pw_below_drewN | apply below_drew1 | refine below_set ?_ GE557.out) | exact HB.out)) hb); clear HO560; clear BK557; clear HB; have HO560 := n0_; have HO563 := n1_; have BK557 := n2_; have HB := n3_; clear n0_ n1_ n2_ n3_; (try clear hb); (try clear hb2); (try clear hk); (try clear hi); (try clear ho0); obtain ⟨Ao27, co27, eo27⟩ := Kd.R_slice HO560.out; subst eo27; obtain ⟨Ao28, co28, eo28⟩ := Kd.R_slice HO563.out; subst eo28) | ((with_reducible refine gate_callee (f := 24) rfl ?_); refine goesL_ (some 30) rfl rfl Tryd.func24 (by kernel_rfl) rfl #[.slice Ao27 t558.length co27, .slice Ao28 t561.length co28] rfl (by (try simp only [List.map_toArray, List.map_cons, List.map_nil]); first | done | rfl | (simp only [List.length_drop, List.length_take]; rfl)) ?_; (with_reducible refine (laws_lzPieces.calls kj2 _ _ t558 _ _ t561 true _ ?side1 ?side2 ?side3 ?side4 A16.out).mono ?_); (case side1 => repeat (first | exact (Kd.R_reads' HO560.out).2.2 | (with_reducible refine Kd.C_alloc ?_ _) | (with_reducible refine Kd.C_drewN ?_ _) | (with_reducible refine Kd.C_drew ?_))); (case side2 => exact (Kd.R_reads' HO560.out).2.1); (case side3 => repeat (first | exact (Kd.R_reads' HO563.out).2.2 | (with_reducible refine Kd.C_alloc ?_ _) | (with_reducible refine Kd.C_drewN ?_ _) | (with_reducible refine Kd.C_drew ?_))); (case side4 => exact (Kd.R_reads' HO563.out).2.1); rintro e w' ⟨rfl, ⟨nd, rfl⟩⟩; refine ⟨_, rfl, ?_⟩) | (go_at_call 22; (with_reducible refine (spec_TextOk.calls kj2 t554 false _ A18.out).mono ?_); rintro e w' ⟨rfl, ⟨nd, rfl⟩⟩))
       go_meet
       case rel => exact ⟨_, (true), (by first | rfl | (simp; done) | (simp [*]; done)), H', ⟨by have := HJ2.out; first | omega | exact Nat.le_refl _⟩, ⟨by (with_reducible repeat (first | apply Kd.R_alloc | apply Kd.R_drewN | apply Kd.R_drew)); exact Kd.R_mono HO560.out (fun _ hk => trivial)⟩, ⟨by (with_reducible repeat (first | refine blk_drewN ?_ _ | refine blk_drew ?_ | refine blk_alloc ?_ _)); exact BK557.out⟩, ⟨by repeat (first | (with_reducible first | exact HB.out | apply below_alloc | apply pw_below_drewN | apply below_drew1 | refine below_set ?_ GE557.out) | exact HB.out)⟩⟩
     ·replace c17 := Bool.eq_false_iff.mpr c17
      subst c17
      have H1 : (laws_FnNameIn.j1 kj2 l1 t554 t558 true t555 t556) = some r := by rw [if_neg (show ¬ (false = true) by decide)] at H; exact H
      clear H
      have H := H1
      clear H1
      have H' := Aside0.mk H
      clear H
      go_wp2_with (first | ((with_reducible refine gate_callee (f := 14) rfl ?_); refine goesL_ (some 29) rfl rfl Tryd.func14 (by kernel_rfl) rfl #[.string t554] rfl (by (try simp only [List.map_toArray, List.map_cons, List.map_nil]); first | done | rfl | (simp only [List.length_drop, List.length_take]; rfl)) ?_; (with_reducible refine (spec_TextPieces.calls kj2 t554 t561 _ A15.out).mono ?_); rintro e w29 ⟨v562, rfl, ho0, hb⟩; refine ⟨_, rfl, ?_⟩; have n0_ := Aside0.mk (Kd.R_elder' (by (with_reducible repeat (first | apply Kd.R_alloc | apply Kd.R_drewN | apply Kd.R_drew)); exact HO560.out) (Kd.R_base ho0) hb); have n1_ := Aside0.mk (Kd.R_lower (Kd.R_new' ho0 (Kd.R_lt (by (with_reducible repeat (first | apply Kd.R_alloc | apply Kd.R_drewN | apply Kd.R_drew)); exact HO560.out))) (below_size (by repeat (first | (with_reducible first | exact HB.out | apply below_alloc | apply pw_below_drewN | apply below_drew1 | refine below_set ?_ GE557.out) | exact HB.out)))); have n2_ := Aside0.mk (blk_below (g := gb557) (o := .cells #[.int .i64 t555, .int .i64 t556] 32 (0, 0)) (by (with_reducible repeat (first | refine blk_drewN ?_ _ | refine blk_drew ?_ | refine blk_alloc ?_ _)); exact BK557.out) hb); have n3_ := Aside0.mk (below_step (by repeat (first | (with_reducible first | exact HB.out | apply below_alloc | apply pw_below_drewN | apply below_drew1 | refine below_set ?_ GE557.out) | exact HB.out)) hb); clear HO560; clear BK557; clear HB; have HO560 := n0_; have HO563 := n1_; have BK557 := n2_; have HB := n3_; clear n0_ n1_ n2_ n3_; (try clear hb); (try clear hb2); (try clear hk); (try clear hi); (try clear ho0); obtain ⟨Ao30, co30, eo30⟩ := Kd.R_slice HO560.out; subst eo30; obtain ⟨Ao31, co31, eo31⟩ := Kd.R_slice HO563.out; subst eo31) | ((with_reducible refine gate_callee (f := 24) rfl ?_); refine goesL_ (some 30) rfl rfl Tryd.func24 (by kernel_rfl) rfl #[.slice Ao30 t558.length co30, .slice Ao31 t561.length co31] rfl (by (try simp only [List.map_toArray, List.map_cons, List.map_nil]); first | done | rfl | (simp only [List.length_drop, List.length_take]; rfl)) ?_; (with_reducible refine (laws_lzPieces.calls kj2 _ _ t558 _ _ t561 false _ ?side1 ?side2 ?side3 ?side4 A16.out).mono ?_); (case side1 => repeat (first | exact (Kd.R_reads' HO560.out).2.2 | (with_reducible refine Kd.C_alloc ?_ _) | (with_reducible refine Kd.C_drewN ?_ _) | (with_reducible refine Kd.C_drew ?_))); (case side2 => exact (Kd.R_reads' HO560.out).2.1); (case side3 => repeat (first | exact (Kd.R_reads' HO563.out).2.2 | (with_reducible refine Kd.C_alloc ?_ _) | (with_reducible refine Kd.C_drewN ?_ _) | (with_reducible refine Kd.C_drew ?_))); (case side4 => exact (Kd.R_reads' HO563.out).2.1); rintro e w' ⟨rfl, ⟨nd, rfl⟩⟩; refine ⟨_, rfl, ?_⟩))
      go_meet
      case rel => exact ⟨_, (true), (by first | rfl | (simp; done) | (simp [*]; done)), H', ⟨by have := HJ2.out; first | omega | exact Nat.le_refl _⟩, ⟨by (with_reducible repeat (first | apply Kd.R_alloc | apply Kd.R_drewN | apply Kd.R_drew)); exact Kd.R_mono HO560.out (fun _ hk => trivial)⟩, ⟨by (with_reducible repeat (first | refine blk_drewN ?_ _ | refine blk_drew ?_ | refine blk_alloc ?_ _)); exact BK557.out⟩, ⟨by repeat (first | (with_reducible first | exact HB.out | apply below_alloc | apply pw_below_drewN | apply below_drew1 | refine below_set ?_ GE557.out) | exact HB.out)⟩⟩
    case rest =>
     clear HC9
     try clear c1
     try clear c2
     try clear p2
     try clear c3
     try clear c4
     try clear c4b0
     try clear c4b1
     try clear c5
     try clear c11
     try clear c14
     try clear c15
     try clear c17
     try clear c19
     try clear c23
     try clear c24
     try clear hcz13_0
     try clear hcz13_1
     try clear hcz24_0
     try clear hcz24_1
     try clear hfz13_0
     try clear hfz13_1
     try clear hfz24_0
     try clear hfz24_1
     try clear p2
     obtain ⟨kq, x41_8, rfl, HA, HJ8, HO_7, BK557, HB⟩ := hcut
     cases kq with
     | zero => exact absurd HA.out (by simp [laws_FnNameIn.j1])
     | succ kj8 =>
      have H := HA.out
      clear HA
      simp only [laws_FnNameIn.j1] at H
      by_cases c32 : x41_8 = true
      ·subst c32
       have H1 : ((spec_TextPieces.f kj8 t554).bind fun t567 => ((laws_lzPieces.f kj8 t558 t567).bind fun t570 => (some t570))) = some r := by rw [if_pos rfl] at H; exact H
       clear H
       have H := H1
       clear H1
       replace H := Option.bind_eq_some_iff.mp H
       obtain ⟨t567, A330, H⟩ := H
       replace H : ((laws_lzPieces.f kj8 t558 t567).bind fun t570 => (some t570)) = some r := H
       have A33 := Aside0.mk A330
       clear A330
       replace H := Option.bind_eq_some_iff.mp H
       obtain ⟨t570, A340, H⟩ := H
       replace H : (some t570) = some r := H
       have A34 := Aside0.mk A340
       clear A340
       obtain rfl := Option.some.inj H
       go_wp2_with (first | ((with_reducible refine gate_callee (f := 14) rfl ?_); refine goesL_ (some 44) rfl rfl Tryd.func14 (by kernel_rfl) rfl #[.string t554] rfl (by (try simp only [List.map_toArray, List.map_cons, List.map_nil]); first | done | rfl | (simp only [List.length_drop, List.length_take]; rfl)) ?_; (with_reducible refine (spec_TextPieces.calls kj8 t554 t567 _ A33.out).mono ?_); rintro e w35 ⟨v568, rfl, ho0, hb⟩; refine ⟨_, rfl, ?_⟩; have n0_ := Aside0.mk (Kd.R_elder' (by (with_reducible repeat (first | apply Kd.R_alloc | apply Kd.R_drewN | apply Kd.R_drew)); exact HO_7.out) (Kd.R_base ho0) hb); have n1_ := Aside0.mk (Kd.R_lower (Kd.R_new' ho0 (Kd.R_lt (by (with_reducible repeat (first | apply Kd.R_alloc | apply Kd.R_drewN | apply Kd.R_drew)); exact HO_7.out))) (below_size (by repeat (first | (with_reducible first | exact HB.out | apply below_alloc | apply pw_below_drewN | apply below_drew1 | refine below_set ?_ GE557.out) | exact HB.out)))); have n2_ := Aside0.mk (blk_below (g := gb557) (o := .cells #[.int .i64 t555, .int .i64 t556] 32 (0, 0)) (by (with_reducible repeat (first | refine blk_drewN ?_ _ | refine blk_drew ?_ | refine blk_alloc ?_ _)); exact BK557.out) hb); have n3_ := Aside0.mk (below_step (by repeat (first | (with_reducible first | exact HB.out | apply below_alloc | apply pw_below_drewN | apply below_drew1 | refine below_set ?_ GE557.out) | exact HB.out)) hb); clear HO_7; clear BK557; clear HB; have HO_7 := n0_; have HO569 := n1_; have BK557 := n2_; have HB := n3_; clear n0_ n1_ n2_ n3_; (try clear hb); (try clear hb2); (try clear hk); (try clear hi); (try clear ho0); obtain ⟨Ao36, co36, eo36⟩ := Kd.R_slice HO_7.out; subst eo36; obtain ⟨Ao37, co37, eo37⟩ := Kd.R_slice HO569.out; subst eo37) | ((with_reducible refine gate_callee (f := 24) rfl ?_); refine goesL_ (some 45) rfl rfl Tryd.func24 (by kernel_rfl) rfl #[.slice Ao36 t558.length co36, .slice Ao37 t567.length co37] rfl (by (try simp only [List.map_toArray, List.map_cons, List.map_nil]); first | done | rfl | (simp only [List.length_drop, List.length_take]; rfl)) ?_; (with_reducible refine (laws_lzPieces.calls kj8 _ _ t558 _ _ t567 t570 _ ?side1 ?side2 ?side3 ?side4 A34.out).mono ?_); (case side1 => repeat (first | exact (Kd.R_reads' HO_7.out).2.2 | (with_reducible refine Kd.C_alloc ?_ _) | (with_reducible refine Kd.C_drewN ?_ _) | (with_reducible refine Kd.C_drew ?_))); (case side2 => exact (Kd.R_reads' HO_7.out).2.1); (case side3 => repeat (first | exact (Kd.R_reads' HO569.out).2.2 | (with_reducible refine Kd.C_alloc ?_ _) | (with_reducible refine Kd.C_drewN ?_ _) | (with_reducible refine Kd.C_drew ?_))); (case side4 => exact (Kd.R_reads' HO569.out).2.1); rintro e w' ⟨rfl, ⟨nd, rfl⟩⟩; refine ⟨_, rfl, ?_⟩))
       go_ret
       exact ⟨by first | rfl | (simp [errW_none, errW_some] <;> rfl) | (simp [*, errW_none, errW_some] <;> rfl) | (simp [errW_none, errW_some, pk_empty1, pk_empty2]; done) | (simp [*, errW_none, errW_some, pk_empty1, pk_empty2]; done), by repeat (first | (with_reducible first | exact HB.out | apply below_alloc | apply pw_below_drewN | apply below_drew1 | refine below_set ?_ GE557.out) | exact HB.out)⟩
      ·replace c32 := Bool.eq_false_iff.mpr c32
       subst c32
       have H1 : ((impl_EndText.f t555 t556).bind fun t571 => (if 1 + t571.size ≤ 9223372036854775807 then (if 1 + t571.size + 1 ≤ 9223372036854775807 then (if (wrap64 ((t558.length : Int) + 1)) = 0 then (none) else (if 0 ≤ ((l1.length : Int) % (wrap64 ((t558.length : Int) + 1))) then (if ((l1.length : Int) % (wrap64 ((t558.length : Int) + 1))) ≤ (t558.length : Int) then ((laws_lzSize.f kj8 (t558.take (((l1.length : Int) % (wrap64 ((t558.length : Int) + 1))) : Int).toNat)).bind fun t576 => (if (wrap64 ((t554.size : Int) + (1 + (t571.size : Int) + 1))) > 40 then (some true) else (if 0 ≤ t576 then (if t576 ≤ (t554.size : Int) then (if (t576 : Int).toNat + (1 + t571.size + 1) ≤ 9223372036854775807 then (if (t576 : Int).toNat + (1 + t571.size + 1) + (t554.size - (t576 : Int).toNat) ≤ 9223372036854775807 then ((impl_TextPieces.f kj8 (((t554.extract 0 (t576 : Int).toNat) ++ (((⟨#[64]⟩ : ByteArray) ++ t571) ++ (⟨#[59]⟩ : ByteArray))) ++ (t554.extract (t576 : Int).toNat t554.size))).bind fun t577 => (if (t577.length : Int) = (wrap64 ((t558.length : Int) + 1)) then (if ((l1.length : Int) % (wrap64 ((t558.length : Int) + 1))) ≤ (t577.length : Int) then ((laws_lzPieces.f kj8 (t577.take (((l1.length : Int) % (wrap64 ((t558.length : Int) + 1))) : Int).toNat) (t558.take (((l1.length : Int) % (wrap64 ((t558.length : Int) + 1))) : Int).toNat)).bind fun t588 => (if t588 = true then (if ((l1.length : Int) % (wrap64 ((t558.length : Int) + 1))) < (t577.length : Int) then (if (((rd_T34 t577 ((l1.length : Int) % (wrap64 ((t558.length : Int) + 1)))).f0) == (1 + (t571.size : Int) + 1) && (((rd_T34 t577 ((l1.length : Int) % (wrap64 ((t558.length : Int) + 1)))).f1) && ((((rd_T34 t577 ((l1.length : Int) % (wrap64 ((t558.length : Int) + 1)))).f2.f0) == t555 && (((rd_T34 t577 ((l1.length : Int) % (wrap64 ((t558.length : Int) + 1)))).f2.f1) == t556))))) = true then (if 0 ≤ (wrap64 (((l1.length : Int) % (wrap64 ((t558.length : Int) + 1))) + 1)) then (if (wrap64 (((l1.length : Int) % (wrap64 ((t558.length : Int) + 1))) + 1)) ≤ (t577.length : Int) then ((laws_lzPieces.f kj8 (t577.drop ((wrap64 (((l1.length : Int) % (wrap64 ((t558.length : Int) + 1))) + 1)) : Int).toNat) (t558.drop (((l1.length : Int) % (wrap64 ((t558.length : Int) + 1))) : Int).toNat)).bind fun t598 => (some t598)) else (none)) else (none)) else (some false)) else (none)) else (some false))) else (none)) else (some false))) else (none)) else (none)) else (none)) else (none)))) else (none)) else (none))) else (none)) else (none))) = some r := by rw [if_neg (show ¬ (false = true) by decide)] at H; exact H
       clear H
       have H := H1
       clear H1
       replace H := Option.bind_eq_some_iff.mp H
       obtain ⟨t571, A380, H⟩ := H
       replace H : (if 1 + t571.size ≤ 9223372036854775807 then (if 1 + t571.size + 1 ≤ 9223372036854775807 then (if (wrap64 ((t558.length : Int) + 1)) = 0 then (none) else (if 0 ≤ ((l1.length : Int) % (wrap64 ((t558.length : Int) + 1))) then (if ((l1.length : Int) % (wrap64 ((t558.length : Int) + 1))) ≤ (t558.length : Int) then ((laws_lzSize.f kj8 (t558.take (((l1.length : Int) % (wrap64 ((t558.length : Int) + 1))) : Int).toNat)).bind fun t576 => (if (wrap64 ((t554.size : Int) + (1 + (t571.size : Int) + 1))) > 40 then (some true) else (if 0 ≤ t576 then (if t576 ≤ (t554.size : Int) then (if (t576 : Int).toNat + (1 + t571.size + 1) ≤ 9223372036854775807 then (if (t576 : Int).toNat + (1 + t571.size + 1) + (t554.size - (t576 : Int).toNat) ≤ 9223372036854775807 then ((impl_TextPieces.f kj8 (((t554.extract 0 (t576 : Int).toNat) ++ (((⟨#[64]⟩ : ByteArray) ++ t571) ++ (⟨#[59]⟩ : ByteArray))) ++ (t554.extract (t576 : Int).toNat t554.size))).bind fun t577 => (if (t577.length : Int) = (wrap64 ((t558.length : Int) + 1)) then (if ((l1.length : Int) % (wrap64 ((t558.length : Int) + 1))) ≤ (t577.length : Int) then ((laws_lzPieces.f kj8 (t577.take (((l1.length : Int) % (wrap64 ((t558.length : Int) + 1))) : Int).toNat) (t558.take (((l1.length : Int) % (wrap64 ((t558.length : Int) + 1))) : Int).toNat)).bind fun t588 => (if t588 = true then (if ((l1.length : Int) % (wrap64 ((t558.length : Int) + 1))) < (t577.length : Int) then (if (((rd_T34 t577 ((l1.length : Int) % (wrap64 ((t558.length : Int) + 1)))).f0) == (1 + (t571.size : Int) + 1) && (((rd_T34 t577 ((l1.length : Int) % (wrap64 ((t558.length : Int) + 1)))).f1) && ((((rd_T34 t577 ((l1.length : Int) % (wrap64 ((t558.length : Int) + 1)))).f2.f0) == t555 && (((rd_T34 t577 ((l1.length : Int) % (wrap64 ((t558.length : Int) + 1)))).f2.f1) == t556))))) = true then (if 0 ≤ (wrap64 (((l1.length : Int) % (wrap64 ((t558.length : Int) + 1))) + 1)) then (if (wrap64 (((l1.length : Int) % (wrap64 ((t558.length : Int) + 1))) + 1)) ≤ (t577.length : Int) then ((laws_lzPieces.f kj8 (t577.drop ((wrap64 (((l1.length : Int) % (wrap64 ((t558.length : Int) + 1))) + 1)) : Int).toNat) (t558.drop (((l1.length : Int) % (wrap64 ((t558.length : Int) + 1))) : Int).toNat)).bind fun t598 => (some t598)) else (none)) else (none)) else (some false)) else (none)) else (some false))) else (none)) else (some false))) else (none)) else (none)) else (none)) else (none)))) else (none)) else (none))) else (none)) else (none)) = some r := H
       have A38 := Aside0.mk A380
       clear A380
       by_cases c39 : 1 + t571.size ≤ 9223372036854775807
       ·rw [if_pos c39] at H
        have c39b0 := eq_true c39
        have c39b1 : decide (1 + t571.size ≤ 9223372036854775807) = true := decide_eq_true c39
        try have c39b2 : (9223372036854775807 < 1 + t571.size) = False := eq_false (Nat.not_lt.2 c39)
        by_cases c40 : 1 + t571.size + 1 ≤ 9223372036854775807
        ·rw [if_pos c40] at H
         have c40b0 := eq_true c40
         have c40b1 : decide (1 + t571.size + 1 ≤ 9223372036854775807) = true := decide_eq_true c40
         try have c40b2 : (9223372036854775807 < 1 + t571.size + 1) = False := eq_false (Nat.not_lt.2 c40)
         by_cases c41 : (wrap64 ((t558.length : Int) + 1)) = 0
         ·rw [if_pos c41] at H
          exact absurd H (by simp)
         ·rw [if_neg c41] at H
          have c41b0 : ((wrap64 ((t558.length : Int) + 1)) == 0) = false := beq_eq_false_iff_ne.mpr c41
          have c41b1 : ((wrap64 ((t558.length : Int) + 1)) != 0) = true := bne_iff_ne.mpr c41
          obtain ⟨ji42, hji42⟩ : ∃ j_ : Int, ((l1.length : Int) % (wrap64 ((t558.length : Int) + 1))) = j_ := ⟨_, rfl⟩
          replace H : (if 0 ≤ (ji42) then (if (ji42) ≤ (t558.length : Int) then ((laws_lzSize.f kj8 (t558.take ((ji42) : Int).toNat)).bind fun t576 => (if (wrap64 ((t554.size : Int) + (1 + (t571.size : Int) + 1))) > 40 then (some true) else (if 0 ≤ t576 then (if t576 ≤ (t554.size : Int) then (if (t576 : Int).toNat + (1 + t571.size + 1) ≤ 9223372036854775807 then (if (t576 : Int).toNat + (1 + t571.size + 1) + (t554.size - (t576 : Int).toNat) ≤ 9223372036854775807 then ((impl_TextPieces.f kj8 (((t554.extract 0 (t576 : Int).toNat) ++ (((⟨#[64]⟩ : ByteArray) ++ t571) ++ (⟨#[59]⟩ : ByteArray))) ++ (t554.extract (t576 : Int).toNat t554.size))).bind fun t577 => (if (t577.length : Int) = (wrap64 ((t558.length : Int) + 1)) then (if (ji42) ≤ (t577.length : Int) then ((laws_lzPieces.f kj8 (t577.take ((ji42) : Int).toNat) (t558.take ((ji42) : Int).toNat)).bind fun t588 => (if t588 = true then (if (ji42) < (t577.length : Int) then (if (((rd_T34 t577 (ji42)).f0) == (1 + (t571.size : Int) + 1) && (((rd_T34 t577 (ji42)).f1) && ((((rd_T34 t577 (ji42)).f2.f0) == t555 && (((rd_T34 t577 (ji42)).f2.f1) == t556))))) = true then (if 0 ≤ (wrap64 ((ji42) + 1)) then (if (wrap64 ((ji42) + 1)) ≤ (t577.length : Int) then ((laws_lzPieces.f kj8 (t577.drop ((wrap64 ((ji42) + 1)) : Int).toNat) (t558.drop ((ji42) : Int).toNat)).bind fun t598 => (some t598)) else (none)) else (none)) else (some false)) else (none)) else (some false))) else (none)) else (some false))) else (none)) else (none)) else (none)) else (none)))) else (none)) else (none)) = some r := by first | (rw [hji42] at H; exact H) | (simp only [hji42] at H ⊢; exact H)
          (try rw [hji42] at A38)
          by_cases c43 : 0 ≤ (ji42)
          ·rw [if_pos c43] at H
           have c43b0 := eq_true c43
           have c43b1 : decide (0 ≤ (ji42)) = true := decide_eq_true c43
           clear c43
           by_cases c44 : (ji42) ≤ (t558.length : Int)
           ·rw [if_pos c44] at H
            have c44b0 := eq_true c44
            have c44b1 : decide ((ji42) ≤ (t558.length : Int)) = true := decide_eq_true c44
            clear c44
            obtain ⟨y572, hy572⟩ : ∃ y_ : List (S34), y_ = (t558.take ((ji42) : Int).toNat) := ⟨_, rfl⟩
            replace H : ((laws_lzSize.f kj8 y572).bind fun t576 => (if (wrap64 ((t554.size : Int) + (1 + (t571.size : Int) + 1))) > 40 then (some true) else (if 0 ≤ t576 then (if t576 ≤ (t554.size : Int) then (if (t576 : Int).toNat + (1 + t571.size + 1) ≤ 9223372036854775807 then (if (t576 : Int).toNat + (1 + t571.size + 1) + (t554.size - (t576 : Int).toNat) ≤ 9223372036854775807 then ((impl_TextPieces.f kj8 (((t554.extract 0 (t576 : Int).toNat) ++ (((⟨#[64]⟩ : ByteArray) ++ t571) ++ (⟨#[59]⟩ : ByteArray))) ++ (t554.extract (t576 : Int).toNat t554.size))).bind fun t577 => (if (t577.length : Int) = (wrap64 ((t558.length : Int) + 1)) then (if (ji42) ≤ (t577.length : Int) then ((laws_lzPieces.f kj8 (t577.take ((ji42) : Int).toNat) (t558.take ((ji42) : Int).toNat)).bind fun t588 => (if t588 = true then (if (ji42) < (t577.length : Int) then (if (((rd_T34 t577 (ji42)).f0) == (1 + (t571.size : Int) + 1) && (((rd_T34 t577 (ji42)).f1) && ((((rd_T34 t577 (ji42)).f2.f0) == t555 && (((rd_T34 t577 (ji42)).f2.f1) == t556))))) = true then (if 0 ≤ (wrap64 ((ji42) + 1)) then (if (wrap64 ((ji42) + 1)) ≤ (t577.length : Int) then ((laws_lzPieces.f kj8 (t577.drop ((wrap64 ((ji42) + 1)) : Int).toNat) (t558.drop ((ji42) : Int).toNat)).bind fun t598 => (some t598)) else (none)) else (none)) else (some false)) else (none)) else (some false))) else (none)) else (some false))) else (none)) else (none)) else (none)) else (none)))) = some r := by first | (rw [hy572]; with_reducible exact H) | (have H2_ := (Option.bind_some _ _).symm.trans H; rw [hy572]; with_reducible exact H2_) | (have H2_ := (Option.bind_some _ _).symm.trans H; with_reducible exact H2_) | with_reducible exact H | (rw [hy572]; exact H) | exact H
            have Ny572 := Aside0.mk hy572
            clear hy572
            replace H := Option.bind_eq_some_iff.mp H
            obtain ⟨t576, A450, H⟩ := H
            replace H : (if (wrap64 ((t554.size : Int) + (1 + (t571.size : Int) + 1))) > 40 then (some true) else (if 0 ≤ t576 then (if t576 ≤ (t554.size : Int) then (if (t576 : Int).toNat + (1 + t571.size + 1) ≤ 9223372036854775807 then (if (t576 : Int).toNat + (1 + t571.size + 1) + (t554.size - (t576 : Int).toNat) ≤ 9223372036854775807 then ((impl_TextPieces.f kj8 (((t554.extract 0 (t576 : Int).toNat) ++ (((⟨#[64]⟩ : ByteArray) ++ t571) ++ (⟨#[59]⟩ : ByteArray))) ++ (t554.extract (t576 : Int).toNat t554.size))).bind fun t577 => (if (t577.length : Int) = (wrap64 ((t558.length : Int) + 1)) then (if (ji42) ≤ (t577.length : Int) then ((laws_lzPieces.f kj8 (t577.take ((ji42) : Int).toNat) (t558.take ((ji42) : Int).toNat)).bind fun t588 => (if t588 = true then (if (ji42) < (t577.length : Int) then (if (((rd_T34 t577 (ji42)).f0) == (1 + (t571.size : Int) + 1) && (((rd_T34 t577 (ji42)).f1) && ((((rd_T34 t577 (ji42)).f2.f0) == t555 && (((rd_T34 t577 (ji42)).f2.f1) == t556))))) = true then (if 0 ≤ (wrap64 ((ji42) + 1)) then (if (wrap64 ((ji42) + 1)) ≤ (t577.length : Int) then ((laws_lzPieces.f kj8 (t577.drop ((wrap64 ((ji42) + 1)) : Int).toNat) (t558.drop ((ji42) : Int).toNat)).bind fun t598 => (some t598)) else (none)) else (none)) else (some false)) else (none)) else (some false))) else (none)) else (some false))) else (none)) else (none)) else (none)) else (none))) = some r := H
            have A45 := Aside0.mk A450
            clear A450
            by_cases c46 : (wrap64 ((t554.size : Int) + (1 + (t571.size : Int) + 1))) > 40
            ·rw [if_pos c46] at H
             have c46b0 : decide (40 < (wrap64 ((t554.size : Int) + (1 + (t571.size : Int) + 1)))) = true := decide_eq_true c46
             clear c46
             obtain rfl := Option.some.inj H
             have hcz47_0 : wc.cell? ⟨gb557, 0, none⟩ = some (.int .i64 t555) := (blk_cell BK557.out 0).trans rfl
             have hcz47_1 : wc.cell? ⟨gb557, 1, none⟩ = some (.int .i64 t556) := (blk_cell BK557.out 1).trans rfl
             have hfz47_0 := blk_frozen BK557.out 0
             have hfz47_1 := blk_frozen BK557.out 1
             go_wp2_with (first | ((with_reducible refine gate_callee (f := 26) rfl ?_); refine goesL_ (some 47) rfl rfl Tryd.func26 (by kernel_rfl) rfl #[.agg #[.int .i64 t555, .int .i64 t556]] rfl (by (try simp only [List.map_toArray, List.map_cons, List.map_nil]); first | done | rfl | (simp only [List.length_drop, List.length_take]; rfl)) ?_; (with_reducible refine (impl_EndText.calls t555 t556 t571 _ A38.out).mono ?_); rintro e w48 ⟨rfl, hb⟩; refine ⟨_, rfl, ?_⟩; have n0_ := Aside0.mk (Kd.R_below (by (with_reducible repeat (first | apply Kd.R_alloc | apply Kd.R_drewN | apply Kd.R_drew)); exact HO_7.out) hb); have n1_ := Aside0.mk (blk_below (g := gb557) (o := .cells #[.int .i64 t555, .int .i64 t556] 32 (0, 0)) (by (with_reducible repeat (first | refine blk_drewN ?_ _ | refine blk_drew ?_ | refine blk_alloc ?_ _)); exact BK557.out) hb); have n2_ := Aside0.mk (below_step (by repeat (first | (with_reducible first | exact HB.out | apply below_alloc | apply pw_below_drewN | apply below_drew1 | refine below_set ?_ GE557.out) | exact HB.out)) hb); clear HO_7; clear BK557; clear HB; have HO_7 := n0_; have BK557 := n1_; have HB := n2_; clear n0_ n1_ n2_; (try clear hb); (try clear hb2); (try clear hk); (try clear hi); obtain ⟨Ao49, co49, eo49⟩ := Kd.R_slice HO_7.out; subst eo49; have q50 : ((ji42) : Int) ≤ ((t558.length : Int) : Int) := of_decide_eq_true (by first | (with_reducible assumption) | assumption); obtain ⟨i050, hi050, _, hsz50, _⟩ := info_parts info34; have hroom50 : t558.length ≤ co49 := (Kd.R_reads' HO_7.out).2.1; have hC50 : Kd.C k34 _ Ao49 t558.length t558 := (Kd.R_reads' HO_7.out).2.2; have hcut50 := cut_to (P := Tryd.prog) 22 34 .i64 Tryd.underlying22 hi050 Ao49 t558.length co49 (ji42) (of_decide_eq_true (by first | (with_reducible assumption) | assumption)) q50 hroom50; have hr50 := Kd.C_take (m := ((ji42) : Int).toNat) hC50 (by omega); have hy50 : y572.length = ((ji42) : Int).toNat := (by rw [Ny572.out, List.length_take]; omega); rw [← Ny572.out] at hr50; rw [← hy50] at hcut50; have HR575 := Aside0.mk hr50; have HC575 := Aside0.mk (show y572.length ≤ co49 from by omega); clear hr50 hC50 hroom50 hi050 hsz50; have KY50 := Aside0.mk hy50; clear hy50; have KL50 := Aside0.mk (show ((ji42) : Int).toNat ≤ t558.length from by omega); replace q50 := eq_true q50) | ((with_reducible refine gate_callee (f := 34) rfl ?_); refine goesL_ (some 59) rfl rfl Tryd.func34 (by kernel_rfl) rfl #[.slice Ao49 y572.length co49] rfl (by (try simp only [List.map_toArray, List.map_cons, List.map_nil]); first | done | rfl | (simp only [List.length_drop, List.length_take]; rfl)) ?_; (with_reducible refine (laws_lzSize.calls kj8 _ _ y572 t576 _ ?side1 ?side2 A45.out).mono ?_); (case side1 => repeat (first | exact (by repeat (first | (with_reducible exact HR575.out) | (with_reducible refine Kd.C_alloc ?_ _) | (with_reducible refine Kd.C_drewN ?_ _) | (with_reducible refine Kd.C_drew ?_) | exact HR575.out)) | (with_reducible refine Kd.C_alloc ?_ _) | (with_reducible refine Kd.C_drewN ?_ _) | (with_reducible refine Kd.C_drew ?_))); (case side2 => exact HC575.out); rintro e w' ⟨rfl, ⟨nd, rfl⟩⟩; refine ⟨_, rfl, ?_⟩))
             go_ret
             exact ⟨by first | rfl | (simp [errW_none, errW_some] <;> rfl) | (simp only [← hji42]; first | rfl | (simp [errW_none, errW_some] <;> rfl)) | (simp [*, errW_none, errW_some] <;> rfl) | (simp [errW_none, errW_some, pk_empty1, pk_empty2]; done) | (simp [*, errW_none, errW_some, pk_empty1, pk_empty2]; done), by repeat (first | (with_reducible first | exact HB.out | apply below_alloc | apply pw_below_drewN | apply below_drew1 | refine below_set ?_ GE557.out) | exact HB.out)⟩
            ·rw [if_neg c46] at H
             have c46b0 : decide (40 < (wrap64 ((t554.size : Int) + (1 + (t571.size : Int) + 1)))) = false := decide_eq_false c46
             clear c46
             by_cases c51 : 0 ≤ t576
             ·rw [if_pos c51] at H
              have c51b0 := eq_true c51
              have c51b1 : decide (0 ≤ t576) = true := decide_eq_true c51
              clear c51
              by_cases c52 : t576 ≤ (t554.size : Int)
              ·rw [if_pos c52] at H
               have c52b0 := eq_true c52
               have c52b1 : decide (t576 ≤ (t554.size : Int)) = true := decide_eq_true c52
               clear c52
               by_cases c53 : (t576 : Int).toNat + (1 + t571.size + 1) ≤ 9223372036854775807
               ·rw [if_pos c53] at H
                have c53b0 := eq_true c53
                have c53b1 : decide ((t576 : Int).toNat + (1 + t571.size + 1) ≤ 9223372036854775807) = true := decide_eq_true c53
                try have c53b2 : (9223372036854775807 < (t576 : Int).toNat + (1 + t571.size + 1)) = False := eq_false (Nat.not_lt.2 c53)
                clear c53
                have c54b0 := eq_true (of_decide_eq_true (by first | (with_reducible assumption) | assumption) : 0 ≤ t576)
                have c55b0 := eq_true (of_decide_eq_true (by first | (with_reducible assumption) | assumption) : t576 ≤ (t554.size : Int))
                by_cases c56 : (t576 : Int).toNat + (1 + t571.size + 1) + (t554.size - (t576 : Int).toNat) ≤ 9223372036854775807
                ·rw [if_pos c56] at H
                 have c56b0 := eq_true c56
                 have c56b1 : decide ((t576 : Int).toNat + (1 + t571.size + 1) + (t554.size - (t576 : Int).toNat) ≤ 9223372036854775807) = true := decide_eq_true c56
                 try have c56b2 : (9223372036854775807 < (t576 : Int).toNat + (1 + t571.size + 1) + (t554.size - (t576 : Int).toNat)) = False := eq_false (Nat.not_lt.2 c56)
                 clear c56
                 replace H := Option.bind_eq_some_iff.mp H
                 obtain ⟨t577, A570, H⟩ := H
                 replace H : (if (t577.length : Int) = (wrap64 ((t558.length : Int) + 1)) then (if (ji42) ≤ (t577.length : Int) then ((laws_lzPieces.f kj8 (t577.take ((ji42) : Int).toNat) (t558.take ((ji42) : Int).toNat)).bind fun t588 => (if t588 = true then (if (ji42) < (t577.length : Int) then (if (((rd_T34 t577 (ji42)).f0) == (1 + (t571.size : Int) + 1) && (((rd_T34 t577 (ji42)).f1) && ((((rd_T34 t577 (ji42)).f2.f0) == t555 && (((rd_T34 t577 (ji42)).f2.f1) == t556))))) = true then (if 0 ≤ (wrap64 ((ji42) + 1)) then (if (wrap64 ((ji42) + 1)) ≤ (t577.length : Int) then ((laws_lzPieces.f kj8 (t577.drop ((wrap64 ((ji42) + 1)) : Int).toNat) (t558.drop ((ji42) : Int).toNat)).bind fun t598 => (some t598)) else (none)) else (none)) else (some false)) else (none)) else (some false))) else (none)) else (some false)) = some r := H
                 have A57 := Aside0.mk A570
                 clear A570
                 by_cases c58 : (t577.length : Int) = (wrap64 ((t558.length : Int) + 1))
                 ·rw [if_pos c58] at H
                  have c58b0 : ((t577.length : Int) == (wrap64 ((t558.length : Int) + 1))) = true := beq_iff_eq.mpr c58
                  have c58b1 : ((t577.length : Int) != (wrap64 ((t558.length : Int) + 1))) = false := bne_eq_false_iff_eq.mpr c58
                  clear c58
                  have c59b0 := eq_true (of_decide_eq_true (by first | (with_reducible assumption) | assumption) : 0 ≤ (ji42))
                  by_cases c60 : (ji42) ≤ (t577.length : Int)
                  ·rw [if_pos c60] at H
                   have c60b0 := eq_true c60
                   have c60b1 : decide ((ji42) ≤ (t577.length : Int)) = true := decide_eq_true c60
                   clear c60
                   obtain ⟨y580, hy580⟩ : ∃ y_ : List (S34), y_ = (t577.take ((ji42) : Int).toNat) := ⟨_, rfl⟩
                   replace H : ((laws_lzPieces.f kj8 y580 (t558.take ((ji42) : Int).toNat)).bind fun t588 => (if t588 = true then (if (ji42) < (t577.length : Int) then (if (((rd_T34 t577 (ji42)).f0) == (1 + (t571.size : Int) + 1) && (((rd_T34 t577 (ji42)).f1) && ((((rd_T34 t577 (ji42)).f2.f0) == t555 && (((rd_T34 t577 (ji42)).f2.f1) == t556))))) = true then (if 0 ≤ (wrap64 ((ji42) + 1)) then (if (wrap64 ((ji42) + 1)) ≤ (t577.length : Int) then ((laws_lzPieces.f kj8 (t577.drop ((wrap64 ((ji42) + 1)) : Int).toNat) (t558.drop ((ji42) : Int).toNat)).bind fun t598 => (some t598)) else (none)) else (none)) else (some false)) else (none)) else (some false))) = some r := by first | (rw [hy580]; with_reducible exact H) | (have H2_ := (Option.bind_some _ _).symm.trans H; rw [hy580]; with_reducible exact H2_) | (have H2_ := (Option.bind_some _ _).symm.trans H; with_reducible exact H2_) | with_reducible exact H | (rw [hy580]; exact H) | exact H
                   have Ny580 := Aside0.mk hy580
                   clear hy580
                   have c61b0 := eq_true (of_decide_eq_true (by first | (with_reducible assumption) | assumption) : 0 ≤ (ji42))
                   have c62b0 := eq_true (of_decide_eq_true (by first | (with_reducible assumption) | assumption) : (ji42) ≤ (t558.length : Int))
                   obtain ⟨y584, hy584⟩ : ∃ y_ : List (S34), y_ = (t558.take ((ji42) : Int).toNat) := ⟨_, rfl⟩
                   replace H : ((laws_lzPieces.f kj8 y580 y584).bind fun t588 => (if t588 = true then (if (ji42) < (t577.length : Int) then (if (((rd_T34 t577 (ji42)).f0) == (1 + (t571.size : Int) + 1) && (((rd_T34 t577 (ji42)).f1) && ((((rd_T34 t577 (ji42)).f2.f0) == t555 && (((rd_T34 t577 (ji42)).f2.f1) == t556))))) = true then (if 0 ≤ (wrap64 ((ji42) + 1)) then (if (wrap64 ((ji42) + 1)) ≤ (t577.length : Int) then ((laws_lzPieces.f kj8 (t577.drop ((wrap64 ((ji42) + 1)) : Int).toNat) (t558.drop ((ji42) : Int).toNat)).bind fun t598 => (some t598)) else (none)) else (none)) else (some false)) else (none)) else (some false))) = some r := by first | (rw [hy584]; with_reducible exact H) | (have H2_ := (Option.bind_some _ _).symm.trans H; rw [hy584]; with_reducible exact H2_) | (have H2_ := (Option.bind_some _ _).symm.trans H; with_reducible exact H2_) | with_reducible exact H | (rw [hy584]; exact H) | exact H
                   have Ny584 := Aside0.mk hy584
                   clear hy584
                   obtain rfl : y572 = y584 := Ny572.out.trans Ny584.out.symm
                   replace H := Option.bind_eq_some_iff.mp H
                   obtain ⟨t588, A630, H⟩ := H
                   replace H : (if t588 = true then (if (ji42) < (t577.length : Int) then (if (((rd_T34 t577 (ji42)).f0) == (1 + (t571.size : Int) + 1) && (((rd_T34 t577 (ji42)).f1) && ((((rd_T34 t577 (ji42)).f2.f0) == t555 && (((rd_T34 t577 (ji42)).f2.f1) == t556))))) = true then (if 0 ≤ (wrap64 ((ji42) + 1)) then (if (wrap64 ((ji42) + 1)) ≤ (t577.length : Int) then ((laws_lzPieces.f kj8 (t577.drop ((wrap64 ((ji42) + 1)) : Int).toNat) (t558.drop ((ji42) : Int).toNat)).bind fun t598 => (some t598)) else (none)) else (none)) else (some false)) else (none)) else (some false)) = some r := H
                   have A63 := Aside0.mk A630
                   clear A630
                   by_cases c64 : t588 = true
                   ·subst c64
                    have H1 : (if (ji42) < (t577.length : Int) then (if (((rd_T34 t577 (ji42)).f0) == (1 + (t571.size : Int) + 1) && (((rd_T34 t577 (ji42)).f1) && ((((rd_T34 t577 (ji42)).f2.f0) == t555 && (((rd_T34 t577 (ji42)).f2.f1) == t556))))) = true then (if 0 ≤ (wrap64 ((ji42) + 1)) then (if (wrap64 ((ji42) + 1)) ≤ (t577.length : Int) then ((laws_lzPieces.f kj8 (t577.drop ((wrap64 ((ji42) + 1)) : Int).toNat) (t558.drop ((ji42) : Int).toNat)).bind fun t598 => (some t598)) else (none)) else (none)) else (some false)) else (none)) = some r := by rw [if_pos rfl] at H; exact H
                    clear H
                    have H := H1
                    clear H1
                    by_cases c65 : (ji42) < (t577.length : Int)
                    ·rw [if_pos c65] at H
                     have c65b0 : decide ((ji42) < (t577.length : Int)) = true := decide_eq_true c65
                     clear c65
                     by_cases c66 : (((rd_T34 t577 (ji42)).f0) == (1 + (t571.size : Int) + 1) && (((rd_T34 t577 (ji42)).f1) && ((((rd_T34 t577 (ji42)).f2.f0) == t555 && (((rd_T34 t577 (ji42)).f2.f1) == t556))))) = true
                     ·rw [if_pos c66] at H
                      have c66b0 : (((rd_T34 t577 (ji42)).f0) == (1 + (t571.size : Int) + 1) && (((rd_T34 t577 (ji42)).f1) && ((((rd_T34 t577 (ji42)).f2.f0) == t555 && (((rd_T34 t577 (ji42)).f2.f1) == t556))))) = true := c66
                      (try (have c66b1 : decide (((rd_T34 t577 (ji42)).f0) = (1 + (t571.size : Int) + 1) && (((rd_T34 t577 (ji42)).f1) && ((((rd_T34 t577 (ji42)).f2.f0) == t555 && (((rd_T34 t577 (ji42)).f2.f1) == t556))))) = true := by simpa using c66))
                      (try (have c66b2 : (((rd_T34 t577 (ji42)).f0) == (1 + (t571.size : Int) + 1) && (((rd_T34 t577 (ji42)).f1) && ((((rd_T34 t577 (ji42)).f2.f0) == t555 && (((rd_T34 t577 (ji42)).f2.f1) == t556))))) = true := by simpa using c66))
                      clear c66
                      obtain ⟨ji67, hji67⟩ : ∃ j_ : Int, (wrap64 ((ji42) + 1)) = j_ := ⟨_, rfl⟩
                      replace H : (if 0 ≤ (ji67) then (if (ji67) ≤ (t577.length : Int) then ((laws_lzPieces.f kj8 (t577.drop ((ji67) : Int).toNat) (t558.drop ((ji42) : Int).toNat)).bind fun t598 => (some t598)) else (none)) else (none)) = some r := by first | (rw [hji67] at H; exact H) | (simp only [hji67] at H ⊢; exact H)
                      (try rw [hji67] at A38)
                      (try rw [hji67] at A45)
                      (try rw [hji67] at A57)
                      (try rw [hji67] at A63)
                      have hji67w : (IntKind.i64.wrap ((ji42) + 1)) = ji67 := (i64_w _).trans hji67
                      by_cases c68 : 0 ≤ (ji67)
                      ·rw [if_pos c68] at H
                       have c68b0 := eq_true c68
                       have c68b1 : decide (0 ≤ (ji67)) = true := decide_eq_true c68
                       clear c68
                       by_cases c69 : (ji67) ≤ (t577.length : Int)
                       ·rw [if_pos c69] at H
                        have c69b0 := eq_true c69
                        have c69b1 : decide ((ji67) ≤ (t577.length : Int)) = true := decide_eq_true c69
                        clear c69
                        obtain ⟨y590, hy590⟩ : ∃ y_ : List (S34), y_ = (t577.drop ((ji67) : Int).toNat) := ⟨_, rfl⟩
                        replace H : ((laws_lzPieces.f kj8 y590 (t558.drop ((ji42) : Int).toNat)).bind fun t598 => (some t598)) = some r := by first | (rw [hy590]; with_reducible exact H) | (have H2_ := (Option.bind_some _ _).symm.trans H; rw [hy590]; with_reducible exact H2_) | (have H2_ := (Option.bind_some _ _).symm.trans H; with_reducible exact H2_) | with_reducible exact H | (rw [hy590]; exact H) | exact H
                        have Ny590 := Aside0.mk hy590
                        clear hy590
                        have c70b0 := eq_true (of_decide_eq_true (by first | (with_reducible assumption) | assumption) : 0 ≤ (ji42))
                        have c71b0 := eq_true (of_decide_eq_true (by first | (with_reducible assumption) | assumption) : (ji42) ≤ (t558.length : Int))
                        obtain ⟨y594, hy594⟩ : ∃ y_ : List (S34), y_ = (t558.drop ((ji42) : Int).toNat) := ⟨_, rfl⟩
                        replace H : ((laws_lzPieces.f kj8 y590 y594).bind fun t598 => (some t598)) = some r := by first | (rw [hy594]; with_reducible exact H) | (have H2_ := (Option.bind_some _ _).symm.trans H; rw [hy594]; with_reducible exact H2_) | (have H2_ := (Option.bind_some _ _).symm.trans H; with_reducible exact H2_) | with_reducible exact H | (rw [hy594]; exact H) | exact H
                        have Ny594 := Aside0.mk hy594
                        clear hy594
                        replace H := Option.bind_eq_some_iff.mp H
                        obtain ⟨t598, A720, H⟩ := H
                        replace H : (some t598) = some r := H
                        have A72 := Aside0.mk A720
                        clear A720
                        obtain rfl := Option.some.inj H
                        have hcz73_0 : wc.cell? ⟨gb557, 0, none⟩ = some (.int .i64 t555) := (blk_cell BK557.out 0).trans rfl
                        have hcz73_1 : wc.cell? ⟨gb557, 1, none⟩ = some (.int .i64 t556) := (blk_cell BK557.out 1).trans rfl
                        have hfz73_0 := blk_frozen BK557.out 0
                        have hfz73_1 := blk_frozen BK557.out 1
                        try go_wp2_with (first | ((with_reducible refine gate_callee (f := 26) rfl ?_); refine goesL_ (some 47) rfl rfl Tryd.func26 (by kernel_rfl) rfl #[.agg #[.int .i64 t555, .int .i64 t556]] rfl (by (try simp only [List.map_toArray, List.map_cons, List.map_nil]); first | done | rfl | (simp only [List.length_drop, List.length_take]; rfl)) ?_; (with_reducible refine (impl_EndText.calls t555 t556 t571 _ A38.out).mono ?_); rintro e w74 ⟨rfl, hb⟩; refine ⟨_, rfl, ?_⟩; have n0_ := Aside0.mk (Kd.R_below (by (with_reducible repeat (first | apply Kd.R_alloc | apply Kd.R_drewN | apply Kd.R_drew)); exact HO_7.out) hb); have n1_ := Aside0.mk (blk_below (g := gb557) (o := .cells #[.int .i64 t555, .int .i64 t556] 32 (0, 0)) (by (with_reducible repeat (first | refine blk_drewN ?_ _ | refine blk_drew ?_ | refine blk_alloc ?_ _)); exact BK557.out) hb); have n2_ := Aside0.mk (below_step (by repeat (first | (with_reducible first | exact HB.out | apply below_alloc | apply pw_below_drewN | apply below_drew1 | refine below_set ?_ GE557.out) | exact HB.out)) hb); clear HO_7; clear BK557; clear HB; have HO_7 := n0_; have BK557 := n1_; have HB := n2_; clear n0_ n1_ n2_; (try clear hb); (try clear hb2); (try clear hk); (try clear hi); obtain ⟨Ao75, co75, eo75⟩ := Kd.R_slice HO_7.out; subst eo75; have q76 : ((ji42) : Int) ≤ ((t558.length : Int) : Int) := of_decide_eq_true (by first | (with_reducible assumption) | assumption); obtain ⟨i076, hi076, _, hsz76, _⟩ := info_parts info34; have hroom76 : t558.length ≤ co75 := (Kd.R_reads' HO_7.out).2.1; have hC76 : Kd.C k34 _ Ao75 t558.length t558 := (Kd.R_reads' HO_7.out).2.2; have hcut76 := cut_to (P := Tryd.prog) 22 34 .i64 Tryd.underlying22 hi076 Ao75 t558.length co75 (ji42) (of_decide_eq_true (by first | (with_reducible assumption) | assumption)) q76 hroom76; have hr76 := Kd.C_take (m := ((ji42) : Int).toNat) hC76 (by omega); have hy76 : y572.length = ((ji42) : Int).toNat := (by rw [Ny572.out, List.length_take]; omega); rw [← Ny572.out] at hr76; rw [← hy76] at hcut76; have HR575 := Aside0.mk hr76; have HC575 := Aside0.mk (show y572.length ≤ co75 from by omega); clear hr76 hC76 hroom76 hi076 hsz76; have KY76 := Aside0.mk hy76; clear hy76; have KL76 := Aside0.mk (show ((ji42) : Int).toNat ≤ t558.length from by omega); replace q76 := eq_true q76) | ((with_reducible refine gate_callee (f := 34) rfl ?_); refine goesL_ (some 59) rfl rfl Tryd.func34 (by kernel_rfl) rfl #[.slice Ao75 y572.length co75] rfl (by (try simp only [List.map_toArray, List.map_cons, List.map_nil]); first | done | rfl | (simp only [List.length_drop, List.length_take]; rfl)) ?_; (with_reducible refine (laws_lzSize.calls kj8 _ _ y572 t576 _ ?side1 ?side2 A45.out).mono ?_); (case side1 => repeat (first | exact (by repeat (first | (with_reducible exact HR575.out) | (with_reducible refine Kd.C_alloc ?_ _) | (with_reducible refine Kd.C_drewN ?_ _) | (with_reducible refine Kd.C_drew ?_) | exact HR575.out)) | (with_reducible refine Kd.C_alloc ?_ _) | (with_reducible refine Kd.C_drewN ?_ _) | (with_reducible refine Kd.C_drew ?_))); (case side2 => exact HC575.out); rintro e w' ⟨rfl, ⟨nd, rfl⟩⟩; refine ⟨_, rfl, ?_⟩))
                        (try (rw [drewN_self w74]; generalize hq_ : World.drewN w74 _ = w74; have n0_ : Aside0 (Kd.R k34 34 w74 w.heap.size (fun _ => True) (.slice Ao75 t558.length co75) t558) := ⟨by rw [← hq_]; exact (by (with_reducible repeat (first | apply Kd.R_alloc | apply Kd.R_drewN | apply Kd.R_drew)); exact HO_7.out)⟩; have n1_ : Aside0 (w74.heap[gb557]? = some (.cells #[.int .i64 t555, .int .i64 t556] 32 (0, 0))) := ⟨by rw [← hq_]; exact (by (with_reducible repeat (first | refine blk_drewN ?_ _ | refine blk_drew ?_ | refine blk_alloc ?_ _)); exact BK557.out)⟩; have n2_ : Aside0 (Below w.heap.size w w74) := ⟨by rw [← hq_]; exact (by repeat (first | (with_reducible first | exact HB.out | apply below_alloc | apply pw_below_drewN | apply below_drew1 | refine below_set ?_ GE557.out) | exact HB.out))⟩; have n3_ : Aside0 (Kd.C k34 w74 Ao75 y572.length y572) := ⟨by rw [← hq_]; exact (by repeat (first | (with_reducible exact HR575.out) | (with_reducible refine Kd.C_alloc ?_ _) | (with_reducible refine Kd.C_drewN ?_ _) | (with_reducible refine Kd.C_drew ?_) | exact HR575.out))⟩; clear HO_7 BK557 HB HR575 hq_; have HO_7 := n0_; have BK557 := n1_; have HB := n2_; have HR575 := n3_; clear n0_ n1_ n2_ n3_))
                        have n0_ := Aside0.mk (Kd.R_drew HO_7.out)
                        have n1_ := Aside0.mk (blk_drew BK557.out)
                        have n2_ := Aside0.mk (Kd.C_drew HR575.out)
                        have n3_ := Aside0.mk (below_drew1 HB.out)
                        clear HO_7
                        clear BK557
                        clear HR575
                        clear HB
                        have HO_7 := n0_
                        have BK557 := n1_
                        have HR575 := n2_
                        have HB := n3_
                        clear n0_ n1_ n2_ n3_
                        refine start_ (n := 11) (S := fun w' => True) (ds := []) #[false,false,false,false,false,false,false,false,false,false,false] (by kernel_rfl) rfl rfl trivial (fun hHeld => ?_); refine with_tabW laws_FnNameIn.tab13 laws_FnNameIn.bits13 (fun HT_ HW_ => ?_)
                        generalize w74.drew = w77 at HO_7 BK557 HR575 HB hHeld ⊢
                        refine pure_ (i := 0) (N := some 66) (v := ?_) (a' := ?_) #[true,false,false,false,false,false,false,false,false,false,false] rfl rfl (any_of HT_.out (by kernel_rfl)) (fun _ _ _ h => h) (Or.inl ⟨by rfl, ?_⟩) ?_ ?_
                        rotate_left
                        ·intro w'
                         go_simp
                         with_reducible rfl
                        rotate_left
                        ·simp only [Act.put, s1_, s2_, s3_, i64_w, i32_w]
                         rfl
                        refine pure_ (i := 1) (N := some 67) (v := ?_) (a' := ?_) #[true,true,false,false,false,false,false,false,false,false,false] rfl rfl (any_of HT_.out (by kernel_rfl)) (fun _ _ _ h => h) (Or.inl ⟨by rfl, ?_⟩) ?_ ?_
                        rotate_left
                        ·intro w'
                         go_simp
                         with_reducible rfl
                        rotate_left
                        ·simp only [Act.put, s1_, s2_, s3_, i64_w, i32_w]
                         rfl
                        refine pure_ (i := 2) (N := some 68) (v := ?_) (a' := ?_) #[true,true,true,false,false,false,false,false,false,false,false] rfl rfl (any_of HT_.out (by kernel_rfl)) (fun _ _ _ h => h) (Or.inl ⟨by rfl, ?_⟩) ?_ ?_
                        rotate_left
                        ·intro w'
                         go_simp
                         with_reducible rfl
                        rotate_left
                        ·simp only [Act.put, s1_, s2_, s3_, i64_w, i32_w]
                         rfl
                        refine pure_ (i := 3) (N := some 69) (v := ?_) (a' := ?_) #[true,true,true,true,false,false,false,false,false,false,false] rfl rfl (any_of HT_.out (by kernel_rfl)) (fun _ _ _ h => h) (Or.inl ⟨by rfl, ?_⟩) ?_ ?_
                        rotate_left
                        ·intro w'
                         go_simp
                         with_reducible rfl
                        rotate_left
                        ·simp only [Act.put, s1_, s2_, s3_, i64_w, i32_w]
                         rfl
                        refine pure_ (i := 4) (N := some 70) (v := ?_) (a' := ?_) #[true,true,true,true,true,false,false,false,false,false,false] rfl rfl (any_of HT_.out (by kernel_rfl)) (fun _ _ _ h => h) (Or.inl ⟨by rfl, ?_⟩) ?_ ?_
                        rotate_left
                        ·intro w'
                         go_simp
                         with_reducible rfl
                        rotate_left
                        ·simp only [Act.put, s1_, s2_, s3_, i64_w, i32_w]
                         rfl
                        refine pure_ (i := 5) (N := some 71) (v := ?_) (a' := ?_) #[true,true,true,true,true,true,false,false,false,false,false] rfl rfl (any_of HT_.out (by kernel_rfl)) (fun _ _ _ h => h) (Or.inl ⟨by rfl, ?_⟩) ?_ ?_
                        rotate_left
                        ·intro w'
                         go_simp
                         with_reducible rfl
                        rotate_left
                        ·simp only [Act.put, s1_, s2_, s3_, i64_w, i32_w]
                         rfl
                        refine pure_ (i := 6) (N := some 72) (v := ?_) (a' := ?_) #[true,true,true,true,true,true,true,false,false,false,false] rfl rfl (any_of HT_.out (by kernel_rfl)) (fun _ _ _ h => h) (Or.inl ⟨by rfl, ?_⟩) ?_ ?_
                        rotate_left
                        ·intro w'
                         go_simp
                         with_reducible rfl
                        rotate_left
                        ·simp only [Act.put, s1_, s2_, s3_, i64_w, i32_w]
                         rfl
                        refine pure_ (i := 7) (N := some 73) (v := ?_) (a' := ?_) #[true,true,true,true,true,true,true,true,false,false,false] rfl rfl (any_of HT_.out (by kernel_rfl)) (fun _ _ _ h => h) (Or.inl ⟨by rfl, ?_⟩) ?_ ?_
                        rotate_left
                        ·intro w'
                         go_simp
                         with_reducible rfl
                        rotate_left
                        ·simp only [Act.put, s1_, s2_, s3_, i64_w, i32_w]
                         rfl
                        refine pure_ (i := 8) (N := some 74) (v := ?_) (a' := ?_) #[true,true,true,true,true,true,true,true,true,false,false] rfl rfl (any_of HT_.out (by kernel_rfl)) (fun _ _ _ h => h) (Or.inl ⟨by rfl, ?_⟩) ?_ ?_
                        rotate_left
                        ·intro w'
                         go_simp
                         with_reducible rfl
                        rotate_left
                        ·simp only [Act.put, s1_, s2_, s3_, i64_w, i32_w]
                         rfl
                        refine one_ (i := 9) (N := some 75) #[true,true,true,true,true,true,true,true,true,true,false] rfl rfl (one_of HT_.out (by kernel_rfl)) (by decide) (fun K hK => ?_)
                        refine goes_ Tryd.func15 (by kernel_rfl) rfl #[.string (((t554.extract 0 (t576 : Int).toNat) ++ (((⟨#[64]⟩ : ByteArray) ++ t571) ++ (⟨#[59]⟩ : ByteArray))) ++ (t554.extract (t576 : Int).toNat t554.size))] (by rfl) rfl rfl (by (try simp only [List.map_toArray, List.map_cons, List.map_nil]); first | done | rfl | (simp only [List.length_drop, List.length_take]; rfl)) ?_
                        with_reducible refine (impl_TextPieces.calls kj8 (((t554.extract 0 (t576 : Int).toNat) ++ (((⟨#[64]⟩ : ByteArray) ++ t571) ++ (⟨#[59]⟩ : ByteArray))) ++ (t554.extract (t576 : Int).toNat t554.size)) t577 _ ?side1 A57.out).mono ?_
                        (case side1 => first | exact HG.out | exact GV_below HG.out (by repeat (first | (with_reducible first | exact HB.out | apply below_alloc | apply pw_below_drewN | apply below_drew1 | refine below_set ?_ GE557.out) | exact HB.out)))
                        rintro e w78 ⟨v578, rfl, ho0, hb⟩
                        refine ⟨_, rfl, ?_⟩
                        have n0_ := Aside0.mk (Kd.R_elder' (by (with_reducible repeat (first | apply Kd.R_alloc | apply Kd.R_drewN | apply Kd.R_drew)); exact HO_7.out) (Kd.R_base ho0) hb)
                        have n1_ := Aside0.mk (Kd.R_lower (Kd.R_new' ho0 (Kd.R_lt (by (with_reducible repeat (first | apply Kd.R_alloc | apply Kd.R_drewN | apply Kd.R_drew)); exact HO_7.out))) (below_size (by repeat (first | (with_reducible first | exact HB.out | apply below_alloc | apply pw_below_drewN | apply below_drew1 | refine below_set ?_ GE557.out) | exact HB.out))))
                        have n2_ := Aside0.mk (blk_below (g := gb557) (o := .cells #[.int .i64 t555, .int .i64 t556] 32 (0, 0)) (by (with_reducible repeat (first | refine blk_drewN ?_ _ | refine blk_drew ?_ | refine blk_alloc ?_ _)); exact BK557.out) hb)
                        have n3_ := Aside0.mk (Kd.C_below (by repeat (first | (with_reducible exact HR575.out) | (with_reducible refine Kd.C_alloc ?_ _) | (with_reducible refine Kd.C_drewN ?_ _) | (with_reducible refine Kd.C_drew ?_) | exact HR575.out)) hb)
                        have n4_ := Aside0.mk (below_step (by repeat (first | (with_reducible first | exact HB.out | apply below_alloc | apply pw_below_drewN | apply below_drew1 | refine below_set ?_ GE557.out) | exact HB.out)) hb)
                        clear HO_7
                        clear BK557
                        clear HR575
                        clear HB
                        have HO_7 := n0_
                        have HO579 := n1_
                        have BK557 := n2_
                        have HR575 := n3_
                        have HB := n4_
                        clear n0_ n1_ n2_ n3_ n4_
                        (try clear hb)
                        (try clear hb2)
                        (try clear hk)
                        (try clear hi)
                        (try clear ho0)
                        refine hK.out _ _ trivial (fun hHeld => ?_)
                        clear hK K
                        refine norm_ (a' := ?_) ?_ ?_
                        rotate_left
                        ·show Act.put _ (some 75) _ = _
                         simp only [Act.put, s1_, s2_, s3_, i64_w, i32_w]
                         rfl
                        refine pure_ (i := 10) (N := some 11) (v := ?_) (a' := ?_) #[true,true,true,true,true,true,true,true,true,true,true] rfl rfl (any_of HT_.out (by kernel_rfl)) (fun _ _ _ h => h) (Or.inl ⟨by rfl, ?_⟩) ?_ ?_
                        rotate_left
                        ·intro w'
                         go_simp
                         with_reducible rfl
                        rotate_left
                        ·simp only [Act.put, s1_, s2_, s3_, i64_w, i32_w]
                         rfl
                        refine done_ (done_of HT_.out (by kernel_rfl)) ?_
                        try go_wp2
                        have n0_ := Aside0.mk (Kd.R_drew HO_7.out)
                        have n1_ := Aside0.mk (Kd.R_drew HO579.out)
                        have n2_ := Aside0.mk (blk_drew BK557.out)
                        have n3_ := Aside0.mk (Kd.C_drew HR575.out)
                        have n4_ := Aside0.mk (below_drew1 HB.out)
                        clear HO_7
                        clear HO579
                        clear BK557
                        clear HR575
                        clear HB
                        have HO_7 := n0_
                        have HO579 := n1_
                        have BK557 := n2_
                        have HR575 := n3_
                        have HB := n4_
                        clear n0_ n1_ n2_ n3_ n4_
                        obtain ⟨Ao80, co80, eo80⟩ := Kd.R_slice HO579.out
                        (first | subst eo80 | (injection eo80 with f1_ f2_ f3_; have f4_ := f1_.symm; have f5_ := f3_.symm; clear f1_ f2_ f3_; subst f4_; subst f5_))
                        have q81 : ((ji42) : Int) ≤ ((t577.length : Int) : Int) := of_decide_eq_true (by first | (with_reducible assumption) | assumption)
                        obtain ⟨i081, hi081, _, hsz81, _⟩ := info_parts info34
                        have hroom81 : t577.length ≤ co80 := (Kd.R_reads' HO579.out).2.1
                        have hC81 : Kd.C k34 _ Ao80 t577.length t577 := (Kd.R_reads' HO579.out).2.2
                        have hcut81 := cut_to (P := Tryd.prog) 22 34 .i64 Tryd.underlying22 hi081 Ao80 t577.length co80 (ji42) (of_decide_eq_true (by first | (with_reducible assumption) | assumption)) q81 hroom81
                        have hr81 := Kd.C_take (m := ((ji42) : Int).toNat) hC81 (by omega)
                        have hy81 : y580.length = ((ji42) : Int).toNat := (by rw [Ny580.out, List.length_take]; omega)
                        rw [← Ny580.out] at hr81
                        rw [← hy81] at hcut81
                        have HR583 := Aside0.mk hr81
                        have HC583 := Aside0.mk (show y580.length ≤ co80 from by omega)
                        clear hr81 hC81 hroom81 hi081 hsz81
                        have KY81 := Aside0.mk hy81
                        clear hy81
                        have KL81 := Aside0.mk (show ((ji42) : Int).toNat ≤ t577.length from by omega)
                        replace q81 := eq_true q81
                        have q82 : ((ji42) : Int) ≤ ((t558.length : Int) : Int) := of_decide_eq_true (by first | (with_reducible assumption) | assumption)
                        obtain ⟨i082, hi082, _, hsz82, _⟩ := info_parts info34
                        have hroom82 : t558.length ≤ co75 := (Kd.R_reads' HO_7.out).2.1
                        have hC82 : Kd.C k34 _ Ao75 t558.length t558 := (Kd.R_reads' HO_7.out).2.2
                        have hcut82 := cut_to (P := Tryd.prog) 22 34 .i64 Tryd.underlying22 hi082 Ao75 t558.length co75 (ji42) (of_decide_eq_true (by first | (with_reducible assumption) | assumption)) q82 hroom82
                        have hr82 := Kd.C_take (m := ((ji42) : Int).toNat) hC82 (by omega)
                        have hy82 : y572.length = ((ji42) : Int).toNat := (by rw [Ny584.out, List.length_take]; omega)
                        rw [← Ny584.out] at hr82
                        rw [← hy82] at hcut82
                        have HR587 := Aside0.mk hr82
                        have HC587 := Aside0.mk (show y572.length ≤ co75 from by omega)
                        clear hr82 hC82 hroom82 hi082 hsz82
                        have KY82 := Aside0.mk hy82
                        clear hy82
                        have KL82 := Aside0.mk (show ((ji42) : Int).toNat ≤ t558.length from by omega)
                        replace q82 := eq_true q82
                        have p589 : 0 ≤ ((ji42) : Int) := of_decide_eq_true (by first | (with_reducible assumption) | assumption)
                        have q589 : (ji42) < (t577.length : Int) := of_decide_eq_true (by first | (with_reducible assumption) | assumption)
                        obtain ⟨ad589, e589, hx589_0, hx589_1, hx589_2, hx589_3⟩ := at_T34 (Kd.R_reads' HO579.out).2.2 (ji42) p589 q589
                        cases e589
                        replace p589 := eq_true p589
                        replace q589 := eq_true q589
                        refine start_ (n := 36) (S := fun w' => w'.cell? ⟨gb557, 0, none⟩ = some (.int .i64 t555) ∧ w'.cell? ⟨gb557, 1, none⟩ = some (.int .i64 t556) ∧ w'.cell? (ad589.add (((ji42)).toNat * 4)) = some (.int .i64 ((rd_T34 t577 (ji42)).f0)) ∧ w'.cell? ⟨(ad589.add (((ji42)).toNat * 4)).block, (ad589.add (((ji42)).toNat * 4)).off + 1, none⟩ = some (.bool ((rd_T34 t577 (ji42)).f1)) ∧ w'.cell? ⟨(ad589.add (((ji42)).toNat * 4)).block, (ad589.add (((ji42)).toNat * 4)).off + 2, none⟩ = some (.int .i64 ((rd_T34 t577 (ji42)).f2.f0)) ∧ w'.cell? ⟨(ad589.add (((ji42)).toNat * 4)).block, (ad589.add (((ji42)).toNat * 4)).off + 3, none⟩ = some (.int .i64 ((rd_T34 t577 (ji42)).f2.f1))) (ds := []) #[false,false,false,false,false,false,false,false,false,false,false,false,false,false,false,false,false,false,false,false,false,false,false,false,false,false,false,false,false,false,false,false,false,false,false,false] (by kernel_rfl) rfl rfl ⟨(blk_cell BK557.out 0).trans rfl, (blk_cell BK557.out 1).trans rfl, hx589_0, hx589_1, hx589_2, hx589_3⟩ (fun hHeld => ?_); refine with_tabW laws_FnNameIn.tab15 laws_FnNameIn.bits15 (fun HT_ HW_ => ?_)
                        generalize w78.drew = w79 at HO_7 HO579 BK557 HR575 HB HR583 HR587 hx589_0 hx589_1 hx589_2 hx589_3 hHeld ⊢
                        refine pure_ (i := 0) (N := some 78) (v := ?_) (a' := ?_) #[true,false,false,false,false,false,false,false,false,false,false,false,false,false,false,false,false,false,false,false,false,false,false,false,false,false,false,false,false,false,false,false,false,false,false,false] rfl rfl (any_of HT_.out (by kernel_rfl)) (fun _ _ _ h => h) (Or.inl ⟨by rfl, ?_⟩) ?_ ?_
                        rotate_left
                        ·intro w'
                         go_simp
                         with_reducible rfl
                        rotate_left
                        ·simp only [Act.put, s1_, s2_, s3_, i64_w, i32_w]
                         rfl
                        refine pure_ (i := 1) (N := some 79) (v := ?_) (a' := ?_) #[true,true,false,false,false,false,false,false,false,false,false,false,false,false,false,false,false,false,false,false,false,false,false,false,false,false,false,false,false,false,false,false,false,false,false,false] rfl rfl (any_of HT_.out (by kernel_rfl)) (fun _ _ _ h => h) (Or.inl ⟨by rfl, ?_⟩) ?_ ?_
                        rotate_left
                        ·intro w'
                         go_simp
                         with_reducible rfl
                        rotate_left
                        ·simp only [Act.put, s1_, s2_, s3_, i64_w, i32_w]
                         rfl
                        refine pure_ (i := 2) (N := some 80) (v := ?_) (a' := ?_) #[true,true,true,false,false,false,false,false,false,false,false,false,false,false,false,false,false,false,false,false,false,false,false,false,false,false,false,false,false,false,false,false,false,false,false,false] rfl rfl (any_of HT_.out (by kernel_rfl)) (fun _ _ _ h => h) (Or.inl ⟨by rfl, ?_⟩) ?_ ?_
                        rotate_left
                        ·intro w'
                         go_simp
                         with_reducible rfl
                        rotate_left
                        ·simp only [Act.put, s1_, s2_, s3_, i64_w, i32_w]
                         rfl
                        refine pure_ (i := 3) (N := some 81) (v := ?_) (a' := ?_) #[true,true,true,true,false,false,false,false,false,false,false,false,false,false,false,false,false,false,false,false,false,false,false,false,false,false,false,false,false,false,false,false,false,false,false,false] rfl rfl (any_of HT_.out (by kernel_rfl)) (fun _ _ _ h => h) (Or.inl ⟨by rfl, ?_⟩) ?_ ?_
                        rotate_left
                        ·intro w'
                         go_simp
                         with_reducible rfl
                        rotate_left
                        ·simp only [Act.put, s1_, s2_, s3_, i64_w, i32_w]
                         rfl
                        refine pure_ (i := 4) (N := some 82) (v := ?_) (a' := ?_) #[true,true,true,true,true,false,false,false,false,false,false,false,false,false,false,false,false,false,false,false,false,false,false,false,false,false,false,false,false,false,false,false,false,false,false,false] rfl rfl (any_of HT_.out (by kernel_rfl)) (fun _ _ _ h => h) (Or.inl ⟨by rfl, ?_⟩) ?_ ?_
                        rotate_left
                        ·intro w'
                         go_simp
                         with_reducible rfl
                        rotate_left
                        ·simp only [Act.put, s1_, s2_, s3_, i64_w, i32_w]
                         rfl
                        refine pure_ (i := 5) (N := some 83) (v := ?_) (a' := ?_) #[true,true,true,true,true,true,false,false,false,false,false,false,false,false,false,false,false,false,false,false,false,false,false,false,false,false,false,false,false,false,false,false,false,false,false,false] rfl rfl (any_of HT_.out (by kernel_rfl)) (fun _ _ _ h => h) (Or.inl ⟨by rfl, ?_⟩) ?_ ?_
                        rotate_left
                        ·intro w'
                         go_simp
                         with_reducible rfl
                        rotate_left
                        ·simp only [Act.put, s1_, s2_, s3_, i64_w, i32_w]
                         rfl
                        refine pure_ (i := 6) (N := some 84) (v := ?_) (a' := ?_) #[true,true,true,true,true,true,true,false,false,false,false,false,false,false,false,false,false,false,false,false,false,false,false,false,false,false,false,false,false,false,false,false,false,false,false,false] rfl rfl (any_of HT_.out (by kernel_rfl)) (fun _ _ _ h => h) (Or.inl ⟨by rfl, ?_⟩) ?_ ?_
                        rotate_left
                        ·intro w'
                         go_simp
                         with_reducible rfl
                        rotate_left
                        ·simp only [Act.put, s1_, s2_, s3_, i64_w, i32_w]
                         rfl
                        refine pure_ (i := 7) (N := some 85) (v := ?_) (a' := ?_) #[true,true,true,true,true,true,true,true,false,false,false,false,false,false,false,false,false,false,false,false,false,false,false,false,false,false,false,false,false,false,false,false,false,false,false,false] rfl rfl (any_of HT_.out (by kernel_rfl)) (fun _ _ _ h => h) (Or.inl ⟨by rfl, ?_⟩) ?_ ?_
                        rotate_left
                        ·intro w'
                         go_simp
                         with_reducible rfl
                        rotate_left
                        ·simp only [Act.put, s1_, s2_, s3_, i64_w, i32_w]
                         rfl
                        refine pure_ (i := 8) (N := some 86) (v := ?_) (a' := ?_) #[true,true,true,true,true,true,true,true,true,false,false,false,false,false,false,false,false,false,false,false,false,false,false,false,false,false,false,false,false,false,false,false,false,false,false,false] rfl rfl (any_of HT_.out (by kernel_rfl)) (fun _ _ _ h => h) (Or.inl ⟨by rfl, ?_⟩) ?_ ?_
                        rotate_left
                        ·intro w'
                         go_simp
                         with_reducible rfl
                        rotate_left
                        ·simp only [Act.put, s1_, s2_, s3_, i64_w, i32_w]
                         rfl
                        refine pure_ (i := 9) (N := some 87) (v := ?_) (a' := ?_) #[true,true,true,true,true,true,true,true,true,true,false,false,false,false,false,false,false,false,false,false,false,false,false,false,false,false,false,false,false,false,false,false,false,false,false,false] rfl rfl (any_of HT_.out (by kernel_rfl)) (fun _ _ _ h => h) (Or.inl ⟨by rfl, ?_⟩) ?_ ?_
                        rotate_left
                        ·intro w'
                         go_simp
                         with_reducible rfl
                        rotate_left
                        ·simp only [Act.put, s1_, s2_, s3_, i64_w, i32_w]
                         rfl
                        refine pure_ (i := 10) (N := some 88) (v := ?_) (a' := ?_) #[true,true,true,true,true,true,true,true,true,true,true,false,false,false,false,false,false,false,false,false,false,false,false,false,false,false,false,false,false,false,false,false,false,false,false,false] rfl rfl (any_of HT_.out (by kernel_rfl)) (fun _ _ _ h => h) (Or.inl ⟨by rfl, ?_⟩) ?_ ?_
                        rotate_left
                        ·intro w'
                         go_simp
                         with_reducible rfl
                        rotate_left
                        ·simp only [Act.put, s1_, s2_, s3_, i64_w, i32_w]
                         rfl
                        refine pure_ (i := 11) (N := some 89) (v := ?_) (a' := ?_) #[true,true,true,true,true,true,true,true,true,true,true,true,false,false,false,false,false,false,false,false,false,false,false,false,false,false,false,false,false,false,false,false,false,false,false,false] rfl rfl (any_of HT_.out (by kernel_rfl)) (fun _ _ _ h => h) (Or.inl ⟨by rfl, ?_⟩) ?_ ?_
                        rotate_left
                        ·intro w'
                         go_simp
                         with_reducible rfl
                        rotate_left
                        ·simp only [Act.put, s1_, s2_, s3_, i64_w, i32_w]
                         rfl
                        refine one_ (i := 12) (N := some 90) #[true,true,true,true,true,true,true,true,true,true,true,true,true,false,false,false,false,false,false,false,false,false,false,false,false,false,false,false,false,false,false,false,false,false,false,false] rfl rfl (one_of HT_.out (by kernel_rfl)) (by decide) (fun K hK => ?_)
                        refine goes_ Tryd.func24 (by kernel_rfl) rfl #[.slice (some ad589) y580.length co80, .slice Ao75 y572.length co75] (by rfl) rfl rfl (by (try simp only [List.map_toArray, List.map_cons, List.map_nil]); first | done | rfl | (simp only [List.length_drop, List.length_take]; rfl)) ?_
                        with_reducible refine (laws_lzPieces.calls kj8 _ _ y580 _ _ y572 true _ ?side1 ?side2 ?side3 ?side4 A63.out).mono ?_
                        (case side1 => repeat (first | exact (by repeat (first | (with_reducible exact HR583.out) | (with_reducible refine Kd.C_alloc ?_ _) | (with_reducible refine Kd.C_drewN ?_ _) | (with_reducible refine Kd.C_drew ?_) | exact HR583.out)) | (with_reducible refine Kd.C_alloc ?_ _) | (with_reducible refine Kd.C_drewN ?_ _) | (with_reducible refine Kd.C_drew ?_)))
                        (case side2 => exact HC583.out)
                        (case side3 => repeat (first | exact (by repeat (first | (with_reducible exact HR587.out) | (with_reducible refine Kd.C_alloc ?_ _) | (with_reducible refine Kd.C_drewN ?_ _) | (with_reducible refine Kd.C_drew ?_) | exact HR587.out)) | (with_reducible refine Kd.C_alloc ?_ _) | (with_reducible refine Kd.C_drewN ?_ _) | (with_reducible refine Kd.C_drew ?_)))
                        (case side4 => exact HC587.out)
                        rintro e w' ⟨rfl, ⟨nd, rfl⟩⟩
                        refine ⟨_, rfl, ?_⟩
                        have q83 : ((ji67) : Int) ≤ ((t577.length : Int) : Int) := of_decide_eq_true (by first | (with_reducible assumption) | assumption)
                        obtain ⟨i083, hi083, _, hsz83, _⟩ := info_parts info34
                        have hroom83 : t577.length ≤ co80 := (Kd.R_reads' HO579.out).2.1
                        have hC83 : Kd.C k34 _ (some ad589) t577.length t577 := (Kd.R_reads' HO579.out).2.2
                        have q083 : (0 : Int) ≤ ((ji67) : Int) := of_decide_eq_true (by first | (with_reducible assumption) | assumption)
                        have hcut83 := cut_from (P := Tryd.prog) 22 34 .i64 Tryd.underlying22 hi083 4 hsz83 (some ad589) t577.length co80 (ji67) q083 q83
                        have hr83 := Kd.C_drop (m := ((ji67) : Int).toNat) (c := co80) hC83 (by omega) hroom83
                        obtain ⟨A83, hA83⟩ : ∃ A1, A1 = (if co80 = ((ji67) : Int).toNat then (some ad589) else ((some ad589) : Option Addr).map (·.add (((ji67) : Int).toNat * 4))) := ⟨_, rfl⟩
                        obtain ⟨c83, hc83⟩ : ∃ c1, c1 = co80 - ((ji67) : Int).toNat := ⟨_, rfl⟩
                        have hy83 : y590.length = t577.length - ((ji67) : Int).toNat := (by rw [Ny590.out, List.length_drop] <;> omega)
                        rw [show (t577).drop ((ji67) : Int).toNat = y590 from Ny590.out.symm] at hr83
                        replace hr83 : Kd.C k34 _ A83 y590.length y590 := (by rw [hA83]; exact hr83)
                        rw [← hy83, ← hA83, ← hc83] at hcut83
                        have HR593 := Aside0.mk hr83
                        have HC593 := Aside0.mk (show y590.length ≤ c83 from by rw [hy83, hc83]; exact Nat.sub_le_sub_right hroom83 _)
                        clear hr83 hC83 hroom83 hi083 hsz83 hc83
                        have KY83 := Aside0.mk hy83
                        have KA83 := Aside0.mk hA83
                        clear hy83 hA83
                        have KL83 := Aside0.mk (show ((ji67) : Int).toNat ≤ t577.length from by omega)
                        replace q83 := eq_true q83
                        have q84 : ((ji42) : Int) ≤ ((t558.length : Int) : Int) := of_decide_eq_true (by first | (with_reducible assumption) | assumption)
                        obtain ⟨i084, hi084, _, hsz84, _⟩ := info_parts info34
                        have hroom84 : t558.length ≤ co75 := (Kd.R_reads' HO_7.out).2.1
                        have hC84 : Kd.C k34 _ Ao75 t558.length t558 := (Kd.R_reads' HO_7.out).2.2
                        have q084 : (0 : Int) ≤ ((ji42) : Int) := of_decide_eq_true (by first | (with_reducible assumption) | assumption)
                        have hcut84 := cut_from (P := Tryd.prog) 22 34 .i64 Tryd.underlying22 hi084 4 hsz84 Ao75 t558.length co75 (ji42) q084 q84
                        have hr84 := Kd.C_drop (m := ((ji42) : Int).toNat) (c := co75) hC84 (by omega) hroom84
                        obtain ⟨A84, hA84⟩ : ∃ A1, A1 = (if co75 = ((ji42) : Int).toNat then Ao75 else (Ao75 : Option Addr).map (·.add (((ji42) : Int).toNat * 4))) := ⟨_, rfl⟩
                        obtain ⟨c84, hc84⟩ : ∃ c1, c1 = co75 - ((ji42) : Int).toNat := ⟨_, rfl⟩
                        have hy84 : y594.length = t558.length - ((ji42) : Int).toNat := (by rw [Ny594.out, List.length_drop] <;> omega)
                        rw [show (t558).drop ((ji42) : Int).toNat = y594 from Ny594.out.symm] at hr84
                        replace hr84 : Kd.C k34 _ A84 y594.length y594 := (by rw [hA84]; exact hr84)
                        rw [← hy84, ← hA84, ← hc84] at hcut84
                        have HR597 := Aside0.mk hr84
                        have HC597 := Aside0.mk (show y594.length ≤ c84 from by rw [hy84, hc84]; exact Nat.sub_le_sub_right hroom84 _)
                        clear hr84 hC84 hroom84 hi084 hsz84 hc84
                        have KY84 := Aside0.mk hy84
                        have KA84 := Aside0.mk hA84
                        clear hy84 hA84
                        have KL84 := Aside0.mk (show ((ji42) : Int).toNat ≤ t558.length from by omega)
                        replace q84 := eq_true q84
                        refine hK.out _ _ ⟨(blk_cell BK557.out 0).trans rfl, (blk_cell BK557.out 1).trans rfl, hHeld.2.2.1, hHeld.2.2.2.1, hHeld.2.2.2.2.1, hHeld.2.2.2.2.2⟩ (fun hHeld => ?_)
                        clear hK K
                        refine norm_ (a' := ?_) ?_ ?_
                        rotate_left
                        ·show Act.put _ (some 90) _ = _
                         simp only [Act.put, s1_, s2_, s3_, i64_w, i32_w]
                         rfl
                        refine pure_ (i := 13) (N := some 91) (v := ?_) (a' := ?_) #[true,true,true,true,true,true,true,true,true,true,true,true,true,true,false,false,false,false,false,false,false,false,false,false,false,false,false,false,false,false,false,false,false,false,false,false] rfl rfl (any_of HT_.out (by kernel_rfl)) (fun _ _ _ h => h) (Or.inl ⟨by rfl, ?_⟩) ?_ ?_
                        rotate_left
                        ·intro w'
                         go_simp
                         with_reducible rfl
                        rotate_left
                        ·simp only [Act.put, s1_, s2_, s3_, i64_w, i32_w]
                         rfl
                        refine pure_ (i := 14) (N := some 92) (v := ?_) (a' := ?_) #[true,true,true,true,true,true,true,true,true,true,true,true,true,true,true,false,false,false,false,false,false,false,false,false,false,false,false,false,false,false,false,false,false,false,false,false] rfl rfl (any_of HT_.out (by kernel_rfl)) (fun _ _ _ h => h) (Or.inl ⟨by rfl, ?_⟩) ?_ ?_
                        rotate_left
                        ·intro w'
                         go_simp
                         with_reducible rfl
                        rotate_left
                        ·simp only [Act.put, s1_, s2_, s3_, i64_w, i32_w]
                         rfl
                        refine pure_ (i := 15) (N := some 93) (v := ?_) (a' := ?_) #[true,true,true,true,true,true,true,true,true,true,true,true,true,true,true,true,false,false,false,false,false,false,false,false,false,false,false,false,false,false,false,false,false,false,false,false] rfl rfl (any_of HT_.out (by kernel_rfl)) (fun _ _ _ h => h) (Or.inl ⟨by rfl, ?_⟩) ?_ ?_
                        rotate_left
                        ·intro w'
                         go_simp
                         with_reducible rfl
                        rotate_left
                        ·simp only [Act.put, s1_, s2_, s3_, i64_w, i32_w]
                         rfl
                        refine pure_ (i := 16) (N := some 94) (v := ?_) (a' := ?_) #[true,true,true,true,true,true,true,true,true,true,true,true,true,true,true,true,true,false,false,false,false,false,false,false,false,false,false,false,false,false,false,false,false,false,false,false] rfl rfl (any_of HT_.out (by kernel_rfl)) (fun _ _ _ h => h) (Or.inl ⟨by rfl, ?_⟩) ?_ ?_
                        rotate_left
                        ·intro w'
                         go_simp
                         with_reducible rfl
                        rotate_left
                        ·simp only [Act.put, s1_, s2_, s3_, i64_w, i32_w]
                         rfl
                        refine pure_ (i := 17) (N := some 95) (v := ?_) (a' := ?_) #[true,true,true,true,true,true,true,true,true,true,true,true,true,true,true,true,true,true,false,false,false,false,false,false,false,false,false,false,false,false,false,false,false,false,false,false] rfl rfl (any_of HT_.out (by kernel_rfl)) (fun _ _ _ h => h) (Or.inl ⟨by rfl, ?_⟩) ?_ ?_
                        rotate_left
                        ·intro w'
                         go_simp
                         with_reducible rfl
                        rotate_left
                        ·simp only [Act.put, s1_, s2_, s3_, i64_w, i32_w]
                         rfl
                        refine pure_ (i := 19) (N := some 97) (v := ?_) (a' := ?_) #[true,true,true,true,true,true,true,true,true,true,true,true,true,true,true,true,true,true,false,true,false,false,false,false,false,false,false,false,false,false,false,false,false,false,false,false] rfl rfl (any_of HT_.out (by kernel_rfl)) (fun _ _ _ h => h) (Or.inl ⟨by rfl, ?_⟩) ?_ ?_
                        rotate_left
                        ·intro w'
                         go_simp
                         with_reducible rfl
                        rotate_left
                        ·simp only [Act.put, s1_, s2_, s3_, i64_w, i32_w]
                         rfl
                        refine pure_ (i := 20) (N := some 98) (v := ?_) (a' := ?_) #[true,true,true,true,true,true,true,true,true,true,true,true,true,true,true,true,true,true,false,true,true,false,false,false,false,false,false,false,false,false,false,false,false,false,false,false] rfl rfl (any_of HT_.out (by kernel_rfl)) (fun _ _ _ h => h) (Or.inl ⟨by rfl, ?_⟩) ?_ ?_
                        rotate_left
                        ·intro w'
                         go_simp
                         with_reducible rfl
                        rotate_left
                        ·simp only [Act.put, s1_, s2_, s3_, i64_w, i32_w]
                         rfl
                        refine take_ (i := 18) (N := some 96) (v := ?_) (a' := ?_) #[true,true,true,true,true,true,true,true,true,true,true,true,true,true,true,true,true,true,true,true,true,false,false,false,false,false,false,false,false,false,false,false,false,false,false,false] rfl rfl (take_ofW HT_.out HW_.out (by kernel_rfl)) (fun _ _ _ h => h) (Or.inl ⟨by rfl, ?_⟩) hHeld ?_ ?_
                        rotate_left
                        ·rintro w' ⟨s0, s1, s2, s3, s4, s5⟩
                         go_simp
                         with_reducible rfl
                        rotate_left
                        ·simp only [Act.put, s1_, s2_, s3_, i64_w, i32_w]
                         rfl
                        refine take_ (i := 21) (N := some 99) (v := ?_) (a' := ?_) #[true,true,true,true,true,true,true,true,true,true,true,true,true,true,true,true,true,true,true,true,true,true,false,false,false,false,false,false,false,false,false,false,false,false,false,false] rfl rfl (take_ofW HT_.out HW_.out (by kernel_rfl)) (fun _ _ _ h => h) (Or.inl ⟨by rfl, ?_⟩) hHeld ?_ ?_
                        rotate_left
                        ·rintro w' ⟨s0, s1, s2, s3, s4, s5⟩
                         go_simp
                         with_reducible rfl
                        rotate_left
                        ·simp only [Act.put, s1_, s2_, s3_, i64_w, i32_w]
                         rfl
                        refine pure_ (i := 22) (N := some 100) (v := ?_) (a' := ?_) #[true,true,true,true,true,true,true,true,true,true,true,true,true,true,true,true,true,true,true,true,true,true,true,false,false,false,false,false,false,false,false,false,false,false,false,false] rfl rfl (any_of HT_.out (by kernel_rfl)) (fun _ _ _ h => h) (Or.inl ⟨by rfl, ?_⟩) ?_ ?_
                        rotate_left
                        ·intro w'
                         go_simp
                         with_reducible rfl
                        rotate_left
                        ·simp only [Act.put, s1_, s2_, s3_, i64_w, i32_w]
                         rfl
                        refine pure_ (i := 23) (N := some 101) (v := ?_) (a' := ?_) #[true,true,true,true,true,true,true,true,true,true,true,true,true,true,true,true,true,true,true,true,true,true,true,true,false,false,false,false,false,false,false,false,false,false,false,false] rfl rfl (any_of HT_.out (by kernel_rfl)) (fun _ _ _ h => h) (Or.inl ⟨by rfl, ?_⟩) ?_ ?_
                        rotate_left
                        ·intro w'
                         go_simp
                         with_reducible rfl
                        rotate_left
                        ·simp only [Act.put, s1_, s2_, s3_, i64_w, i32_w]
                         rfl
                        refine pure_ (i := 24) (N := some 102) (v := ?_) (a' := ?_) #[true,true,true,true,true,true,true,true,true,true,true,true,true,true,true,true,true,true,true,true,true,true,true,true,true,false,false,false,false,false,false,false,false,false,false,false] rfl rfl (any_of HT_.out (by kernel_rfl)) (fun _ _ _ h => h) (Or.inl ⟨by rfl, ?_⟩) ?_ ?_
                        rotate_left
                        ·intro w'
                         go_simp
                         with_reducible rfl
                        rotate_left
                        ·simp only [Act.put, s1_, s2_, s3_, i64_w, i32_w]
                         rfl
                        refine pure_ (i := 25) (N := some 103) (v := ?_) (a' := ?_) #[true,true,true,true,true,true,true,true,true,true,true,true,true,true,true,true,true,true,true,true,true,true,true,true,true,true,false,false,false,false,false,false,false,false,false,false] rfl rfl (any_of HT_.out (by kernel_rfl)) (fun _ _ _ h => h) (Or.inl ⟨by rfl, ?_⟩) ?_ ?_
                        rotate_left
                        ·intro w'
                         go_simp
                         with_reducible rfl
                        rotate_left
                        ·simp only [Act.put, s1_, s2_, s3_, i64_w, i32_w]
                         rfl
                        refine pure_ (i := 26) (N := some 104) (v := ?_) (a' := ?_) #[true,true,true,true,true,true,true,true,true,true,true,true,true,true,true,true,true,true,true,true,true,true,true,true,true,true,true,false,false,false,false,false,false,false,false,false] rfl rfl (any_of HT_.out (by kernel_rfl)) (fun _ _ _ h => h) (Or.inl ⟨by rfl, ?_⟩) ?_ ?_
                        rotate_left
                        ·intro w'
                         go_simp
                         with_reducible rfl
                        rotate_left
                        ·simp only [Act.put, s1_, s2_, s3_, i64_w, i32_w]
                         rfl
                        refine pure_ (i := 27) (N := some 105) (v := ?_) (a' := ?_) #[true,true,true,true,true,true,true,true,true,true,true,true,true,true,true,true,true,true,true,true,true,true,true,true,true,true,true,true,false,false,false,false,false,false,false,false] rfl rfl (any_of HT_.out (by kernel_rfl)) (fun _ _ _ h => h) (Or.inl ⟨by rfl, ?_⟩) ?_ ?_
                        rotate_left
                        ·intro w'
                         go_simp
                         with_reducible rfl
                        rotate_left
                        ·simp only [Act.put, s1_, s2_, s3_, i64_w, i32_w]
                         rfl
                        refine pure_ (i := 28) (N := some 106) (v := ?_) (a' := ?_) #[true,true,true,true,true,true,true,true,true,true,true,true,true,true,true,true,true,true,true,true,true,true,true,true,true,true,true,true,true,false,false,false,false,false,false,false] rfl rfl (any_of HT_.out (by kernel_rfl)) (fun _ _ _ h => h) (Or.inl ⟨by rfl, ?_⟩) ?_ ?_
                        rotate_left
                        ·intro w'
                         go_simp
                         with_reducible rfl
                        rotate_left
                        ·simp only [Act.put, s1_, s2_, s3_, i64_w, i32_w]
                         rfl
                        refine pure_ (i := 29) (N := some 107) (v := ?_) (a' := ?_) #[true,true,true,true,true,true,true,true,true,true,true,true,true,true,true,true,true,true,true,true,true,true,true,true,true,true,true,true,true,true,false,false,false,false,false,false] rfl rfl (any_of HT_.out (by kernel_rfl)) (fun _ _ _ h => h) (Or.inl ⟨by rfl, ?_⟩) ?_ ?_
                        rotate_left
                        ·intro w'
                         go_simp
                         with_reducible rfl
                        rotate_left
                        ·simp only [Act.put, s1_, s2_, s3_, i64_w, i32_w]
                         rfl
                        refine pure_ (i := 30) (N := some 108) (v := ?_) (a' := ?_) #[true,true,true,true,true,true,true,true,true,true,true,true,true,true,true,true,true,true,true,true,true,true,true,true,true,true,true,true,true,true,true,false,false,false,false,false] rfl rfl (any_of HT_.out (by kernel_rfl)) (fun _ _ _ h => h) (Or.inl ⟨by rfl, ?_⟩) ?_ ?_
                        rotate_left
                        ·intro w'
                         go_simp
                         with_reducible rfl
                        rotate_left
                        ·simp only [Act.put, s1_, s2_, s3_, i64_w, i32_w]
                         rfl
                        refine pure_ (i := 31) (N := some 109) (v := ?_) (a' := ?_) #[true,true,true,true,true,true,true,true,true,true,true,true,true,true,true,true,true,true,true,true,true,true,true,true,true,true,true,true,true,true,true,true,false,false,false,false] rfl rfl (any_of HT_.out (by kernel_rfl)) (fun _ _ _ h => h) (Or.inl ⟨by rfl, ?_⟩) ?_ ?_
                        rotate_left
                        ·intro w'
                         go_simp
                         with_reducible rfl
                        rotate_left
                        ·simp only [Act.put, s1_, s2_, s3_, i64_w, i32_w]
                         rfl
                        refine pure_ (i := 32) (N := some 110) (v := ?_) (a' := ?_) #[true,true,true,true,true,true,true,true,true,true,true,true,true,true,true,true,true,true,true,true,true,true,true,true,true,true,true,true,true,true,true,true,true,false,false,false] rfl rfl (any_of HT_.out (by kernel_rfl)) (fun _ _ _ h => h) (Or.inl ⟨by rfl, ?_⟩) ?_ ?_
                        rotate_left
                        ·intro w'
                         go_simp
                         with_reducible rfl
                        rotate_left
                        ·simp only [Act.put, s1_, s2_, s3_, i64_w, i32_w]
                         rfl
                        refine one_ (i := 33) (N := some 111) #[true,true,true,true,true,true,true,true,true,true,true,true,true,true,true,true,true,true,true,true,true,true,true,true,true,true,true,true,true,true,true,true,true,true,false,false] rfl rfl (one_of HT_.out (by kernel_rfl)) (by decide) (fun K hK => ?_)
                        refine goes_ Tryd.func24 (by kernel_rfl) rfl #[.slice A83 y590.length c83, .slice A84 y594.length c84] (by rfl) rfl rfl (by (try simp only [List.map_toArray, List.map_cons, List.map_nil]); first | done | rfl | (simp only [List.length_drop, List.length_take]; rfl)) ?_
                        with_reducible refine (laws_lzPieces.calls kj8 _ _ y590 _ _ y594 t598 _ ?side1 ?side2 ?side3 ?side4 A72.out).mono ?_
                        (case side1 => repeat (first | exact (by repeat (first | (with_reducible exact HR593.out) | (with_reducible refine Kd.C_alloc ?_ _) | (with_reducible refine Kd.C_drewN ?_ _) | (with_reducible refine Kd.C_drew ?_) | exact HR593.out)) | (with_reducible refine Kd.C_alloc ?_ _) | (with_reducible refine Kd.C_drewN ?_ _) | (with_reducible refine Kd.C_drew ?_)))
                        (case side2 => exact HC593.out)
                        (case side3 => repeat (first | exact (by repeat (first | (with_reducible exact HR597.out) | (with_reducible refine Kd.C_alloc ?_ _) | (with_reducible refine Kd.C_drewN ?_ _) | (with_reducible refine Kd.C_drew ?_) | exact HR597.out)) | (with_reducible refine Kd.C_alloc ?_ _) | (with_reducible refine Kd.C_drewN ?_ _) | (with_reducible refine Kd.C_drew ?_)))
                        (case side4 => exact HC597.out)
                        rintro e w' ⟨rfl, ⟨nd, rfl⟩⟩
                        refine ⟨_, rfl, ?_⟩
                        refine hK.out _ _ ⟨(blk_cell BK557.out 0).trans rfl, (blk_cell BK557.out 1).trans rfl, hHeld.2.2.1, hHeld.2.2.2.1, hHeld.2.2.2.2.1, hHeld.2.2.2.2.2⟩ (fun hHeld => ?_)
                        clear hK K
                        refine norm_ (a' := ?_) ?_ ?_
                        rotate_left
                        ·show Act.put _ (some 111) _ = _
                         simp only [Act.put, s1_, s2_, s3_, i64_w, i32_w]
                         rfl
                        refine pure_ (i := 34) (N := some 112) (v := ?_) (a' := ?_) #[true,true,true,true,true,true,true,true,true,true,true,true,true,true,true,true,true,true,true,true,true,true,true,true,true,true,true,true,true,true,true,true,true,true,true,false] rfl rfl (any_of HT_.out (by kernel_rfl)) (fun _ _ _ h => h) (Or.inl ⟨by rfl, ?_⟩) ?_ ?_
                        rotate_left
                        ·intro w'
                         go_simp
                         with_reducible rfl
                        rotate_left
                        ·simp only [Act.put, s1_, s2_, s3_, i64_w, i32_w]
                         rfl
                        refine pure_ (i := 35) (N := some 4) (v := ?_) (a' := ?_) #[true,true,true,true,true,true,true,true,true,true,true,true,true,true,true,true,true,true,true,true,true,true,true,true,true,true,true,true,true,true,true,true,true,true,true,true] rfl rfl (any_of HT_.out (by kernel_rfl)) (fun _ _ _ h => h) (Or.inl ⟨by rfl, ?_⟩) ?_ ?_
                        rotate_left
                        ·intro w'
                         go_simp
                         with_reducible rfl
                        rotate_left
                        ·simp only [Act.put, s1_, s2_, s3_, i64_w, i32_w]
                         rfl
                        refine done_ (done_of HT_.out (by kernel_rfl)) ?_
                        try go_wp2
                        go_ret
                        exact ⟨by first | rfl | (simp [errW_none, errW_some] <;> rfl) | (simp only [← hji42, ← hji67]; first | rfl | (simp [errW_none, errW_some] <;> rfl)) | (simp [*, errW_none, errW_some] <;> rfl) | (simp [errW_none, errW_some, pk_empty1, pk_empty2]; done) | (simp [*, errW_none, errW_some, pk_empty1, pk_empty2]; done), by repeat (first | (with_reducible first | exact HB.out | apply below_alloc | apply pw_below_drewN | apply below_drew1 | refine below_set ?_ GE557.out) | exact HB.out)⟩
                       ·rw [if_neg c69] at H
                        exact absurd H (by simp)
                      ·rw [if_neg c68] at H
                       exact absurd H (by simp)
                     ·rw [if_neg c66] at H
                      have c66b0 : (((rd_T34 t577 (ji42)).f0) == (1 + (t571.size : Int) + 1) && (((rd_T34 t577 (ji42)).f1) && ((((rd_T34 t577 (ji42)).f2.f0) == t555 && (((rd_T34 t577 (ji42)).f2.f1) == t556))))) = false := by simpa using c66
                      (try (have c66b1 : decide (((rd_T34 t577 (ji42)).f0) = (1 + (t571.size : Int) + 1) && (((rd_T34 t577 (ji42)).f1) && ((((rd_T34 t577 (ji42)).f2.f0) == t555 && (((rd_T34 t577 (ji42)).f2.f1) == t556))))) = false := by simpa using c66))
                      (try (have c66b2 : (((rd_T34 t577 (ji42)).f0) == (1 + (t571.size : Int) + 1) && (((rd_T34 t577 (ji42)).f1) && ((((rd_T34 t577 (ji42)).f2.f0) == t555 && (((rd_T34 t577 (ji42)).f2.f1) == t556))))) = false := by simpa using c66))
                      (try (have c66b3 : ¬ (((rd_T34 t577 (ji42)).f0) = (1 + (t571.size : Int) + 1) && (((rd_T34 t577 (ji42)).f1) && ((((rd_T34 t577 (ji42)).f2.f0) == t555 && (((rd_T34 t577 (ji42)).f2.f1) == t556))))) := by simpa using c66))
                      clear c66
                      obtain rfl := Option.some.inj H
                      have hcz85_0 : wc.cell? ⟨gb557, 0, none⟩ = some (.int .i64 t555) := (blk_cell BK557.out 0).trans rfl
                      have hcz85_1 : wc.cell? ⟨gb557, 1, none⟩ = some (.int .i64 t556) := (blk_cell BK557.out 1).trans rfl
                      have hfz85_0 := blk_frozen BK557.out 0
                      have hfz85_1 := blk_frozen BK557.out 1
                      try go_wp2_with (first | ((with_reducible refine gate_callee (f := 26) rfl ?_); refine goesL_ (some 47) rfl rfl Tryd.func26 (by kernel_rfl) rfl #[.agg #[.int .i64 t555, .int .i64 t556]] rfl (by (try simp only [List.map_toArray, List.map_cons, List.map_nil]); first | done | rfl | (simp only [List.length_drop, List.length_take]; rfl)) ?_; (with_reducible refine (impl_EndText.calls t555 t556 t571 _ A38.out).mono ?_); rintro e w86 ⟨rfl, hb⟩; refine ⟨_, rfl, ?_⟩; have n0_ := Aside0.mk (Kd.R_below (by (with_reducible repeat (first | apply Kd.R_alloc | apply Kd.R_drewN | apply Kd.R_drew)); exact HO_7.out) hb); have n1_ := Aside0.mk (blk_below (g := gb557) (o := .cells #[.int .i64 t555, .int .i64 t556] 32 (0, 0)) (by (with_reducible repeat (first | refine blk_drewN ?_ _ | refine blk_drew ?_ | refine blk_alloc ?_ _)); exact BK557.out) hb); have n2_ := Aside0.mk (below_step (by repeat (first | (with_reducible first | exact HB.out | apply below_alloc | apply pw_below_drewN | apply below_drew1 | refine below_set ?_ GE557.out) | exact HB.out)) hb); clear HO_7; clear BK557; clear HB; have HO_7 := n0_; have BK557 := n1_; have HB := n2_; clear n0_ n1_ n2_; (try clear hb); (try clear hb2); (try clear hk); (try clear hi); obtain ⟨Ao87, co87, eo87⟩ := Kd.R_slice HO_7.out; subst eo87; have q88 : ((ji42) : Int) ≤ ((t558.length : Int) : Int) := of_decide_eq_true (by first | (with_reducible assumption) | assumption); obtain ⟨i088, hi088, _, hsz88, _⟩ := info_parts info34; have hroom88 : t558.length ≤ co87 := (Kd.R_reads' HO_7.out).2.1; have hC88 : Kd.C k34 _ Ao87 t558.length t558 := (Kd.R_reads' HO_7.out).2.2; have hcut88 := cut_to (P := Tryd.prog) 22 34 .i64 Tryd.underlying22 hi088 Ao87 t558.length co87 (ji42) (of_decide_eq_true (by first | (with_reducible assumption) | assumption)) q88 hroom88; have hr88 := Kd.C_take (m := ((ji42) : Int).toNat) hC88 (by omega); have hy88 : y572.length = ((ji42) : Int).toNat := (by rw [Ny572.out, List.length_take]; omega); rw [← Ny572.out] at hr88; rw [← hy88] at hcut88; have HR575 := Aside0.mk hr88; have HC575 := Aside0.mk (show y572.length ≤ co87 from by omega); clear hr88 hC88 hroom88 hi088 hsz88; have KY88 := Aside0.mk hy88; clear hy88; have KL88 := Aside0.mk (show ((ji42) : Int).toNat ≤ t558.length from by omega); replace q88 := eq_true q88) | ((with_reducible refine gate_callee (f := 34) rfl ?_); refine goesL_ (some 59) rfl rfl Tryd.func34 (by kernel_rfl) rfl #[.slice Ao87 y572.length co87] rfl (by (try simp only [List.map_toArray, List.map_cons, List.map_nil]); first | done | rfl | (simp only [List.length_drop, List.length_take]; rfl)) ?_; (with_reducible refine (laws_lzSize.calls kj8 _ _ y572 t576 _ ?side1 ?side2 A45.out).mono ?_); (case side1 => repeat (first | exact (by repeat (first | (with_reducible exact HR575.out) | (with_reducible refine Kd.C_alloc ?_ _) | (with_reducible refine Kd.C_drewN ?_ _) | (with_reducible refine Kd.C_drew ?_) | exact HR575.out)) | (with_reducible refine Kd.C_alloc ?_ _) | (with_reducible refine Kd.C_drewN ?_ _) | (with_reducible refine Kd.C_drew ?_))); (case side2 => exact HC575.out); rintro e w' ⟨rfl, ⟨nd, rfl⟩⟩; refine ⟨_, rfl, ?_⟩))
                      (try (rw [drewN_self w86]; generalize hq_ : World.drewN w86 _ = w86; have n0_ : Aside0 (Kd.R k34 34 w86 w.heap.size (fun _ => True) (.slice Ao87 t558.length co87) t558) := ⟨by rw [← hq_]; exact (by (with_reducible repeat (first | apply Kd.R_alloc | apply Kd.R_drewN | apply Kd.R_drew)); exact HO_7.out)⟩; have n1_ : Aside0 (w86.heap[gb557]? = some (.cells #[.int .i64 t555, .int .i64 t556] 32 (0, 0))) := ⟨by rw [← hq_]; exact (by (with_reducible repeat (first | refine blk_drewN ?_ _ | refine blk_drew ?_ | refine blk_alloc ?_ _)); exact BK557.out)⟩; have n2_ : Aside0 (Below w.heap.size w w86) := ⟨by rw [← hq_]; exact (by repeat (first | (with_reducible first | exact HB.out | apply below_alloc | apply pw_below_drewN | apply below_drew1 | refine below_set ?_ GE557.out) | exact HB.out))⟩; have n3_ : Aside0 (Kd.C k34 w86 Ao87 y572.length y572) := ⟨by rw [← hq_]; exact (by repeat (first | (with_reducible exact HR575.out) | (with_reducible refine Kd.C_alloc ?_ _) | (with_reducible refine Kd.C_drewN ?_ _) | (with_reducible refine Kd.C_drew ?_) | exact HR575.out))⟩; clear HO_7 BK557 HB HR575 hq_; have HO_7 := n0_; have BK557 := n1_; have HB := n2_; have HR575 := n3_; clear n0_ n1_ n2_ n3_))
                      have n0_ := Aside0.mk (Kd.R_drew HO_7.out)
                      have n1_ := Aside0.mk (blk_drew BK557.out)
                      have n2_ := Aside0.mk (Kd.C_drew HR575.out)
                      have n3_ := Aside0.mk (below_drew1 HB.out)
                      clear HO_7
                      clear BK557
                      clear HR575
                      clear HB
                      have HO_7 := n0_
                      have BK557 := n1_
                      have HR575 := n2_
                      have HB := n3_
                      clear n0_ n1_ n2_ n3_
                      refine start_ (n := 11) (S := fun w' => True) (ds := []) #[false,false,false,false,false,false,false,false,false,false,false] (by kernel_rfl) rfl rfl trivial (fun hHeld => ?_); refine with_tabW laws_FnNameIn.tab13 laws_FnNameIn.bits13 (fun HT_ HW_ => ?_)
                      generalize w86.drew = w89 at HO_7 BK557 HR575 HB hHeld ⊢
                      refine pure_ (i := 0) (N := some 66) (v := ?_) (a' := ?_) #[true,false,false,false,false,false,false,false,false,false,false] rfl rfl (any_of HT_.out (by kernel_rfl)) (fun _ _ _ h => h) (Or.inl ⟨by rfl, ?_⟩) ?_ ?_
                      rotate_left
                      ·intro w'
                       go_simp
                       with_reducible rfl
                      rotate_left
                      ·simp only [Act.put, s1_, s2_, s3_, i64_w, i32_w]
                       rfl
                      refine pure_ (i := 1) (N := some 67) (v := ?_) (a' := ?_) #[true,true,false,false,false,false,false,false,false,false,false] rfl rfl (any_of HT_.out (by kernel_rfl)) (fun _ _ _ h => h) (Or.inl ⟨by rfl, ?_⟩) ?_ ?_
                      rotate_left
                      ·intro w'
                       go_simp
                       with_reducible rfl
                      rotate_left
                      ·simp only [Act.put, s1_, s2_, s3_, i64_w, i32_w]
                       rfl
                      refine pure_ (i := 2) (N := some 68) (v := ?_) (a' := ?_) #[true,true,true,false,false,false,false,false,false,false,false] rfl rfl (any_of HT_.out (by kernel_rfl)) (fun _ _ _ h => h) (Or.inl ⟨by rfl, ?_⟩) ?_ ?_
                      rotate_left
                      ·intro w'
                       go_simp
                       with_reducible rfl
                      rotate_left
                      ·simp only [Act.put, s1_, s2_, s3_, i64_w, i32_w]
                       rfl
                      refine pure_ (i := 3) (N := some 69) (v := ?_) (a' := ?_) #[true,true,true,true,false,false,false,false,false,false,false] rfl rfl (any_of HT_.out (by kernel_rfl)) (fun _ _ _ h => h) (Or.inl ⟨by rfl, ?_⟩) ?_ ?_
                      rotate_left
                      ·intro w'
                       go_simp
                       with_reducible rfl
                      rotate_left
                      ·simp only [Act.put, s1_, s2_, s3_, i64_w, i32_w]
                       rfl
                      refine pure_ (i := 4) (N := some 70) (v := ?_) (a' := ?_) #[true,true,true,true,true,false,false,false,false,false,false] rfl rfl (any_of HT_.out (by kernel_rfl)) (fun _ _ _ h => h) (Or.inl ⟨by rfl, ?_⟩) ?_ ?_
                      rotate_left
                      ·intro w'
                       go_simp
                       with_reducible rfl
                      rotate_left
                      ·simp only [Act.put, s1_, s2_, s3_, i64_w, i32_w]
                       rfl
                      refine pure_ (i := 5) (N := some 71) (v := ?_) (a' := ?_) #[true,true,true,true,true,true,false,false,false,false,false] rfl rfl (any_of HT_.out (by kernel_rfl)) (fun _ _ _ h => h) (Or.inl ⟨by rfl, ?_⟩) ?_ ?_
                      rotate_left
                      ·intro w'
                       go_simp
                       with_reducible rfl
                      rotate_left
                      ·simp only [Act.put, s1_, s2_, s3_, i64_w, i32_w]
                       rfl
                      refine pure_ (i := 6) (N := some 72) (v := ?_) (a' := ?_) #[true,true,true,true,true,true,true,false,false,false,false] rfl rfl (any_of HT_.out (by kernel_rfl)) (fun _ _ _ h => h) (Or.inl ⟨by rfl, ?_⟩) ?_ ?_
                      rotate_left
                      ·intro w'
                       go_simp
                       with_reducible rfl
                      rotate_left
                      ·simp only [Act.put, s1_, s2_, s3_, i64_w, i32_w]
                       rfl
                      refine pure_ (i := 7) (N := some 73) (v := ?_) (a' := ?_) #[true,true,true,true,true,true,true,true,false,false,false] rfl rfl (any_of HT_.out (by kernel_rfl)) (fun _ _ _ h => h) (Or.inl ⟨by rfl, ?_⟩) ?_ ?_
                      rotate_left
                      ·intro w'
                       go_simp
                       with_reducible rfl
                      rotate_left
                      ·simp only [Act.put, s1_, s2_, s3_, i64_w, i32_w]
                       rfl
                      refine pure_ (i := 8) (N := some 74) (v := ?_) (a' := ?_) #[true,true,true,true,true,true,true,true,true,false,false] rfl rfl (any_of HT_.out (by kernel_rfl)) (fun _ _ _ h => h) (Or.inl ⟨by rfl, ?_⟩) ?_ ?_
                      rotate_left
                      ·intro w'
                       go_simp
                       with_reducible rfl
                      rotate_left
                      ·simp only [Act.put, s1_, s2_, s3_, i64_w, i32_w]
                       rfl
                      refine one_ (i := 9) (N := some 75) #[true,true,true,true,true,true,true,true,true,true,false] rfl rfl (one_of HT_.out (by kernel_rfl)) (by decide) (fun K hK => ?_)
                      refine goes_ Tryd.func15 (by kernel_rfl) rfl #[.string (((t554.extract 0 (t576 : Int).toNat) ++ (((⟨#[64]⟩ : ByteArray) ++ t571) ++ (⟨#[59]⟩ : ByteArray))) ++ (t554.extract (t576 : Int).toNat t554.size))] (by rfl) rfl rfl (by (try simp only [List.map_toArray, List.map_cons, List.map_nil]); first | done | rfl | (simp only [List.length_drop, List.length_take]; rfl)) ?_
                      with_reducible refine (impl_TextPieces.calls kj8 (((t554.extract 0 (t576 : Int).toNat) ++ (((⟨#[64]⟩ : ByteArray) ++ t571) ++ (⟨#[59]⟩ : ByteArray))) ++ (t554.extract (t576 : Int).toNat t554.size)) t577 _ ?side1 A57.out).mono ?_
                      (case side1 => first | exact HG.out | exact GV_below HG.out (by repeat (first | (with_reducible first | exact HB.out | apply below_alloc | apply pw_below_drewN | apply below_drew1 | refine below_set ?_ GE557.out) | exact HB.out)))
                      rintro e w90 ⟨v578, rfl, ho0, hb⟩
                      refine ⟨_, rfl, ?_⟩
                      have n0_ := Aside0.mk (Kd.R_elder' (by (with_reducible repeat (first | apply Kd.R_alloc | apply Kd.R_drewN | apply Kd.R_drew)); exact HO_7.out) (Kd.R_base ho0) hb)
                      have n1_ := Aside0.mk (Kd.R_lower (Kd.R_new' ho0 (Kd.R_lt (by (with_reducible repeat (first | apply Kd.R_alloc | apply Kd.R_drewN | apply Kd.R_drew)); exact HO_7.out))) (below_size (by repeat (first | (with_reducible first | exact HB.out | apply below_alloc | apply pw_below_drewN | apply below_drew1 | refine below_set ?_ GE557.out) | exact HB.out))))
                      have n2_ := Aside0.mk (blk_below (g := gb557) (o := .cells #[.int .i64 t555, .int .i64 t556] 32 (0, 0)) (by (with_reducible repeat (first | refine blk_drewN ?_ _ | refine blk_drew ?_ | refine blk_alloc ?_ _)); exact BK557.out) hb)
                      have n3_ := Aside0.mk (Kd.C_below (by repeat (first | (with_reducible exact HR575.out) | (with_reducible refine Kd.C_alloc ?_ _) | (with_reducible refine Kd.C_drewN ?_ _) | (with_reducible refine Kd.C_drew ?_) | exact HR575.out)) hb)
                      have n4_ := Aside0.mk (below_step (by repeat (first | (with_reducible first | exact HB.out | apply below_alloc | apply pw_below_drewN | apply below_drew1 | refine below_set ?_ GE557.out) | exact HB.out)) hb)
                      clear HO_7
                      clear BK557
                      clear HR575
                      clear HB
                      have HO_7 := n0_
                      have HO579 := n1_
                      have BK557 := n2_
                      have HR575 := n3_
                      have HB := n4_
                      clear n0_ n1_ n2_ n3_ n4_
                      (try clear hb)
                      (try clear hb2)
                      (try clear hk)
                      (try clear hi)
                      (try clear ho0)
                      refine hK.out _ _ trivial (fun hHeld => ?_)
                      clear hK K
                      refine norm_ (a' := ?_) ?_ ?_
                      rotate_left
                      ·show Act.put _ (some 75) _ = _
                       simp only [Act.put, s1_, s2_, s3_, i64_w, i32_w]
                       rfl
                      refine pure_ (i := 10) (N := some 11) (v := ?_) (a' := ?_) #[true,true,true,true,true,true,true,true,true,true,true] rfl rfl (any_of HT_.out (by kernel_rfl)) (fun _ _ _ h => h) (Or.inl ⟨by rfl, ?_⟩) ?_ ?_
                      rotate_left
                      ·intro w'
                       go_simp
                       with_reducible rfl
                      rotate_left
                      ·simp only [Act.put, s1_, s2_, s3_, i64_w, i32_w]
                       rfl
                      refine done_ (done_of HT_.out (by kernel_rfl)) ?_
                      try go_wp2
                      have n0_ := Aside0.mk (Kd.R_drew HO_7.out)
                      have n1_ := Aside0.mk (Kd.R_drew HO579.out)
                      have n2_ := Aside0.mk (blk_drew BK557.out)
                      have n3_ := Aside0.mk (Kd.C_drew HR575.out)
                      have n4_ := Aside0.mk (below_drew1 HB.out)
                      clear HO_7
                      clear HO579
                      clear BK557
                      clear HR575
                      clear HB
                      have HO_7 := n0_
                      have HO579 := n1_
                      have BK557 := n2_
                      have HR575 := n3_
                      have HB := n4_
                      clear n0_ n1_ n2_ n3_ n4_
                      obtain ⟨Ao92, co92, eo92⟩ := Kd.R_slice HO579.out
                      (first | subst eo92 | (injection eo92 with f1_ f2_ f3_; have f4_ := f1_.symm; have f5_ := f3_.symm; clear f1_ f2_ f3_; subst f4_; subst f5_))
                      have q93 : ((ji42) : Int) ≤ ((t577.length : Int) : Int) := of_decide_eq_true (by first | (with_reducible assumption) | assumption)
                      obtain ⟨i093, hi093, _, hsz93, _⟩ := info_parts info34
                      have hroom93 : t577.length ≤ co92 := (Kd.R_reads' HO579.out).2.1
                      have hC93 : Kd.C k34 _ Ao92 t577.length t577 := (Kd.R_reads' HO579.out).2.2
                      have hcut93 := cut_to (P := Tryd.prog) 22 34 .i64 Tryd.underlying22 hi093 Ao92 t577.length co92 (ji42) (of_decide_eq_true (by first | (with_reducible assumption) | assumption)) q93 hroom93
                      have hr93 := Kd.C_take (m := ((ji42) : Int).toNat) hC93 (by omega)
                      have hy93 : y580.length = ((ji42) : Int).toNat := (by rw [Ny580.out, List.length_take]; omega)
                      rw [← Ny580.out] at hr93
                      rw [← hy93] at hcut93
                      have HR583 := Aside0.mk hr93
                      have HC583 := Aside0.mk (show y580.length ≤ co92 from by omega)
                      clear hr93 hC93 hroom93 hi093 hsz93
                      have KY93 := Aside0.mk hy93
                      clear hy93
                      have KL93 := Aside0.mk (show ((ji42) : Int).toNat ≤ t577.length from by omega)
                      replace q93 := eq_true q93
                      have q94 : ((ji42) : Int) ≤ ((t558.length : Int) : Int) := of_decide_eq_true (by first | (with_reducible assumption) | assumption)
                      obtain ⟨i094, hi094, _, hsz94, _⟩ := info_parts info34
                      have hroom94 : t558.length ≤ co87 := (Kd.R_reads' HO_7.out).2.1
                      have hC94 : Kd.C k34 _ Ao87 t558.length t558 := (Kd.R_reads' HO_7.out).2.2
                      have hcut94 := cut_to (P := Tryd.prog) 22 34 .i64 Tryd.underlying22 hi094 Ao87 t558.length co87 (ji42) (of_decide_eq_true (by first | (with_reducible assumption) | assumption)) q94 hroom94
                      have hr94 := Kd.C_take (m := ((ji42) : Int).toNat) hC94 (by omega)
                      have hy94 : y572.length = ((ji42) : Int).toNat := (by rw [Ny584.out, List.length_take]; omega)
                      rw [← Ny584.out] at hr94
                      rw [← hy94] at hcut94
                      have HR587 := Aside0.mk hr94
                      have HC587 := Aside0.mk (show y572.length ≤ co87 from by omega)
                      clear hr94 hC94 hroom94 hi094 hsz94
                      have KY94 := Aside0.mk hy94
                      clear hy94
                      have KL94 := Aside0.mk (show ((ji42) : Int).toNat ≤ t558.length from by omega)
                      replace q94 := eq_true q94
                      have p589 : 0 ≤ ((ji42) : Int) := of_decide_eq_true (by first | (with_reducible assumption) | assumption)
                      have q589 : (ji42) < (t577.length : Int) := of_decide_eq_true (by first | (with_reducible assumption) | assumption)
                      obtain ⟨ad589, e589, hx589_0, hx589_1, hx589_2, hx589_3⟩ := at_T34 (Kd.R_reads' HO579.out).2.2 (ji42) p589 q589
                      cases e589
                      replace p589 := eq_true p589
                      replace q589 := eq_true q589
                      refine start_ (n := 36) (S := fun w' => w'.cell? ⟨gb557, 0, none⟩ = some (.int .i64 t555) ∧ w'.cell? ⟨gb557, 1, none⟩ = some (.int .i64 t556) ∧ w'.cell? (ad589.add (((ji42)).toNat * 4)) = some (.int .i64 ((rd_T34 t577 (ji42)).f0)) ∧ w'.cell? ⟨(ad589.add (((ji42)).toNat * 4)).block, (ad589.add (((ji42)).toNat * 4)).off + 1, none⟩ = some (.bool ((rd_T34 t577 (ji42)).f1)) ∧ w'.cell? ⟨(ad589.add (((ji42)).toNat * 4)).block, (ad589.add (((ji42)).toNat * 4)).off + 2, none⟩ = some (.int .i64 ((rd_T34 t577 (ji42)).f2.f0)) ∧ w'.cell? ⟨(ad589.add (((ji42)).toNat * 4)).block, (ad589.add (((ji42)).toNat * 4)).off + 3, none⟩ = some (.int .i64 ((rd_T34 t577 (ji42)).f2.f1))) (ds := []) #[false,false,false,false,false,false,false,false,false,false,false,false,false,false,false,false,false,false,false,false,false,false,false,false,false,false,false,false,false,false,false,false,false,false,false,false] (by kernel_rfl) rfl rfl ⟨(blk_cell BK557.out 0).trans rfl, (blk_cell BK557.out 1).trans rfl, hx589_0, hx589_1, hx589_2, hx589_3⟩ (fun hHeld => ?_); refine with_tabW laws_FnNameIn.tab15 laws_FnNameIn.bits15 (fun HT_ HW_ => ?_)
                      generalize w90.drew = w91 at HO_7 HO579 BK557 HR575 HB HR583 HR587 hx589_0 hx589_1 hx589_2 hx589_3 hHeld ⊢
                      refine pure_ (i := 0) (N := some 78) (v := ?_) (a' := ?_) #[true,false,false,false,false,false,false,false,false,false,false,false,false,false,false,false,false,false,false,false,false,false,false,false,false,false,false,false,false,false,false,false,false,false,false,false] rfl rfl (any_of HT_.out (by kernel_rfl)) (fun _ _ _ h => h) (Or.inl ⟨by rfl, ?_⟩) ?_ ?_
                      rotate_left
                      ·intro w'
                       go_simp
                       with_reducible rfl
                      rotate_left
                      ·simp only [Act.put, s1_, s2_, s3_, i64_w, i32_w]
                       rfl
                      refine pure_ (i := 1) (N := some 79) (v := ?_) (a' := ?_) #[true,true,false,false,false,false,false,false,false,false,false,false,false,false,false,false,false,false,false,false,false,false,false,false,false,false,false,false,false,false,false,false,false,false,false,false] rfl rfl (any_of HT_.out (by kernel_rfl)) (fun _ _ _ h => h) (Or.inl ⟨by rfl, ?_⟩) ?_ ?_
                      rotate_left
                      ·intro w'
                       go_simp
                       with_reducible rfl
                      rotate_left
                      ·simp only [Act.put, s1_, s2_, s3_, i64_w, i32_w]
                       rfl
                      refine pure_ (i := 2) (N := some 80) (v := ?_) (a' := ?_) #[true,true,true,false,false,false,false,false,false,false,false,false,false,false,false,false,false,false,false,false,false,false,false,false,false,false,false,false,false,false,false,false,false,false,false,false] rfl rfl (any_of HT_.out (by kernel_rfl)) (fun _ _ _ h => h) (Or.inl ⟨by rfl, ?_⟩) ?_ ?_
                      rotate_left
                      ·intro w'
                       go_simp
                       with_reducible rfl
                      rotate_left
                      ·simp only [Act.put, s1_, s2_, s3_, i64_w, i32_w]
                       rfl
                      refine pure_ (i := 3) (N := some 81) (v := ?_) (a' := ?_) #[true,true,true,true,false,false,false,false,false,false,false,false,false,false,false,false,false,false,false,false,false,false,false,false,false,false,false,false,false,false,false,false,false,false,false,false] rfl rfl (any_of HT_.out (by kernel_rfl)) (fun _ _ _ h => h) (Or.inl ⟨by rfl, ?_⟩) ?_ ?_
                      rotate_left
                      ·intro w'
                       go_simp
                       with_reducible rfl
                      rotate_left
                      ·simp only [Act.put, s1_, s2_, s3_, i64_w, i32_w]
                       rfl
                      refine pure_ (i := 4) (N := some 82) (v := ?_) (a' := ?_) #[true,true,true,true,true,false,false,false,false,false,false,false,false,false,false,false,false,false,false,false,false,false,false,false,false,false,false,false,false,false,false,false,false,false,false,false] rfl rfl (any_of HT_.out (by kernel_rfl)) (fun _ _ _ h => h) (Or.inl ⟨by rfl, ?_⟩) ?_ ?_
                      rotate_left
                      ·intro w'
                       go_simp
                       with_reducible rfl
                      rotate_left
                      ·simp only [Act.put, s1_, s2_, s3_, i64_w, i32_w]
                       rfl
                      refine pure_ (i := 5) (N := some 83) (v := ?_) (a' := ?_) #[true,true,true,true,true,true,false,false,false,false,false,false,false,false,false,false,false,false,false,false,false,false,false,false,false,false,false,false,false,false,false,false,false,false,false,false] rfl rfl (any_of HT_.out (by kernel_rfl)) (fun _ _ _ h => h) (Or.inl ⟨by rfl, ?_⟩) ?_ ?_
                      rotate_left
                      ·intro w'
                       go_simp
                       with_reducible rfl
                      rotate_left
                      ·simp only [Act.put, s1_, s2_, s3_, i64_w, i32_w]
                       rfl
                      refine pure_ (i := 6) (N := some 84) (v := ?_) (a' := ?_) #[true,true,true,true,true,true,true,false,false,false,false,false,false,false,false,false,false,false,false,false,false,false,false,false,false,false,false,false,false,false,false,false,false,false,false,false] rfl rfl (any_of HT_.out (by kernel_rfl)) (fun _ _ _ h => h) (Or.inl ⟨by rfl, ?_⟩) ?_ ?_
                      rotate_left
                      ·intro w'
                       go_simp
                       with_reducible rfl
                      rotate_left
                      ·simp only [Act.put, s1_, s2_, s3_, i64_w, i32_w]
                       rfl
                      refine pure_ (i := 7) (N := some 85) (v := ?_) (a' := ?_) #[true,true,true,true,true,true,true,true,false,false,false,false,false,false,false,false,false,false,false,false,false,false,false,false,false,false,false,false,false,false,false,false,false,false,false,false] rfl rfl (any_of HT_.out (by kernel_rfl)) (fun _ _ _ h => h) (Or.inl ⟨by rfl, ?_⟩) ?_ ?_
                      rotate_left
                      ·intro w'
                       go_simp
                       with_reducible rfl
                      rotate_left
                      ·simp only [Act.put, s1_, s2_, s3_, i64_w, i32_w]
                       rfl
                      refine pure_ (i := 8) (N := some 86) (v := ?_) (a' := ?_) #[true,true,true,true,true,true,true,true,true,false,false,false,false,false,false,false,false,false,false,false,false,false,false,false,false,false,false,false,false,false,false,false,false,false,false,false] rfl rfl (any_of HT_.out (by kernel_rfl)) (fun _ _ _ h => h) (Or.inl ⟨by rfl, ?_⟩) ?_ ?_
                      rotate_left
                      ·intro w'
                       go_simp
                       with_reducible rfl
                      rotate_left
                      ·simp only [Act.put, s1_, s2_, s3_, i64_w, i32_w]
                       rfl
                      refine pure_ (i := 9) (N := some 87) (v := ?_) (a' := ?_) #[true,true,true,true,true,true,true,true,true,true,false,false,false,false,false,false,false,false,false,false,false,false,false,false,false,false,false,false,false,false,false,false,false,false,false,false] rfl rfl (any_of HT_.out (by kernel_rfl)) (fun _ _ _ h => h) (Or.inl ⟨by rfl, ?_⟩) ?_ ?_
                      rotate_left
                      ·intro w'
                       go_simp
                       with_reducible rfl
                      rotate_left
                      ·simp only [Act.put, s1_, s2_, s3_, i64_w, i32_w]
                       rfl
                      refine pure_ (i := 10) (N := some 88) (v := ?_) (a' := ?_) #[true,true,true,true,true,true,true,true,true,true,true,false,false,false,false,false,false,false,false,false,false,false,false,false,false,false,false,false,false,false,false,false,false,false,false,false] rfl rfl (any_of HT_.out (by kernel_rfl)) (fun _ _ _ h => h) (Or.inl ⟨by rfl, ?_⟩) ?_ ?_
                      rotate_left
                      ·intro w'
                       go_simp
                       with_reducible rfl
                      rotate_left
                      ·simp only [Act.put, s1_, s2_, s3_, i64_w, i32_w]
                       rfl
                      refine pure_ (i := 11) (N := some 89) (v := ?_) (a' := ?_) #[true,true,true,true,true,true,true,true,true,true,true,true,false,false,false,false,false,false,false,false,false,false,false,false,false,false,false,false,false,false,false,false,false,false,false,false] rfl rfl (any_of HT_.out (by kernel_rfl)) (fun _ _ _ h => h) (Or.inl ⟨by rfl, ?_⟩) ?_ ?_
                      rotate_left
                      ·intro w'
                       go_simp
                       with_reducible rfl
                      rotate_left
                      ·simp only [Act.put, s1_, s2_, s3_, i64_w, i32_w]
                       rfl
                      refine one_ (i := 12) (N := some 90) #[true,true,true,true,true,true,true,true,true,true,true,true,true,false,false,false,false,false,false,false,false,false,false,false,false,false,false,false,false,false,false,false,false,false,false,false] rfl rfl (one_of HT_.out (by kernel_rfl)) (by decide) (fun K hK => ?_)
                      refine goes_ Tryd.func24 (by kernel_rfl) rfl #[.slice (some ad589) y580.length co92, .slice Ao87 y572.length co87] (by rfl) rfl rfl (by (try simp only [List.map_toArray, List.map_cons, List.map_nil]); first | done | rfl | (simp only [List.length_drop, List.length_take]; rfl)) ?_
                      with_reducible refine (laws_lzPieces.calls kj8 _ _ y580 _ _ y572 true _ ?side1 ?side2 ?side3 ?side4 A63.out).mono ?_
                      (case side1 => repeat (first | exact (by repeat (first | (with_reducible exact HR583.out) | (with_reducible refine Kd.C_alloc ?_ _) | (with_reducible refine Kd.C_drewN ?_ _) | (with_reducible refine Kd.C_drew ?_) | exact HR583.out)) | (with_reducible refine Kd.C_alloc ?_ _) | (with_reducible refine Kd.C_drewN ?_ _) | (with_reducible refine Kd.C_drew ?_)))
                      (case side2 => exact HC583.out)
                      (case side3 => repeat (first | exact (by repeat (first | (with_reducible exact HR587.out) | (with_reducible refine Kd.C_alloc ?_ _) | (with_reducible refine Kd.C_drewN ?_ _) | (with_reducible refine Kd.C_drew ?_) | exact HR587.out)) | (with_reducible refine Kd.C_alloc ?_ _) | (with_reducible refine Kd.C_drewN ?_ _) | (with_reducible refine Kd.C_drew ?_)))
                      (case side4 => exact HC587.out)
                      rintro e w' ⟨rfl, ⟨nd, rfl⟩⟩
                      refine ⟨_, rfl, ?_⟩
                      refine hK.out _ _ ⟨(blk_cell BK557.out 0).trans rfl, (blk_cell BK557.out 1).trans rfl, hHeld.2.2.1, hHeld.2.2.2.1, hHeld.2.2.2.2.1, hHeld.2.2.2.2.2⟩ (fun hHeld => ?_)
                      clear hK K
                      refine norm_ (a' := ?_) ?_ ?_
                      rotate_left
                      ·show Act.put _ (some 90) _ = _
                       simp only [Act.put, s1_, s2_, s3_, i64_w, i32_w]
                       rfl
                      refine pure_ (i := 13) (N := some 91) (v := ?_) (a' := ?_) #[true,true,true,true,true,true,true,true,true,true,true,true,true,true,false,false,false,false,false,false,false,false,false,false,false,false,false,false,false,false,false,false,false,false,false,false] rfl rfl (any_of HT_.out (by kernel_rfl)) (fun _ _ _ h => h) (Or.inl ⟨by rfl, ?_⟩) ?_ ?_
                      rotate_left
                      ·intro w'
                       go_simp
                       with_reducible rfl
                      rotate_left
                      ·simp only [Act.put, s1_, s2_, s3_, i64_w, i32_w]
                       rfl
                      refine pure_ (i := 14) (N := some 92) (v := ?_) (a' := ?_) #[true,true,true,true,true,true,true,true,true,true,true,true,true,true,true,false,false,false,false,false,false,false,false,false,false,false,false,false,false,false,false,false,false,false,false,false] rfl rfl (any_of HT_.out (by kernel_rfl)) (fun _ _ _ h => h) (Or.inl ⟨by rfl, ?_⟩) ?_ ?_
                      rotate_left
                      ·intro w'
                       go_simp
                       with_reducible rfl
                      rotate_left
                      ·simp only [Act.put, s1_, s2_, s3_, i64_w, i32_w]
                       rfl
                      refine pure_ (i := 15) (N := some 93) (v := ?_) (a' := ?_) #[true,true,true,true,true,true,true,true,true,true,true,true,true,true,true,true,false,false,false,false,false,false,false,false,false,false,false,false,false,false,false,false,false,false,false,false] rfl rfl (any_of HT_.out (by kernel_rfl)) (fun _ _ _ h => h) (Or.inl ⟨by rfl, ?_⟩) ?_ ?_
                      rotate_left
                      ·intro w'
                       go_simp
                       with_reducible rfl
                      rotate_left
                      ·simp only [Act.put, s1_, s2_, s3_, i64_w, i32_w]
                       rfl
                      refine pure_ (i := 16) (N := some 94) (v := ?_) (a' := ?_) #[true,true,true,true,true,true,true,true,true,true,true,true,true,true,true,true,true,false,false,false,false,false,false,false,false,false,false,false,false,false,false,false,false,false,false,false] rfl rfl (any_of HT_.out (by kernel_rfl)) (fun _ _ _ h => h) (Or.inl ⟨by rfl, ?_⟩) ?_ ?_
                      rotate_left
                      ·intro w'
                       go_simp
                       with_reducible rfl
                      rotate_left
                      ·simp only [Act.put, s1_, s2_, s3_, i64_w, i32_w]
                       rfl
                      refine pure_ (i := 17) (N := some 95) (v := ?_) (a' := ?_) #[true,true,true,true,true,true,true,true,true,true,true,true,true,true,true,true,true,true,false,false,false,false,false,false,false,false,false,false,false,false,false,false,false,false,false,false] rfl rfl (any_of HT_.out (by kernel_rfl)) (fun _ _ _ h => h) (Or.inl ⟨by rfl, ?_⟩) ?_ ?_
                      rotate_left
                      ·intro w'
                       go_simp
                       with_reducible rfl
                      rotate_left
                      ·simp only [Act.put, s1_, s2_, s3_, i64_w, i32_w]
                       rfl
                      refine pure_ (i := 19) (N := some 97) (v := ?_) (a' := ?_) #[true,true,true,true,true,true,true,true,true,true,true,true,true,true,true,true,true,true,false,true,false,false,false,false,false,false,false,false,false,false,false,false,false,false,false,false] rfl rfl (any_of HT_.out (by kernel_rfl)) (fun _ _ _ h => h) (Or.inl ⟨by rfl, ?_⟩) ?_ ?_
                      rotate_left
                      ·intro w'
                       go_simp
                       with_reducible rfl
                      rotate_left
                      ·simp only [Act.put, s1_, s2_, s3_, i64_w, i32_w]
                       rfl
                      refine pure_ (i := 20) (N := some 98) (v := ?_) (a' := ?_) #[true,true,true,true,true,true,true,true,true,true,true,true,true,true,true,true,true,true,false,true,true,false,false,false,false,false,false,false,false,false,false,false,false,false,false,false] rfl rfl (any_of HT_.out (by kernel_rfl)) (fun _ _ _ h => h) (Or.inl ⟨by rfl, ?_⟩) ?_ ?_
                      rotate_left
                      ·intro w'
                       go_simp
                       with_reducible rfl
                      rotate_left
                      ·simp only [Act.put, s1_, s2_, s3_, i64_w, i32_w]
                       rfl
                      refine take_ (i := 18) (N := some 96) (v := ?_) (a' := ?_) #[true,true,true,true,true,true,true,true,true,true,true,true,true,true,true,true,true,true,true,true,true,false,false,false,false,false,false,false,false,false,false,false,false,false,false,false] rfl rfl (take_ofW HT_.out HW_.out (by kernel_rfl)) (fun _ _ _ h => h) (Or.inl ⟨by rfl, ?_⟩) hHeld ?_ ?_
                      rotate_left
                      ·rintro w' ⟨s0, s1, s2, s3, s4, s5⟩
                       go_simp
                       with_reducible rfl
                      rotate_left
                      ·simp only [Act.put, s1_, s2_, s3_, i64_w, i32_w]
                       rfl
                      refine take_ (i := 21) (N := some 99) (v := ?_) (a' := ?_) #[true,true,true,true,true,true,true,true,true,true,true,true,true,true,true,true,true,true,true,true,true,true,false,false,false,false,false,false,false,false,false,false,false,false,false,false] rfl rfl (take_ofW HT_.out HW_.out (by kernel_rfl)) (fun _ _ _ h => h) (Or.inl ⟨by rfl, ?_⟩) hHeld ?_ ?_
                      rotate_left
                      ·rintro w' ⟨s0, s1, s2, s3, s4, s5⟩
                       go_simp
                       with_reducible rfl
                      rotate_left
                      ·simp only [Act.put, s1_, s2_, s3_, i64_w, i32_w]
                       rfl
                      refine pure_ (i := 22) (N := some 100) (v := ?_) (a' := ?_) #[true,true,true,true,true,true,true,true,true,true,true,true,true,true,true,true,true,true,true,true,true,true,true,false,false,false,false,false,false,false,false,false,false,false,false,false] rfl rfl (any_of HT_.out (by kernel_rfl)) (fun _ _ _ h => h) (Or.inl ⟨by rfl, ?_⟩) ?_ ?_
                      rotate_left
                      ·intro w'
                       go_simp
                       with_reducible rfl
                      rotate_left
                      ·simp only [Act.put, s1_, s2_, s3_, i64_w, i32_w]
                       rfl
                      refine pure_ (i := 23) (N := some 101) (v := ?_) (a' := ?_) #[true,true,true,true,true,true,true,true,true,true,true,true,true,true,true,true,true,true,true,true,true,true,true,true,false,false,false,false,false,false,false,false,false,false,false,false] rfl rfl (any_of HT_.out (by kernel_rfl)) (fun _ _ _ h => h) (Or.inl ⟨by rfl, ?_⟩) ?_ ?_
                      rotate_left
                      ·intro w'
                       go_simp
                       with_reducible rfl
                      rotate_left
                      ·simp only [Act.put, s1_, s2_, s3_, i64_w, i32_w]
                       rfl
                      refine pure_ (i := 24) (N := some 102) (v := ?_) (a' := ?_) #[true,true,true,true,true,true,true,true,true,true,true,true,true,true,true,true,true,true,true,true,true,true,true,true,true,false,false,false,false,false,false,false,false,false,false,false] rfl rfl (any_of HT_.out (by kernel_rfl)) (fun _ _ _ h => h) (Or.inl ⟨by rfl, ?_⟩) ?_ ?_
                      rotate_left
                      ·intro w'
                       go_simp
                       with_reducible rfl
                      rotate_left
                      ·simp only [Act.put, s1_, s2_, s3_, i64_w, i32_w]
                       rfl
                      refine pure_ (i := 25) (N := some 103) (v := ?_) (a' := ?_) #[true,true,true,true,true,true,true,true,true,true,true,true,true,true,true,true,true,true,true,true,true,true,true,true,true,true,false,false,false,false,false,false,false,false,false,false] rfl rfl (any_of HT_.out (by kernel_rfl)) (fun _ _ _ h => h) (Or.inl ⟨by rfl, ?_⟩) ?_ ?_
                      rotate_left
                      ·intro w'
                       go_simp
                       with_reducible rfl
                      rotate_left
                      ·simp only [Act.put, s1_, s2_, s3_, i64_w, i32_w]
                       rfl
                      refine pure_ (i := 26) (N := some 104) (v := undef) (a' := ?_) #[true,true,true,true,true,true,true,true,true,true,true,true,true,true,true,true,true,true,true,true,true,true,true,true,true,true,true,false,false,false,false,false,false,false,false,false] rfl rfl (any_of HT_.out (by kernel_rfl)) (fun _ _ _ h => h) (Or.inr ⟨by rfl, rfl⟩) ?_ ?_
                      rotate_left
                      ·simp only [Act.put, s1_, s2_, s3_, i64_w, i32_w]
                       rfl
                      refine pure_ (i := 27) (N := some 105) (v := undef) (a' := ?_) #[true,true,true,true,true,true,true,true,true,true,true,true,true,true,true,true,true,true,true,true,true,true,true,true,true,true,true,true,false,false,false,false,false,false,false,false] rfl rfl (any_of HT_.out (by kernel_rfl)) (fun _ _ _ h => h) (Or.inr ⟨by rfl, rfl⟩) ?_ ?_
                      rotate_left
                      ·simp only [Act.put, s1_, s2_, s3_, i64_w, i32_w]
                       rfl
                      refine pure_ (i := 28) (N := some 106) (v := undef) (a' := ?_) #[true,true,true,true,true,true,true,true,true,true,true,true,true,true,true,true,true,true,true,true,true,true,true,true,true,true,true,true,true,false,false,false,false,false,false,false] rfl rfl (any_of HT_.out (by kernel_rfl)) (fun _ _ _ h => h) (Or.inr ⟨by rfl, rfl⟩) ?_ ?_
                      rotate_left
                      ·simp only [Act.put, s1_, s2_, s3_, i64_w, i32_w]
                       rfl
                      refine pure_ (i := 29) (N := some 107) (v := undef) (a' := ?_) #[true,true,true,true,true,true,true,true,true,true,true,true,true,true,true,true,true,true,true,true,true,true,true,true,true,true,true,true,true,true,false,false,false,false,false,false] rfl rfl (any_of HT_.out (by kernel_rfl)) (fun _ _ _ h => h) (Or.inr ⟨by rfl, rfl⟩) ?_ ?_
                      rotate_left
                      ·simp only [Act.put, s1_, s2_, s3_, i64_w, i32_w]
                       rfl
                      refine pure_ (i := 30) (N := some 108) (v := undef) (a' := ?_) #[true,true,true,true,true,true,true,true,true,true,true,true,true,true,true,true,true,true,true,true,true,true,true,true,true,true,true,true,true,true,true,false,false,false,false,false] rfl rfl (any_of HT_.out (by kernel_rfl)) (fun _ _ _ h => h) (Or.inr ⟨by rfl, rfl⟩) ?_ ?_
                      rotate_left
                      ·simp only [Act.put, s1_, s2_, s3_, i64_w, i32_w]
                       rfl
                      refine pure_ (i := 31) (N := some 109) (v := undef) (a' := ?_) #[true,true,true,true,true,true,true,true,true,true,true,true,true,true,true,true,true,true,true,true,true,true,true,true,true,true,true,true,true,true,true,true,false,false,false,false] rfl rfl (any_of HT_.out (by kernel_rfl)) (fun _ _ _ h => h) (Or.inr ⟨by rfl, rfl⟩) ?_ ?_
                      rotate_left
                      ·simp only [Act.put, s1_, s2_, s3_, i64_w, i32_w]
                       rfl
                      refine pure_ (i := 32) (N := some 110) (v := undef) (a' := ?_) #[true,true,true,true,true,true,true,true,true,true,true,true,true,true,true,true,true,true,true,true,true,true,true,true,true,true,true,true,true,true,true,true,true,false,false,false] rfl rfl (any_of HT_.out (by kernel_rfl)) (fun _ _ _ h => h) (Or.inr ⟨by rfl, rfl⟩) ?_ ?_
                      rotate_left
                      ·simp only [Act.put, s1_, s2_, s3_, i64_w, i32_w]
                       rfl
                      refine pure_ (i := 33) (N := some 111) (v := undef) (a' := ?_) #[true,true,true,true,true,true,true,true,true,true,true,true,true,true,true,true,true,true,true,true,true,true,true,true,true,true,true,true,true,true,true,true,true,true,false,false] rfl rfl (any_of HT_.out (by kernel_rfl)) (fun _ _ _ h => h) (Or.inr ⟨by rfl, rfl⟩) ?_ ?_
                      rotate_left
                      ·simp only [Act.put, s1_, s2_, s3_, i64_w, i32_w]
                       rfl
                      refine pure_ (i := 34) (N := some 112) (v := ?_) (a' := ?_) #[true,true,true,true,true,true,true,true,true,true,true,true,true,true,true,true,true,true,true,true,true,true,true,true,true,true,true,true,true,true,true,true,true,true,true,false] rfl rfl (any_of HT_.out (by kernel_rfl)) (fun _ _ _ h => h) (Or.inl ⟨by rfl, ?_⟩) ?_ ?_
                      rotate_left
                      ·intro w'
                       go_simp
                       with_reducible rfl
                      rotate_left
                      ·simp only [Act.put, s1_, s2_, s3_, i64_w, i32_w]
                       rfl
                      refine pure_ (i := 35) (N := some 4) (v := ?_) (a' := ?_) #[true,true,true,true,true,true,true,true,true,true,true,true,true,true,true,true,true,true,true,true,true,true,true,true,true,true,true,true,true,true,true,true,true,true,true,true] rfl rfl (any_of HT_.out (by kernel_rfl)) (fun _ _ _ h => h) (Or.inl ⟨by rfl, ?_⟩) ?_ ?_
                      rotate_left
                      ·intro w'
                       go_simp
                       with_reducible rfl
                      rotate_left
                      ·simp only [Act.put, s1_, s2_, s3_, i64_w, i32_w]
                       rfl
                      refine done_ (done_of HT_.out (by kernel_rfl)) ?_
                      try go_wp2
                      go_ret
                      exact ⟨by first | rfl | (simp [errW_none, errW_some] <;> rfl) | (simp only [← hji42]; first | rfl | (simp [errW_none, errW_some] <;> rfl)) | (simp [*, errW_none, errW_some] <;> rfl) | (simp [errW_none, errW_some, pk_empty1, pk_empty2]; done) | (simp [*, errW_none, errW_some, pk_empty1, pk_empty2]; done), by repeat (first | (with_reducible first | exact HB.out | apply below_alloc | apply pw_below_drewN | apply below_drew1 | refine below_set ?_ GE557.out) | exact HB.out)⟩
                    ·rw [if_neg c65] at H
                     exact absurd H (by simp)
                   ·replace c64 := Bool.eq_false_iff.mpr c64
                    subst c64
                    have H1 : (some false) = some r := by rw [if_neg (show ¬ (false = true) by decide)] at H; exact H
                    clear H
                    have H := H1
                    clear H1
                    obtain rfl := Option.some.inj H
                    have hcz95_0 : wc.cell? ⟨gb557, 0, none⟩ = some (.int .i64 t555) := (blk_cell BK557.out 0).trans rfl
                    have hcz95_1 : wc.cell? ⟨gb557, 1, none⟩ = some (.int .i64 t556) := (blk_cell BK557.out 1).trans rfl
                    have hfz95_0 := blk_frozen BK557.out 0
                    have hfz95_1 := blk_frozen BK557.out 1
                    try go_wp2_with (first | ((with_reducible refine gate_callee (f := 26) rfl ?_); refine goesL_ (some 47) rfl rfl Tryd.func26 (by kernel_rfl) rfl #[.agg #[.int .i64 t555, .int .i64 t556]] rfl (by (try simp only [List.map_toArray, List.map_cons, List.map_nil]); first | done | rfl | (simp only [List.length_drop, List.length_take]; rfl)) ?_; (with_reducible refine (impl_EndText.calls t555 t556 t571 _ A38.out).mono ?_); rintro e w96 ⟨rfl, hb⟩; refine ⟨_, rfl, ?_⟩; have n0_ := Aside0.mk (Kd.R_below (by (with_reducible repeat (first | apply Kd.R_alloc | apply Kd.R_drewN | apply Kd.R_drew)); exact HO_7.out) hb); have n1_ := Aside0.mk (blk_below (g := gb557) (o := .cells #[.int .i64 t555, .int .i64 t556] 32 (0, 0)) (by (with_reducible repeat (first | refine blk_drewN ?_ _ | refine blk_drew ?_ | refine blk_alloc ?_ _)); exact BK557.out) hb); have n2_ := Aside0.mk (below_step (by repeat (first | (with_reducible first | exact HB.out | apply below_alloc | apply pw_below_drewN | apply below_drew1 | refine below_set ?_ GE557.out) | exact HB.out)) hb); clear HO_7; clear BK557; clear HB; have HO_7 := n0_; have BK557 := n1_; have HB := n2_; clear n0_ n1_ n2_; (try clear hb); (try clear hb2); (try clear hk); (try clear hi); obtain ⟨Ao97, co97, eo97⟩ := Kd.R_slice HO_7.out; subst eo97; have q98 : ((ji42) : Int) ≤ ((t558.length : Int) : Int) := of_decide_eq_true (by first | (with_reducible assumption) | assumption); obtain ⟨i098, hi098, _, hsz98, _⟩ := info_parts info34; have hroom98 : t558.length ≤ co97 := (Kd.R_reads' HO_7.out).2.1; have hC98 : Kd.C k34 _ Ao97 t558.length t558 := (Kd.R_reads' HO_7.out).2.2; have hcut98 := cut_to (P := Tryd.prog) 22 34 .i64 Tryd.underlying22 hi098 Ao97 t558.length co97 (ji42) (of_decide_eq_true (by first | (with_reducible assumption) | assumption)) q98 hroom98; have hr98 := Kd.C_take (m := ((ji42) : Int).toNat) hC98 (by omega); have hy98 : y572.length = ((ji42) : Int).toNat := (by rw [Ny572.out, List.length_take]; omega); rw [← Ny572.out] at hr98; rw [← hy98] at hcut98; have HR575 := Aside0.mk hr98; have HC575 := Aside0.mk (show y572.length ≤ co97 from by omega); clear hr98 hC98 hroom98 hi098 hsz98; have KY98 := Aside0.mk hy98; clear hy98; have KL98 := Aside0.mk (show ((ji42) : Int).toNat ≤ t558.length from by omega); replace q98 := eq_true q98) | ((with_reducible refine gate_callee (f := 34) rfl ?_); refine goesL_ (some 59) rfl rfl Tryd.func34 (by kernel_rfl) rfl #[.slice Ao97 y572.length co97] rfl (by (try simp only [List.map_toArray, List.map_cons, List.map_nil]); first | done | rfl | (simp only [List.length_drop, List.length_take]; rfl)) ?_; (with_reducible refine (laws_lzSize.calls kj8 _ _ y572 t576 _ ?side1 ?side2 A45.out).mono ?_); (case side1 => repeat (first | exact (by repeat (first | (with_reducible exact HR575.out) | (with_reducible refine Kd.C_alloc ?_ _) | (with_reducible refine Kd.C_drewN ?_ _) | (with_reducible refine Kd.C_drew ?_) | exact HR575.out)) | (with_reducible refine Kd.C_alloc ?_ _) | (with_reducible refine Kd.C_drewN ?_ _) | (with_reducible refine Kd.C_drew ?_))); (case side2 => exact HC575.out); rintro e w' ⟨rfl, ⟨nd, rfl⟩⟩; refine ⟨_, rfl, ?_⟩))
                    (try (rw [drewN_self w96]; generalize hq_ : World.drewN w96 _ = w96; have n0_ : Aside0 (Kd.R k34 34 w96 w.heap.size (fun _ => True) (.slice Ao97 t558.length co97) t558) := ⟨by rw [← hq_]; exact (by (with_reducible repeat (first | apply Kd.R_alloc | apply Kd.R_drewN | apply Kd.R_drew)); exact HO_7.out)⟩; have n1_ : Aside0 (w96.heap[gb557]? = some (.cells #[.int .i64 t555, .int .i64 t556] 32 (0, 0))) := ⟨by rw [← hq_]; exact (by (with_reducible repeat (first | refine blk_drewN ?_ _ | refine blk_drew ?_ | refine blk_alloc ?_ _)); exact BK557.out)⟩; have n2_ : Aside0 (Below w.heap.size w w96) := ⟨by rw [← hq_]; exact (by repeat (first | (with_reducible first | exact HB.out | apply below_alloc | apply pw_below_drewN | apply below_drew1 | refine below_set ?_ GE557.out) | exact HB.out))⟩; have n3_ : Aside0 (Kd.C k34 w96 Ao97 y572.length y572) := ⟨by rw [← hq_]; exact (by repeat (first | (with_reducible exact HR575.out) | (with_reducible refine Kd.C_alloc ?_ _) | (with_reducible refine Kd.C_drewN ?_ _) | (with_reducible refine Kd.C_drew ?_) | exact HR575.out))⟩; clear HO_7 BK557 HB HR575 hq_; have HO_7 := n0_; have BK557 := n1_; have HB := n2_; have HR575 := n3_; clear n0_ n1_ n2_ n3_))
                    have n0_ := Aside0.mk (Kd.R_drew HO_7.out)
                    have n1_ := Aside0.mk (blk_drew BK557.out)
                    have n2_ := Aside0.mk (Kd.C_drew HR575.out)
                    have n3_ := Aside0.mk (below_drew1 HB.out)
                    clear HO_7
                    clear BK557
                    clear HR575
                    clear HB
                    have HO_7 := n0_
                    have BK557 := n1_
                    have HR575 := n2_
                    have HB := n3_
                    clear n0_ n1_ n2_ n3_
                    refine start_ (n := 11) (S := fun w' => True) (ds := []) #[false,false,false,false,false,false,false,false,false,false,false] (by kernel_rfl) rfl rfl trivial (fun hHeld => ?_); refine with_tabW laws_FnNameIn.tab13 laws_FnNameIn.bits13 (fun HT_ HW_ => ?_)
                    generalize w96.drew = w99 at HO_7 BK557 HR575 HB hHeld ⊢
                    refine pure_ (i := 0) (N := some 66) (v := ?_) (a' := ?_) #[true,false,false,false,false,false,false,false,false,false,false] rfl rfl (any_of HT_.out (by kernel_rfl)) (fun _ _ _ h => h) (Or.inl ⟨by rfl, ?_⟩) ?_ ?_
                    rotate_left
                    ·intro w'
                     go_simp
                     with_reducible rfl
                    rotate_left
                    ·simp only [Act.put, s1_, s2_, s3_, i64_w, i32_w]
                     rfl
                    refine pure_ (i := 1) (N := some 67) (v := ?_) (a' := ?_) #[true,true,false,false,false,false,false,false,false,false,false] rfl rfl (any_of HT_.out (by kernel_rfl)) (fun _ _ _ h => h) (Or.inl ⟨by rfl, ?_⟩) ?_ ?_
                    rotate_left
                    ·intro w'
                     go_simp
                     with_reducible rfl
                    rotate_left
                    ·simp only [Act.put, s1_, s2_, s3_, i64_w, i32_w]
                     rfl
                    refine pure_ (i := 2) (N := some 68) (v := ?_) (a' := ?_) #[true,true,true,false,false,false,false,false,false,false,false] rfl rfl (any_of HT_.out (by kernel_rfl)) (fun _ _ _ h => h) (Or.inl ⟨by rfl, ?_⟩) ?_ ?_
                    rotate_left
                    ·intro w'
                     go_simp
                     with_reducible rfl
                    rotate_left
                    ·simp only [Act.put, s1_, s2_, s3_, i64_w, i32_w]
                     rfl
                    refine pure_ (i := 3) (N := some 69) (v := ?_) (a' := ?_) #[true,true,true,true,false,false,false,false,false,false,false] rfl rfl (any_of HT_.out (by kernel_rfl)) (fun _ _ _ h => h) (Or.inl ⟨by rfl, ?_⟩) ?_ ?_
                    rotate_left
                    ·intro w'
                     go_simp
                     with_reducible rfl
                    rotate_left
                    ·simp only [Act.put, s1_, s2_, s3_, i64_w, i32_w]
                     rfl
                    refine pure_ (i := 4) (N := some 70) (v := ?_) (a' := ?_) #[true,true,true,true,true,false,false,false,false,false,false] rfl rfl (any_of HT_.out (by kernel_rfl)) (fun _ _ _ h => h) (Or.inl ⟨by rfl, ?_⟩) ?_ ?_
                    rotate_left
                    ·intro w'
                     go_simp
                     with_reducible rfl
                    rotate_left
                    ·simp only [Act.put, s1_, s2_, s3_, i64_w, i32_w]
                     rfl
                    refine pure_ (i := 5) (N := some 71) (v := ?_) (a' := ?_) #[true,true,true,true,true,true,false,false,false,false,false] rfl rfl (any_of HT_.out (by kernel_rfl)) (fun _ _ _ h => h) (Or.inl ⟨by rfl, ?_⟩) ?_ ?_
                    rotate_left
                    ·intro w'
                     go_simp
                     with_reducible rfl
                    rotate_left
                    ·simp only [Act.put, s1_, s2_, s3_, i64_w, i32_w]
                     rfl
                    refine pure_ (i := 6) (N := some 72) (v := ?_) (a' := ?_) #[true,true,true,true,true,true,true,false,false,false,false] rfl rfl (any_of HT_.out (by kernel_rfl)) (fun _ _ _ h => h) (Or.inl ⟨by rfl, ?_⟩) ?_ ?_
                    rotate_left
                    ·intro w'
                     go_simp
                     with_reducible rfl
                    rotate_left
                    ·simp only [Act.put, s1_, s2_, s3_, i64_w, i32_w]
                     rfl
                    refine pure_ (i := 7) (N := some 73) (v := ?_) (a' := ?_) #[true,true,true,true,true,true,true,true,false,false,false] rfl rfl (any_of HT_.out (by kernel_rfl)) (fun _ _ _ h => h) (Or.inl ⟨by rfl, ?_⟩) ?_ ?_
                    rotate_left
                    ·intro w'
                     go_simp
                     with_reducible rfl
                    rotate_left
                    ·simp only [Act.put, s1_, s2_, s3_, i64_w, i32_w]
                     rfl
                    refine pure_ (i := 8) (N := some 74) (v := ?_) (a' := ?_) #[true,true,true,true,true,true,true,true,true,false,false] rfl rfl (any_of HT_.out (by kernel_rfl)) (fun _ _ _ h => h) (Or.inl ⟨by rfl, ?_⟩) ?_ ?_
                    rotate_left
                    ·intro w'
                     go_simp
                     with_reducible rfl
                    rotate_left
                    ·simp only [Act.put, s1_, s2_, s3_, i64_w, i32_w]
                     rfl
                    refine one_ (i := 9) (N := some 75) #[true,true,true,true,true,true,true,true,true,true,false] rfl rfl (one_of HT_.out (by kernel_rfl)) (by decide) (fun K hK => ?_)
                    refine goes_ Tryd.func15 (by kernel_rfl) rfl #[.string (((t554.extract 0 (t576 : Int).toNat) ++ (((⟨#[64]⟩ : ByteArray) ++ t571) ++ (⟨#[59]⟩ : ByteArray))) ++ (t554.extract (t576 : Int).toNat t554.size))] (by rfl) rfl rfl (by (try simp only [List.map_toArray, List.map_cons, List.map_nil]); first | done | rfl | (simp only [List.length_drop, List.length_take]; rfl)) ?_
                    with_reducible refine (impl_TextPieces.calls kj8 (((t554.extract 0 (t576 : Int).toNat) ++ (((⟨#[64]⟩ : ByteArray) ++ t571) ++ (⟨#[59]⟩ : ByteArray))) ++ (t554.extract (t576 : Int).toNat t554.size)) t577 _ ?side1 A57.out).mono ?_
                    (case side1 => first | exact HG.out | exact GV_below HG.out (by repeat (first | (with_reducible first | exact HB.out | apply below_alloc | apply pw_below_drewN | apply below_drew1 | refine below_set ?_ GE557.out) | exact HB.out)))
                    rintro e w100 ⟨v578, rfl, ho0, hb⟩
                    refine ⟨_, rfl, ?_⟩
                    have n0_ := Aside0.mk (Kd.R_elder' (by (with_reducible repeat (first | apply Kd.R_alloc | apply Kd.R_drewN | apply Kd.R_drew)); exact HO_7.out) (Kd.R_base ho0) hb)
                    have n1_ := Aside0.mk (Kd.R_lower (Kd.R_new' ho0 (Kd.R_lt (by (with_reducible repeat (first | apply Kd.R_alloc | apply Kd.R_drewN | apply Kd.R_drew)); exact HO_7.out))) (below_size (by repeat (first | (with_reducible first | exact HB.out | apply below_alloc | apply pw_below_drewN | apply below_drew1 | refine below_set ?_ GE557.out) | exact HB.out))))
                    have n2_ := Aside0.mk (blk_below (g := gb557) (o := .cells #[.int .i64 t555, .int .i64 t556] 32 (0, 0)) (by (with_reducible repeat (first | refine blk_drewN ?_ _ | refine blk_drew ?_ | refine blk_alloc ?_ _)); exact BK557.out) hb)
                    have n3_ := Aside0.mk (Kd.C_below (by repeat (first | (with_reducible exact HR575.out) | (with_reducible refine Kd.C_alloc ?_ _) | (with_reducible refine Kd.C_drewN ?_ _) | (with_reducible refine Kd.C_drew ?_) | exact HR575.out)) hb)
                    have n4_ := Aside0.mk (below_step (by repeat (first | (with_reducible first | exact HB.out | apply below_alloc | apply pw_below_drewN | apply below_drew1 | refine below_set ?_ GE557.out) | exact HB.out)) hb)
                    clear HO_7
                    clear BK557
                    clear HR575
                    clear HB
                    have HO_7 := n0_
                    have HO579 := n1_
                    have BK557 := n2_
                    have HR575 := n3_
                    have HB := n4_
                    clear n0_ n1_ n2_ n3_ n4_
                    (try clear hb)
                    (try clear hb2)
                    (try clear hk)
                    (try clear hi)
                    (try clear ho0)
                    refine hK.out _ _ trivial (fun hHeld => ?_)
                    clear hK K
                    refine norm_ (a' := ?_) ?_ ?_
                    rotate_left
                    ·show Act.put _ (some 75) _ = _
                     simp only [Act.put, s1_, s2_, s3_, i64_w, i32_w]
                     rfl
                    refine pure_ (i := 10) (N := some 11) (v := ?_) (a' := ?_) #[true,true,true,true,true,true,true,true,true,true,true] rfl rfl (any_of HT_.out (by kernel_rfl)) (fun _ _ _ h => h) (Or.inl ⟨by rfl, ?_⟩) ?_ ?_
                    rotate_left
                    ·intro w'
                     go_simp
                     with_reducible rfl
                    rotate_left
                    ·simp only [Act.put, s1_, s2_, s3_, i64_w, i32_w]
                     rfl
                    refine done_ (done_of HT_.out (by kernel_rfl)) ?_
                    try go_wp2
                    have n0_ := Aside0.mk (Kd.R_drew HO_7.out)
                    have n1_ := Aside0.mk (Kd.R_drew HO579.out)
                    have n2_ := Aside0.mk (blk_drew BK557.out)
                    have n3_ := Aside0.mk (Kd.C_drew HR575.out)
                    have n4_ := Aside0.mk (below_drew1 HB.out)
                    clear HO_7
                    clear HO579
                    clear BK557
                    clear HR575
                    clear HB
                    have HO_7 := n0_
                    have HO579 := n1_
                    have BK557 := n2_
                    have HR575 := n3_
                    have HB := n4_
                    clear n0_ n1_ n2_ n3_ n4_
                    obtain ⟨Ao102, co102, eo102⟩ := Kd.R_slice HO579.out
                    (first | subst eo102 | (injection eo102 with f1_ f2_ f3_; have f4_ := f1_.symm; have f5_ := f3_.symm; clear f1_ f2_ f3_; subst f4_; subst f5_))
                    have q103 : ((ji42) : Int) ≤ ((t577.length : Int) : Int) := of_decide_eq_true (by first | (with_reducible assumption) | assumption)
                    obtain ⟨i0103, hi0103, _, hsz103, _⟩ := info_parts info34
                    have hroom103 : t577.length ≤ co102 := (Kd.R_reads' HO579.out).2.1
                    have hC103 : Kd.C k34 _ Ao102 t577.length t577 := (Kd.R_reads' HO579.out).2.2
                    have hcut103 := cut_to (P := Tryd.prog) 22 34 .i64 Tryd.underlying22 hi0103 Ao102 t577.length co102 (ji42) (of_decide_eq_true (by first | (with_reducible assumption) | assumption)) q103 hroom103
                    have hr103 := Kd.C_take (m := ((ji42) : Int).toNat) hC103 (by omega)
                    have hy103 : y580.length = ((ji42) : Int).toNat := (by rw [Ny580.out, List.length_take]; omega)
                    rw [← Ny580.out] at hr103
                    rw [← hy103] at hcut103
                    have HR583 := Aside0.mk hr103
                    have HC583 := Aside0.mk (show y580.length ≤ co102 from by omega)
                    clear hr103 hC103 hroom103 hi0103 hsz103
                    have KY103 := Aside0.mk hy103
                    clear hy103
                    have KL103 := Aside0.mk (show ((ji42) : Int).toNat ≤ t577.length from by omega)
                    replace q103 := eq_true q103
                    have q104 : ((ji42) : Int) ≤ ((t558.length : Int) : Int) := of_decide_eq_true (by first | (with_reducible assumption) | assumption)
                    obtain ⟨i0104, hi0104, _, hsz104, _⟩ := info_parts info34
                    have hroom104 : t558.length ≤ co97 := (Kd.R_reads' HO_7.out).2.1
                    have hC104 : Kd.C k34 _ Ao97 t558.length t558 := (Kd.R_reads' HO_7.out).2.2
                    have hcut104 := cut_to (P := Tryd.prog) 22 34 .i64 Tryd.underlying22 hi0104 Ao97 t558.length co97 (ji42) (of_decide_eq_true (by first | (with_reducible assumption) | assumption)) q104 hroom104
                    have hr104 := Kd.C_take (m := ((ji42) : Int).toNat) hC104 (by omega)
                    have hy104 : y572.length = ((ji42) : Int).toNat := (by rw [Ny584.out, List.length_take]; omega)
                    rw [← Ny584.out] at hr104
                    rw [← hy104] at hcut104
                    have HR587 := Aside0.mk hr104
                    have HC587 := Aside0.mk (show y572.length ≤ co97 from by omega)
                    clear hr104 hC104 hroom104 hi0104 hsz104
                    have KY104 := Aside0.mk hy104
                    clear hy104
                    have KL104 := Aside0.mk (show ((ji42) : Int).toNat ≤ t558.length from by omega)
                    replace q104 := eq_true q104
                    refine start_ (n := 36) (S := fun w' => True) (ds := []) #[false,false,false,false,false,false,false,false,false,false,false,false,false,false,false,false,false,false,false,false,false,false,false,false,false,false,false,false,false,false,false,false,false,false,false,false] (by kernel_rfl) rfl rfl trivial (fun hHeld => ?_); refine with_tabW laws_FnNameIn.tab15 laws_FnNameIn.bits15 (fun HT_ HW_ => ?_)
                    generalize w100.drew = w101 at HO_7 HO579 BK557 HR575 HB HR583 HR587 hHeld ⊢
                    refine pure_ (i := 0) (N := some 78) (v := ?_) (a' := ?_) #[true,false,false,false,false,false,false,false,false,false,false,false,false,false,false,false,false,false,false,false,false,false,false,false,false,false,false,false,false,false,false,false,false,false,false,false] rfl rfl (any_of HT_.out (by kernel_rfl)) (fun _ _ _ h => h) (Or.inl ⟨by rfl, ?_⟩) ?_ ?_
                    rotate_left
                    ·intro w'
                     go_simp
                     with_reducible rfl
                    rotate_left
                    ·simp only [Act.put, s1_, s2_, s3_, i64_w, i32_w]
                     rfl
                    refine pure_ (i := 1) (N := some 79) (v := ?_) (a' := ?_) #[true,true,false,false,false,false,false,false,false,false,false,false,false,false,false,false,false,false,false,false,false,false,false,false,false,false,false,false,false,false,false,false,false,false,false,false] rfl rfl (any_of HT_.out (by kernel_rfl)) (fun _ _ _ h => h) (Or.inl ⟨by rfl, ?_⟩) ?_ ?_
                    rotate_left
                    ·intro w'
                     go_simp
                     with_reducible rfl
                    rotate_left
                    ·simp only [Act.put, s1_, s2_, s3_, i64_w, i32_w]
                     rfl
                    refine pure_ (i := 2) (N := some 80) (v := ?_) (a' := ?_) #[true,true,true,false,false,false,false,false,false,false,false,false,false,false,false,false,false,false,false,false,false,false,false,false,false,false,false,false,false,false,false,false,false,false,false,false] rfl rfl (any_of HT_.out (by kernel_rfl)) (fun _ _ _ h => h) (Or.inl ⟨by rfl, ?_⟩) ?_ ?_
                    rotate_left
                    ·intro w'
                     go_simp
                     with_reducible rfl
                    rotate_left
                    ·simp only [Act.put, s1_, s2_, s3_, i64_w, i32_w]
                     rfl
                    refine pure_ (i := 3) (N := some 81) (v := ?_) (a' := ?_) #[true,true,true,true,false,false,false,false,false,false,false,false,false,false,false,false,false,false,false,false,false,false,false,false,false,false,false,false,false,false,false,false,false,false,false,false] rfl rfl (any_of HT_.out (by kernel_rfl)) (fun _ _ _ h => h) (Or.inl ⟨by rfl, ?_⟩) ?_ ?_
                    rotate_left
                    ·intro w'
                     go_simp
                     with_reducible rfl
                    rotate_left
                    ·simp only [Act.put, s1_, s2_, s3_, i64_w, i32_w]
                     rfl
                    refine pure_ (i := 4) (N := some 82) (v := ?_) (a' := ?_) #[true,true,true,true,true,false,false,false,false,false,false,false,false,false,false,false,false,false,false,false,false,false,false,false,false,false,false,false,false,false,false,false,false,false,false,false] rfl rfl (any_of HT_.out (by kernel_rfl)) (fun _ _ _ h => h) (Or.inl ⟨by rfl, ?_⟩) ?_ ?_
                    rotate_left
                    ·intro w'
                     go_simp
                     with_reducible rfl
                    rotate_left
                    ·simp only [Act.put, s1_, s2_, s3_, i64_w, i32_w]
                     rfl
                    refine pure_ (i := 5) (N := some 83) (v := ?_) (a' := ?_) #[true,true,true,true,true,true,false,false,false,false,false,false,false,false,false,false,false,false,false,false,false,false,false,false,false,false,false,false,false,false,false,false,false,false,false,false] rfl rfl (any_of HT_.out (by kernel_rfl)) (fun _ _ _ h => h) (Or.inl ⟨by rfl, ?_⟩) ?_ ?_
                    rotate_left
                    ·intro w'
                     go_simp
                     with_reducible rfl
                    rotate_left
                    ·simp only [Act.put, s1_, s2_, s3_, i64_w, i32_w]
                     rfl
                    refine pure_ (i := 6) (N := some 84) (v := ?_) (a' := ?_) #[true,true,true,true,true,true,true,false,false,false,false,false,false,false,false,false,false,false,false,false,false,false,false,false,false,false,false,false,false,false,false,false,false,false,false,false] rfl rfl (any_of HT_.out (by kernel_rfl)) (fun _ _ _ h => h) (Or.inl ⟨by rfl, ?_⟩) ?_ ?_
                    rotate_left
                    ·intro w'
                     go_simp
                     with_reducible rfl
                    rotate_left
                    ·simp only [Act.put, s1_, s2_, s3_, i64_w, i32_w]
                     rfl
                    refine pure_ (i := 7) (N := some 85) (v := ?_) (a' := ?_) #[true,true,true,true,true,true,true,true,false,false,false,false,false,false,false,false,false,false,false,false,false,false,false,false,false,false,false,false,false,false,false,false,false,false,false,false] rfl rfl (any_of HT_.out (by kernel_rfl)) (fun _ _ _ h => h) (Or.inl ⟨by rfl, ?_⟩) ?_ ?_
                    rotate_left
                    ·intro w'
                     go_simp
                     with_reducible rfl
                    rotate_left
                    ·simp only [Act.put, s1_, s2_, s3_, i64_w, i32_w]
                     rfl
                    refine pure_ (i := 8) (N := some 86) (v := ?_) (a' := ?_) #[true,true,true,true,true,true,true,true,true,false,false,false,false,false,false,false,false,false,false,false,false,false,false,false,false,false,false,false,false,false,false,false,false,false,false,false] rfl rfl (any_of HT_.out (by kernel_rfl)) (fun _ _ _ h => h) (Or.inl ⟨by rfl, ?_⟩) ?_ ?_
                    rotate_left
                    ·intro w'
                     go_simp
                     with_reducible rfl
                    rotate_left
                    ·simp only [Act.put, s1_, s2_, s3_, i64_w, i32_w]
                     rfl
                    refine pure_ (i := 9) (N := some 87) (v := ?_) (a' := ?_) #[true,true,true,true,true,true,true,true,true,true,false,false,false,false,false,false,false,false,false,false,false,false,false,false,false,false,false,false,false,false,false,false,false,false,false,false] rfl rfl (any_of HT_.out (by kernel_rfl)) (fun _ _ _ h => h) (Or.inl ⟨by rfl, ?_⟩) ?_ ?_
                    rotate_left
                    ·intro w'
                     go_simp
                     with_reducible rfl
                    rotate_left
                    ·simp only [Act.put, s1_, s2_, s3_, i64_w, i32_w]
                     rfl
                    refine pure_ (i := 10) (N := some 88) (v := ?_) (a' := ?_) #[true,true,true,true,true,true,true,true,true,true,true,false,false,false,false,false,false,false,false,false,false,false,false,false,false,false,false,false,false,false,false,false,false,false,false,false] rfl rfl (any_of HT_.out (by kernel_rfl)) (fun _ _ _ h => h) (Or.inl ⟨by rfl, ?_⟩) ?_ ?_
                    rotate_left
                    ·intro w'
                     go_simp
                     with_reducible rfl
                    rotate_left
                    ·simp only [Act.put, s1_, s2_, s3_, i64_w, i32_w]
                     rfl
                    refine pure_ (i := 11) (N := some 89) (v := ?_) (a' := ?_) #[true,true,true,true,true,true,true,true,true,true,true,true,false,false,false,false,false,false,false,false,false,false,false,false,false,false,false,false,false,false,false,false,false,false,false,false] rfl rfl (any_of HT_.out (by kernel_rfl)) (fun _ _ _ h => h) (Or.inl ⟨by rfl, ?_⟩) ?_ ?_
                    rotate_left
                    ·intro w'
                     go_simp
                     with_reducible rfl
                    rotate_left
                    ·simp only [Act.put, s1_, s2_, s3_, i64_w, i32_w]
                     rfl
                    refine one_ (i := 12) (N := some 90) #[true,true,true,true,true,true,true,true,true,true,true,true,true,false,false,false,false,false,false,false,false,false,false,false,false,false,false,false,false,false,false,false,false,false,false,false] rfl rfl (one_of HT_.out (by kernel_rfl)) (by decide) (fun K hK => ?_)
                    refine goes_ Tryd.func24 (by kernel_rfl) rfl #[.slice Ao102 y580.length co102, .slice Ao97 y572.length co97] (by rfl) rfl rfl (by (try simp only [List.map_toArray, List.map_cons, List.map_nil]); first | done | rfl | (simp only [List.length_drop, List.length_take]; rfl)) ?_
                    with_reducible refine (laws_lzPieces.calls kj8 _ _ y580 _ _ y572 false _ ?side1 ?side2 ?side3 ?side4 A63.out).mono ?_
                    (case side1 => repeat (first | exact (by repeat (first | (with_reducible exact HR583.out) | (with_reducible refine Kd.C_alloc ?_ _) | (with_reducible refine Kd.C_drewN ?_ _) | (with_reducible refine Kd.C_drew ?_) | exact HR583.out)) | (with_reducible refine Kd.C_alloc ?_ _) | (with_reducible refine Kd.C_drewN ?_ _) | (with_reducible refine Kd.C_drew ?_)))
                    (case side2 => exact HC583.out)
                    (case side3 => repeat (first | exact (by repeat (first | (with_reducible exact HR587.out) | (with_reducible refine Kd.C_alloc ?_ _) | (with_reducible refine Kd.C_drewN ?_ _) | (with_reducible refine Kd.C_drew ?_) | exact HR587.out)) | (with_reducible refine Kd.C_alloc ?_ _) | (with_reducible refine Kd.C_drewN ?_ _) | (with_reducible refine Kd.C_drew ?_)))
                    (case side4 => exact HC587.out)
                    rintro e w' ⟨rfl, ⟨nd, rfl⟩⟩
                    refine ⟨_, rfl, ?_⟩
                    refine hK.out _ _ trivial (fun hHeld => ?_)
                    clear hK K
                    refine norm_ (a' := ?_) ?_ ?_
                    rotate_left
                    ·show Act.put _ (some 90) _ = _
                     simp only [Act.put, s1_, s2_, s3_, i64_w, i32_w]
                     rfl
                    refine pure_ (i := 13) (N := some 91) (v := ?_) (a' := ?_) #[true,true,true,true,true,true,true,true,true,true,true,true,true,true,false,false,false,false,false,false,false,false,false,false,false,false,false,false,false,false,false,false,false,false,false,false] rfl rfl (any_of HT_.out (by kernel_rfl)) (fun _ _ _ h => h) (Or.inl ⟨by rfl, ?_⟩) ?_ ?_
                    rotate_left
                    ·intro w'
                     go_simp
                     with_reducible rfl
                    rotate_left
                    ·simp only [Act.put, s1_, s2_, s3_, i64_w, i32_w]
                     rfl
                    refine pure_ (i := 14) (N := some 92) (v := ?_) (a' := ?_) #[true,true,true,true,true,true,true,true,true,true,true,true,true,true,true,false,false,false,false,false,false,false,false,false,false,false,false,false,false,false,false,false,false,false,false,false] rfl rfl (any_of HT_.out (by kernel_rfl)) (fun _ _ _ h => h) (Or.inl ⟨by rfl, ?_⟩) ?_ ?_
                    rotate_left
                    ·intro w'
                     go_simp
                     with_reducible rfl
                    rotate_left
                    ·simp only [Act.put, s1_, s2_, s3_, i64_w, i32_w]
                     rfl
                    refine pure_ (i := 15) (N := some 93) (v := undef) (a' := ?_) #[true,true,true,true,true,true,true,true,true,true,true,true,true,true,true,true,false,false,false,false,false,false,false,false,false,false,false,false,false,false,false,false,false,false,false,false] rfl rfl (any_of HT_.out (by kernel_rfl)) (fun _ _ _ h => h) (Or.inr ⟨by rfl, rfl⟩) ?_ ?_
                    rotate_left
                    ·simp only [Act.put, s1_, s2_, s3_, i64_w, i32_w]
                     rfl
                    refine pure_ (i := 16) (N := some 94) (v := undef) (a' := ?_) #[true,true,true,true,true,true,true,true,true,true,true,true,true,true,true,true,true,false,false,false,false,false,false,false,false,false,false,false,false,false,false,false,false,false,false,false] rfl rfl (any_of HT_.out (by kernel_rfl)) (fun _ _ _ h => h) (Or.inr ⟨by rfl, rfl⟩) ?_ ?_
                    rotate_left
                    ·simp only [Act.put, s1_, s2_, s3_, i64_w, i32_w]
                     rfl
                    refine pure_ (i := 17) (N := some 95) (v := undef) (a' := ?_) #[true,true,true,true,true,true,true,true,true,true,true,true,true,true,true,true,true,true,false,false,false,false,false,false,false,false,false,false,false,false,false,false,false,false,false,false] rfl rfl (any_of HT_.out (by kernel_rfl)) (fun _ _ _ h => h) (Or.inr ⟨by rfl, rfl⟩) ?_ ?_
                    rotate_left
                    ·simp only [Act.put, s1_, s2_, s3_, i64_w, i32_w]
                     rfl
                    refine pure_ (i := 18) (N := some 96) (v := undef) (a' := ?_) #[true,true,true,true,true,true,true,true,true,true,true,true,true,true,true,true,true,true,true,false,false,false,false,false,false,false,false,false,false,false,false,false,false,false,false,false] rfl rfl (any_of HT_.out (by kernel_rfl)) (fun _ _ _ h => h) (Or.inr ⟨by rfl, rfl⟩) ?_ ?_
                    rotate_left
                    ·simp only [Act.put, s1_, s2_, s3_, i64_w, i32_w]
                     rfl
                    refine pure_ (i := 19) (N := some 97) (v := undef) (a' := ?_) #[true,true,true,true,true,true,true,true,true,true,true,true,true,true,true,true,true,true,true,true,false,false,false,false,false,false,false,false,false,false,false,false,false,false,false,false] rfl rfl (any_of HT_.out (by kernel_rfl)) (fun _ _ _ h => h) (Or.inr ⟨by rfl, rfl⟩) ?_ ?_
                    rotate_left
                    ·simp only [Act.put, s1_, s2_, s3_, i64_w, i32_w]
                     rfl
                    refine pure_ (i := 20) (N := some 98) (v := undef) (a' := ?_) #[true,true,true,true,true,true,true,true,true,true,true,true,true,true,true,true,true,true,true,true,true,false,false,false,false,false,false,false,false,false,false,false,false,false,false,false] rfl rfl (any_of HT_.out (by kernel_rfl)) (fun _ _ _ h => h) (Or.inr ⟨by rfl, rfl⟩) ?_ ?_
                    rotate_left
                    ·simp only [Act.put, s1_, s2_, s3_, i64_w, i32_w]
                     rfl
                    refine pure_ (i := 21) (N := some 99) (v := undef) (a' := ?_) #[true,true,true,true,true,true,true,true,true,true,true,true,true,true,true,true,true,true,true,true,true,true,false,false,false,false,false,false,false,false,false,false,false,false,false,false] rfl rfl (any_of HT_.out (by kernel_rfl)) (fun _ _ _ h => h) (Or.inr ⟨by rfl, rfl⟩) ?_ ?_
                    rotate_left
                    ·simp only [Act.put, s1_, s2_, s3_, i64_w, i32_w]
                     rfl
                    refine pure_ (i := 22) (N := some 100) (v := undef) (a' := ?_) #[true,true,true,true,true,true,true,true,true,true,true,true,true,true,true,true,true,true,true,true,true,true,true,false,false,false,false,false,false,false,false,false,false,false,false,false] rfl rfl (any_of HT_.out (by kernel_rfl)) (fun _ _ _ h => h) (Or.inr ⟨by rfl, rfl⟩) ?_ ?_
                    rotate_left
                    ·simp only [Act.put, s1_, s2_, s3_, i64_w, i32_w]
                     rfl
                    refine pure_ (i := 23) (N := some 101) (v := undef) (a' := ?_) #[true,true,true,true,true,true,true,true,true,true,true,true,true,true,true,true,true,true,true,true,true,true,true,true,false,false,false,false,false,false,false,false,false,false,false,false] rfl rfl (any_of HT_.out (by kernel_rfl)) (fun _ _ _ h => h) (Or.inr ⟨by rfl, rfl⟩) ?_ ?_
                    rotate_left
                    ·simp only [Act.put, s1_, s2_, s3_, i64_w, i32_w]
                     rfl
                    refine pure_ (i := 24) (N := some 102) (v := ?_) (a' := ?_) #[true,true,true,true,true,true,true,true,true,true,true,true,true,true,true,true,true,true,true,true,true,true,true,true,true,false,false,false,false,false,false,false,false,false,false,false] rfl rfl (any_of HT_.out (by kernel_rfl)) (fun _ _ _ h => h) (Or.inl ⟨by rfl, ?_⟩) ?_ ?_
                    rotate_left
                    ·intro w'
                     go_simp
                     with_reducible rfl
                    rotate_left
                    ·simp only [Act.put, s1_, s2_, s3_, i64_w, i32_w]
                     rfl
                    refine pure_ (i := 25) (N := some 103) (v := ?_) (a' := ?_) #[true,true,true,true,true,true,true,true,true,true,true,true,true,true,true,true,true,true,true,true,true,true,true,true,true,true,false,false,false,false,false,false,false,false,false,false] rfl rfl (any_of HT_.out (by kernel_rfl)) (fun _ _ _ h => h) (Or.inl ⟨by rfl, ?_⟩) ?_ ?_
                    rotate_left
                    ·intro w'
                     go_simp
                     with_reducible rfl
                    rotate_left
                    ·simp only [Act.put, s1_, s2_, s3_, i64_w, i32_w]
                     rfl
                    refine pure_ (i := 26) (N := some 104) (v := undef) (a' := ?_) #[true,true,true,true,true,true,true,true,true,true,true,true,true,true,true,true,true,true,true,true,true,true,true,true,true,true,true,false,false,false,false,false,false,false,false,false] rfl rfl (any_of HT_.out (by kernel_rfl)) (fun _ _ _ h => h) (Or.inr ⟨by rfl, rfl⟩) ?_ ?_
                    rotate_left
                    ·simp only [Act.put, s1_, s2_, s3_, i64_w, i32_w]
                     rfl
                    refine pure_ (i := 27) (N := some 105) (v := undef) (a' := ?_) #[true,true,true,true,true,true,true,true,true,true,true,true,true,true,true,true,true,true,true,true,true,true,true,true,true,true,true,true,false,false,false,false,false,false,false,false] rfl rfl (any_of HT_.out (by kernel_rfl)) (fun _ _ _ h => h) (Or.inr ⟨by rfl, rfl⟩) ?_ ?_
                    rotate_left
                    ·simp only [Act.put, s1_, s2_, s3_, i64_w, i32_w]
                     rfl
                    refine pure_ (i := 28) (N := some 106) (v := undef) (a' := ?_) #[true,true,true,true,true,true,true,true,true,true,true,true,true,true,true,true,true,true,true,true,true,true,true,true,true,true,true,true,true,false,false,false,false,false,false,false] rfl rfl (any_of HT_.out (by kernel_rfl)) (fun _ _ _ h => h) (Or.inr ⟨by rfl, rfl⟩) ?_ ?_
                    rotate_left
                    ·simp only [Act.put, s1_, s2_, s3_, i64_w, i32_w]
                     rfl
                    refine pure_ (i := 29) (N := some 107) (v := undef) (a' := ?_) #[true,true,true,true,true,true,true,true,true,true,true,true,true,true,true,true,true,true,true,true,true,true,true,true,true,true,true,true,true,true,false,false,false,false,false,false] rfl rfl (any_of HT_.out (by kernel_rfl)) (fun _ _ _ h => h) (Or.inr ⟨by rfl, rfl⟩) ?_ ?_
                    rotate_left
                    ·simp only [Act.put, s1_, s2_, s3_, i64_w, i32_w]
                     rfl
                    refine pure_ (i := 30) (N := some 108) (v := undef) (a' := ?_) #[true,true,true,true,true,true,true,true,true,true,true,true,true,true,true,true,true,true,true,true,true,true,true,true,true,true,true,true,true,true,true,false,false,false,false,false] rfl rfl (any_of HT_.out (by kernel_rfl)) (fun _ _ _ h => h) (Or.inr ⟨by rfl, rfl⟩) ?_ ?_
                    rotate_left
                    ·simp only [Act.put, s1_, s2_, s3_, i64_w, i32_w]
                     rfl
                    refine pure_ (i := 31) (N := some 109) (v := undef) (a' := ?_) #[true,true,true,true,true,true,true,true,true,true,true,true,true,true,true,true,true,true,true,true,true,true,true,true,true,true,true,true,true,true,true,true,false,false,false,false] rfl rfl (any_of HT_.out (by kernel_rfl)) (fun _ _ _ h => h) (Or.inr ⟨by rfl, rfl⟩) ?_ ?_
                    rotate_left
                    ·simp only [Act.put, s1_, s2_, s3_, i64_w, i32_w]
                     rfl
                    refine pure_ (i := 32) (N := some 110) (v := undef) (a' := ?_) #[true,true,true,true,true,true,true,true,true,true,true,true,true,true,true,true,true,true,true,true,true,true,true,true,true,true,true,true,true,true,true,true,true,false,false,false] rfl rfl (any_of HT_.out (by kernel_rfl)) (fun _ _ _ h => h) (Or.inr ⟨by rfl, rfl⟩) ?_ ?_
                    rotate_left
                    ·simp only [Act.put, s1_, s2_, s3_, i64_w, i32_w]
                     rfl
                    refine pure_ (i := 33) (N := some 111) (v := undef) (a' := ?_) #[true,true,true,true,true,true,true,true,true,true,true,true,true,true,true,true,true,true,true,true,true,true,true,true,true,true,true,true,true,true,true,true,true,true,false,false] rfl rfl (any_of HT_.out (by kernel_rfl)) (fun _ _ _ h => h) (Or.inr ⟨by rfl, rfl⟩) ?_ ?_
                    rotate_left
                    ·simp only [Act.put, s1_, s2_, s3_, i64_w, i32_w]
                     rfl
                    refine pure_ (i := 34) (N := some 112) (v := ?_) (a' := ?_) #[true,true,true,true,true,true,true,true,true,true,true,true,true,true,true,true,true,true,true,true,true,true,true,true,true,true,true,true,true,true,true,true,true,true,true,false] rfl rfl (any_of HT_.out (by kernel_rfl)) (fun _ _ _ h => h) (Or.inl ⟨by rfl, ?_⟩) ?_ ?_
                    rotate_left
                    ·intro w'
                     go_simp
                     with_reducible rfl
                    rotate_left
                    ·simp only [Act.put, s1_, s2_, s3_, i64_w, i32_w]
                     rfl
                    refine pure_ (i := 35) (N := some 4) (v := ?_) (a' := ?_) #[true,true,true,true,true,true,true,true,true,true,true,true,true,true,true,true,true,true,true,true,true,true,true,true,true,true,true,true,true,true,true,true,true,true,true,true] rfl rfl (any_of HT_.out (by kernel_rfl)) (fun _ _ _ h => h) (Or.inl ⟨by rfl, ?_⟩) ?_ ?_
                    rotate_left
                    ·intro w'
                     go_simp
                     with_reducible rfl
                    rotate_left
                    ·simp only [Act.put, s1_, s2_, s3_, i64_w, i32_w]
                     rfl
                    refine done_ (done_of HT_.out (by kernel_rfl)) ?_
                    try go_wp2
                    go_ret
                    exact ⟨by first | rfl | (simp [errW_none, errW_some] <;> rfl) | (simp only [← hji42]; first | rfl | (simp [errW_none, errW_some] <;> rfl)) | (simp [*, errW_none, errW_some] <;> rfl) | (simp [errW_none, errW_some, pk_empty1, pk_empty2]; done) | (simp [*, errW_none, errW_some, pk_empty1, pk_empty2]; done), by repeat (first | (with_reducible first | exact HB.out | apply below_alloc | apply pw_below_drewN | apply below_drew1 | refine below_set ?_ GE557.out) | exact HB.out)⟩
                  ·rw [if_neg c60] at H
                   exact absurd H (by simp)
                 ·rw [if_neg c58] at H
                  have c58b0 : ((t577.length : Int) == (wrap64 ((t558.length : Int) + 1))) = false := beq_eq_false_iff_ne.mpr c58
                  have c58b1 : ((t577.length : Int) != (wrap64 ((t558.length : Int) + 1))) = true := bne_iff_ne.mpr c58
                  obtain rfl := Option.some.inj H
                  have hcz105_0 : wc.cell? ⟨gb557, 0, none⟩ = some (.int .i64 t555) := (blk_cell BK557.out 0).trans rfl
                  have hcz105_1 : wc.cell? ⟨gb557, 1, none⟩ = some (.int .i64 t556) := (blk_cell BK557.out 1).trans rfl
                  have hfz105_0 := blk_frozen BK557.out 0
                  have hfz105_1 := blk_frozen BK557.out 1
                  try go_wp2_with (first | ((with_reducible refine gate_callee (f := 26) rfl ?_); refine goesL_ (some 47) rfl rfl Tryd.func26 (by kernel_rfl) rfl #[.agg #[.int .i64 t555, .int .i64 t556]] rfl (by (try simp only [List.map_toArray, List.map_cons, List.map_nil]); first | done | rfl | (simp only [List.length_drop, List.length_take]; rfl)) ?_; (with_reducible refine (impl_EndText.calls t555 t556 t571 _ A38.out).mono ?_); rintro e w106 ⟨rfl, hb⟩; refine ⟨_, rfl, ?_⟩; have n0_ := Aside0.mk (Kd.R_below (by (with_reducible repeat (first | apply Kd.R_alloc | apply Kd.R_drewN | apply Kd.R_drew)); exact HO_7.out) hb); have n1_ := Aside0.mk (blk_below (g := gb557) (o := .cells #[.int .i64 t555, .int .i64 t556] 32 (0, 0)) (by (with_reducible repeat (first | refine blk_drewN ?_ _ | refine blk_drew ?_ | refine blk_alloc ?_ _)); exact BK557.out) hb); have n2_ := Aside0.mk (below_step (by repeat (first | (with_reducible first | exact HB.out | apply below_alloc | apply pw_below_drewN | apply below_drew1 | refine below_set ?_ GE557.out) | exact HB.out)) hb); clear HO_7; clear BK557; clear HB; have HO_7 := n0_; have BK557 := n1_; have HB := n2_; clear n0_ n1_ n2_; (try clear hb); (try clear hb2); (try clear hk); (try clear hi); obtain ⟨Ao107, co107, eo107⟩ := Kd.R_slice HO_7.out; subst eo107; have q108 : ((ji42) : Int) ≤ ((t558.length : Int) : Int) := of_decide_eq_true (by first | (with_reducible assumption) | assumption); obtain ⟨i0108, hi0108, _, hsz108, _⟩ := info_parts info34; have hroom108 : t558.length ≤ co107 := (Kd.R_reads' HO_7.out).2.1; have hC108 : Kd.C k34 _ Ao107 t558.length t558 := (Kd.R_reads' HO_7.out).2.2; have hcut108 := cut_to (P := Tryd.prog) 22 34 .i64 Tryd.underlying22 hi0108 Ao107 t558.length co107 (ji42) (of_decide_eq_true (by first | (with_reducible assumption) | assumption)) q108 hroom108; have hr108 := Kd.C_take (m := ((ji42) : Int).toNat) hC108 (by omega); have hy108 : y572.length = ((ji42) : Int).toNat := (by rw [Ny572.out, List.length_take]; omega); rw [← Ny572.out] at hr108; rw [← hy108] at hcut108; have HR575 := Aside0.mk hr108; have HC575 := Aside0.mk (show y572.length ≤ co107 from by omega); clear hr108 hC108 hroom108 hi0108 hsz108; have KY108 := Aside0.mk hy108; clear hy108; have KL108 := Aside0.mk (show ((ji42) : Int).toNat ≤ t558.length from by omega); replace q108 := eq_true q108) | ((with_reducible refine gate_callee (f := 34) rfl ?_); refine goesL_ (some 59) rfl rfl Tryd.func34 (by kernel_rfl) rfl #[.slice Ao107 y572.length co107] rfl (by (try simp only [List.map_toArray, List.map_cons, List.map_nil]); first | done | rfl | (simp only [List.length_drop, List.length_take]; rfl)) ?_; (with_reducible refine (laws_lzSize.calls kj8 _ _ y572 t576 _ ?side1 ?side2 A45.out).mono ?_); (case side1 => repeat (first | exact (by repeat (first | (with_reducible exact HR575.out) | (with_reducible refine Kd.C_alloc ?_ _) | (with_reducible refine Kd.C_drewN ?_ _) | (with_reducible refine Kd.C_drew ?_) | exact HR575.out)) | (with_reducible refine Kd.C_alloc ?_ _) | (with_reducible refine Kd.C_drewN ?_ _) | (with_reducible refine Kd.C_drew ?_))); (case side2 => exact HC575.out); rintro e w' ⟨rfl, ⟨nd, rfl⟩⟩; refine ⟨_, rfl, ?_⟩))
                  (try (rw [drewN_self w106]; generalize hq_ : World.drewN w106 _ = w106; have n0_ : Aside0 (Kd.R k34 34 w106 w.heap.size (fun _ => True) (.slice Ao107 t558.length co107) t558) := ⟨by rw [← hq_]; exact (by (with_reducible repeat (first | apply Kd.R_alloc | apply Kd.R_drewN | apply Kd.R_drew)); exact HO_7.out)⟩; have n1_ : Aside0 (w106.heap[gb557]? = some (.cells #[.int .i64 t555, .int .i64 t556] 32 (0, 0))) := ⟨by rw [← hq_]; exact (by (with_reducible repeat (first | refine blk_drewN ?_ _ | refine blk_drew ?_ | refine blk_alloc ?_ _)); exact BK557.out)⟩; have n2_ : Aside0 (Below w.heap.size w w106) := ⟨by rw [← hq_]; exact (by repeat (first | (with_reducible first | exact HB.out | apply below_alloc | apply pw_below_drewN | apply below_drew1 | refine below_set ?_ GE557.out) | exact HB.out))⟩; have n3_ : Aside0 (Kd.C k34 w106 Ao107 y572.length y572) := ⟨by rw [← hq_]; exact (by repeat (first | (with_reducible exact HR575.out) | (with_reducible refine Kd.C_alloc ?_ _) | (with_reducible refine Kd.C_drewN ?_ _) | (with_reducible refine Kd.C_drew ?_) | exact HR575.out))⟩; clear HO_7 BK557 HB HR575 hq_; have HO_7 := n0_; have BK557 := n1_; have HB := n2_; have HR575 := n3_; clear n0_ n1_ n2_ n3_))
                  have n0_ := Aside0.mk (Kd.R_drew HO_7.out)
                  have n1_ := Aside0.mk (blk_drew BK557.out)
                  have n2_ := Aside0.mk (Kd.C_drew HR575.out)
                  have n3_ := Aside0.mk (below_drew1 HB.out)
                  clear HO_7
                  clear BK557
                  clear HR575
                  clear HB
                  have HO_7 := n0_
                  have BK557 := n1_
                  have HR575 := n2_
                  have HB := n3_
                  clear n0_ n1_ n2_ n3_
                  refine start_ (n := 11) (S := fun w' => True) (ds := []) #[false,false,false,false,false,false,false,false,false,false,false] (by kernel_rfl) rfl rfl trivial (fun hHeld => ?_); refine with_tabW laws_FnNameIn.tab13 laws_FnNameIn.bits13 (fun HT_ HW_ => ?_)
                  generalize w106.drew = w109 at HO_7 BK557 HR575 HB hHeld ⊢
                  refine pure_ (i := 0) (N := some 66) (v := ?_) (a' := ?_) #[true,false,false,false,false,false,false,false,false,false,false] rfl rfl (any_of HT_.out (by kernel_rfl)) (fun _ _ _ h => h) (Or.inl ⟨by rfl, ?_⟩) ?_ ?_
                  rotate_left
                  ·intro w'
                   go_simp
                   with_reducible rfl
                  rotate_left
                  ·simp only [Act.put, s1_, s2_, s3_, i64_w, i32_w]
                   rfl
                  refine pure_ (i := 1) (N := some 67) (v := ?_) (a' := ?_) #[true,true,false,false,false,false,false,false,false,false,false] rfl rfl (any_of HT_.out (by kernel_rfl)) (fun _ _ _ h => h) (Or.inl ⟨by rfl, ?_⟩) ?_ ?_
                  rotate_left
                  ·intro w'
                   go_simp
                   with_reducible rfl
                  rotate_left
                  ·simp only [Act.put, s1_, s2_, s3_, i64_w, i32_w]
                   rfl
                  refine pure_ (i := 2) (N := some 68) (v := ?_) (a' := ?_) #[true,true,true,false,false,false,false,false,false,false,false] rfl rfl (any_of HT_.out (by kernel_rfl)) (fun _ _ _ h => h) (Or.inl ⟨by rfl, ?_⟩) ?_ ?_
                  rotate_left
                  ·intro w'
                   go_simp
                   with_reducible rfl
                  rotate_left
                  ·simp only [Act.put, s1_, s2_, s3_, i64_w, i32_w]
                   rfl
                  refine pure_ (i := 3) (N := some 69) (v := ?_) (a' := ?_) #[true,true,true,true,false,false,false,false,false,false,false] rfl rfl (any_of HT_.out (by kernel_rfl)) (fun _ _ _ h => h) (Or.inl ⟨by rfl, ?_⟩) ?_ ?_
                  rotate_left
                  ·intro w'
                   go_simp
                   with_reducible rfl
                  rotate_left
                  ·simp only [Act.put, s1_, s2_, s3_, i64_w, i32_w]
                   rfl
                  refine pure_ (i := 4) (N := some 70) (v := ?_) (a' := ?_) #[true,true,true,true,true,false,false,false,false,false,false] rfl rfl (any_of HT_.out (by kernel_rfl)) (fun _ _ _ h => h) (Or.inl ⟨by rfl, ?_⟩) ?_ ?_
                  rotate_left
                  ·intro w'
                   go_simp
                   with_reducible rfl
                  rotate_left
                  ·simp only [Act.put, s1_, s2_, s3_, i64_w, i32_w]
                   rfl
                  refine pure_ (i := 5) (N := some 71) (v := ?_) (a' := ?_) #[true,true,true,true,true,true,false,false,false,false,false] rfl rfl (any_of HT_.out (by kernel_rfl)) (fun _ _ _ h => h) (Or.inl ⟨by rfl, ?_⟩) ?_ ?_
                  rotate_left
                  ·intro w'
                   go_simp
                   with_reducible rfl
                  rotate_left
                  ·simp only [Act.put, s1_, s2_, s3_, i64_w, i32_w]
                   rfl
                  refine pure_ (i := 6) (N := some 72) (v := ?_) (a' := ?_) #[true,true,true,true,true,true,true,false,false,false,false] rfl rfl (any_of HT_.out (by kernel_rfl)) (fun _ _ _ h => h) (Or.inl ⟨by rfl, ?_⟩) ?_ ?_
                  rotate_left
                  ·intro w'
                   go_simp
                   with_reducible rfl
                  rotate_left
                  ·simp only [Act.put, s1_, s2_, s3_, i64_w, i32_w]
                   rfl
                  refine pure_ (i := 7) (N := some 73) (v := ?_) (a' := ?_) #[true,true,true,true,true,true,true,true,false,false,false] rfl rfl (any_of HT_.out (by kernel_rfl)) (fun _ _ _ h => h) (Or.inl ⟨by rfl, ?_⟩) ?_ ?_
                  rotate_left
                  ·intro w'
                   go_simp
                   with_reducible rfl
                  rotate_left
                  ·simp only [Act.put, s1_, s2_, s3_, i64_w, i32_w]
                   rfl
                  refine pure_ (i := 8) (N := some 74) (v := ?_) (a' := ?_) #[true,true,true,true,true,true,true,true,true,false,false] rfl rfl (any_of HT_.out (by kernel_rfl)) (fun _ _ _ h => h) (Or.inl ⟨by rfl, ?_⟩) ?_ ?_
                  rotate_left
                  ·intro w'
                   go_simp
                   with_reducible rfl
                  rotate_left
                  ·simp only [Act.put, s1_, s2_, s3_, i64_w, i32_w]
                   rfl
                  refine one_ (i := 9) (N := some 75) #[true,true,true,true,true,true,true,true,true,true,false] rfl rfl (one_of HT_.out (by kernel_rfl)) (by decide) (fun K hK => ?_)
                  refine goes_ Tryd.func15 (by kernel_rfl) rfl #[.string (((t554.extract 0 (t576 : Int).toNat) ++ (((⟨#[64]⟩ : ByteArray) ++ t571) ++ (⟨#[59]⟩ : ByteArray))) ++ (t554.extract (t576 : Int).toNat t554.size))] (by rfl) rfl rfl (by (try simp only [List.map_toArray, List.map_cons, List.map_nil]); first | done | rfl | (simp only [List.length_drop, List.length_take]; rfl)) ?_
                  with_reducible refine (impl_TextPieces.calls kj8 (((t554.extract 0 (t576 : Int).toNat) ++ (((⟨#[64]⟩ : ByteArray) ++ t571) ++ (⟨#[59]⟩ : ByteArray))) ++ (t554.extract (t576 : Int).toNat t554.size)) t577 _ ?side1 A57.out).mono ?_
                  (case side1 => first | exact HG.out | exact GV_below HG.out (by repeat (first | (with_reducible first | exact HB.out | apply below_alloc | apply pw_below_drewN | apply below_drew1 | refine below_set ?_ GE557.out) | exact HB.out)))
                  rintro e w110 ⟨v578, rfl, ho0, hb⟩
                  refine ⟨_, rfl, ?_⟩
                  have n0_ := Aside0.mk (Kd.R_elder' (by (with_reducible repeat (first | apply Kd.R_alloc | apply Kd.R_drewN | apply Kd.R_drew)); exact HO_7.out) (Kd.R_base ho0) hb)
                  have n1_ := Aside0.mk (Kd.R_lower (Kd.R_new' ho0 (Kd.R_lt (by (with_reducible repeat (first | apply Kd.R_alloc | apply Kd.R_drewN | apply Kd.R_drew)); exact HO_7.out))) (below_size (by repeat (first | (with_reducible first | exact HB.out | apply below_alloc | apply pw_below_drewN | apply below_drew1 | refine below_set ?_ GE557.out) | exact HB.out))))
                  have n2_ := Aside0.mk (blk_below (g := gb557) (o := .cells #[.int .i64 t555, .int .i64 t556] 32 (0, 0)) (by (with_reducible repeat (first | refine blk_drewN ?_ _ | refine blk_drew ?_ | refine blk_alloc ?_ _)); exact BK557.out) hb)
                  have n3_ := Aside0.mk (Kd.C_below (by repeat (first | (with_reducible exact HR575.out) | (with_reducible refine Kd.C_alloc ?_ _) | (with_reducible refine Kd.C_drewN ?_ _) | (with_reducible refine Kd.C_drew ?_) | exact HR575.out)) hb)
                  have n4_ := Aside0.mk (below_step (by repeat (first | (with_reducible first | exact HB.out | apply below_alloc | apply pw_below_drewN | apply below_drew1 | refine below_set ?_ GE557.out) | exact HB.out)) hb)
                  clear HO_7
                  clear BK557
                  clear HR575
                  clear HB
                  have HO_7 := n0_
                  have HO579 := n1_
                  have BK557 := n2_
                  have HR575 := n3_
                  have HB := n4_
                  clear n0_ n1_ n2_ n3_ n4_
                  (try clear hb)
                  (try clear hb2)
                  (try clear hk)
                  (try clear hi)
                  (try clear ho0)
                  refine hK.out _ _ trivial (fun hHeld => ?_)
                  clear hK K
                  refine norm_ (a' := ?_) ?_ ?_
                  rotate_left
                  ·show Act.put _ (some 75) _ = _
                   simp only [Act.put, s1_, s2_, s3_, i64_w, i32_w]
                   rfl
                  refine pure_ (i := 10) (N := some 11) (v := ?_) (a' := ?_) #[true,true,true,true,true,true,true,true,true,true,true] rfl rfl (any_of HT_.out (by kernel_rfl)) (fun _ _ _ h => h) (Or.inl ⟨by rfl, ?_⟩) ?_ ?_
                  rotate_left
                  ·intro w'
                   go_simp
                   with_reducible rfl
                  rotate_left
                  ·simp only [Act.put, s1_, s2_, s3_, i64_w, i32_w]
                   rfl
                  refine done_ (done_of HT_.out (by kernel_rfl)) ?_
                  try go_wp2
                  have n0_ := Aside0.mk (Kd.R_drew HO_7.out)
                  have n1_ := Aside0.mk (Kd.R_drew HO579.out)
                  have n2_ := Aside0.mk (blk_drew BK557.out)
                  have n3_ := Aside0.mk (Kd.C_drew HR575.out)
                  have n4_ := Aside0.mk (below_drew1 HB.out)
                  clear HO_7
                  clear HO579
                  clear BK557
                  clear HR575
                  clear HB
                  have HO_7 := n0_
                  have HO579 := n1_
                  have BK557 := n2_
                  have HR575 := n3_
                  have HB := n4_
                  clear n0_ n1_ n2_ n3_ n4_
                  obtain ⟨Ao112, co112, eo112⟩ := Kd.R_slice HO579.out
                  (first | subst eo112 | (injection eo112 with f1_ f2_ f3_; have f4_ := f1_.symm; have f5_ := f3_.symm; clear f1_ f2_ f3_; subst f4_; subst f5_))
                  refine start_ (n := 36) (S := fun w' => True) (ds := []) #[false,false,false,false,false,false,false,false,false,false,false,false,false,false,false,false,false,false,false,false,false,false,false,false,false,false,false,false,false,false,false,false,false,false,false,false] (by kernel_rfl) rfl rfl trivial (fun hHeld => ?_); refine with_tabW laws_FnNameIn.tab15 laws_FnNameIn.bits15 (fun HT_ HW_ => ?_)
                  generalize w110.drew = w111 at HO_7 HO579 BK557 HR575 HB hHeld ⊢
                  refine pure_ (i := 0) (N := some 78) (v := ?_) (a' := ?_) #[true,false,false,false,false,false,false,false,false,false,false,false,false,false,false,false,false,false,false,false,false,false,false,false,false,false,false,false,false,false,false,false,false,false,false,false] rfl rfl (any_of HT_.out (by kernel_rfl)) (fun _ _ _ h => h) (Or.inl ⟨by rfl, ?_⟩) ?_ ?_
                  rotate_left
                  ·intro w'
                   go_simp
                   with_reducible rfl
                  rotate_left
                  ·simp only [Act.put, s1_, s2_, s3_, i64_w, i32_w]
                   rfl
                  refine pure_ (i := 1) (N := some 79) (v := ?_) (a' := ?_) #[true,true,false,false,false,false,false,false,false,false,false,false,false,false,false,false,false,false,false,false,false,false,false,false,false,false,false,false,false,false,false,false,false,false,false,false] rfl rfl (any_of HT_.out (by kernel_rfl)) (fun _ _ _ h => h) (Or.inl ⟨by rfl, ?_⟩) ?_ ?_
                  rotate_left
                  ·intro w'
                   go_simp
                   with_reducible rfl
                  rotate_left
                  ·simp only [Act.put, s1_, s2_, s3_, i64_w, i32_w]
                   rfl
                  refine pure_ (i := 2) (N := some 80) (v := ?_) (a' := ?_) #[true,true,true,false,false,false,false,false,false,false,false,false,false,false,false,false,false,false,false,false,false,false,false,false,false,false,false,false,false,false,false,false,false,false,false,false] rfl rfl (any_of HT_.out (by kernel_rfl)) (fun _ _ _ h => h) (Or.inl ⟨by rfl, ?_⟩) ?_ ?_
                  rotate_left
                  ·intro w'
                   go_simp
                   with_reducible rfl
                  rotate_left
                  ·simp only [Act.put, s1_, s2_, s3_, i64_w, i32_w]
                   rfl
                  refine pure_ (i := 3) (N := some 81) (v := ?_) (a' := ?_) #[true,true,true,true,false,false,false,false,false,false,false,false,false,false,false,false,false,false,false,false,false,false,false,false,false,false,false,false,false,false,false,false,false,false,false,false] rfl rfl (any_of HT_.out (by kernel_rfl)) (fun _ _ _ h => h) (Or.inl ⟨by rfl, ?_⟩) ?_ ?_
                  rotate_left
                  ·intro w'
                   go_simp
                   with_reducible rfl
                  rotate_left
                  ·simp only [Act.put, s1_, s2_, s3_, i64_w, i32_w]
                   rfl
                  refine pure_ (i := 4) (N := some 82) (v := ?_) (a' := ?_) #[true,true,true,true,true,false,false,false,false,false,false,false,false,false,false,false,false,false,false,false,false,false,false,false,false,false,false,false,false,false,false,false,false,false,false,false] rfl rfl (any_of HT_.out (by kernel_rfl)) (fun _ _ _ h => h) (Or.inl ⟨by rfl, ?_⟩) ?_ ?_
                  rotate_left
                  ·intro w'
                   go_simp
                   with_reducible rfl
                  rotate_left
                  ·simp only [Act.put, s1_, s2_, s3_, i64_w, i32_w]
                   rfl
                  refine pure_ (i := 5) (N := some 83) (v := ?_) (a' := ?_) #[true,true,true,true,true,true,false,false,false,false,false,false,false,false,false,false,false,false,false,false,false,false,false,false,false,false,false,false,false,false,false,false,false,false,false,false] rfl rfl (any_of HT_.out (by kernel_rfl)) (fun _ _ _ h => h) (Or.inl ⟨by rfl, ?_⟩) ?_ ?_
                  rotate_left
                  ·intro w'
                   go_simp
                   with_reducible rfl
                  rotate_left
                  ·simp only [Act.put, s1_, s2_, s3_, i64_w, i32_w]
                   rfl
                  refine pure_ (i := 6) (N := some 84) (v := undef) (a' := ?_) #[true,true,true,true,true,true,true,false,false,false,false,false,false,false,false,false,false,false,false,false,false,false,false,false,false,false,false,false,false,false,false,false,false,false,false,false] rfl rfl (any_of HT_.out (by kernel_rfl)) (fun _ _ _ h => h) (Or.inr ⟨by rfl, rfl⟩) ?_ ?_
                  rotate_left
                  ·simp only [Act.put, s1_, s2_, s3_, i64_w, i32_w]
                   rfl
                  refine pure_ (i := 7) (N := some 85) (v := undef) (a' := ?_) #[true,true,true,true,true,true,true,true,false,false,false,false,false,false,false,false,false,false,false,false,false,false,false,false,false,false,false,false,false,false,false,false,false,false,false,false] rfl rfl (any_of HT_.out (by kernel_rfl)) (fun _ _ _ h => h) (Or.inr ⟨by rfl, rfl⟩) ?_ ?_
                  rotate_left
                  ·simp only [Act.put, s1_, s2_, s3_, i64_w, i32_w]
                   rfl
                  refine pure_ (i := 8) (N := some 86) (v := undef) (a' := ?_) #[true,true,true,true,true,true,true,true,true,false,false,false,false,false,false,false,false,false,false,false,false,false,false,false,false,false,false,false,false,false,false,false,false,false,false,false] rfl rfl (any_of HT_.out (by kernel_rfl)) (fun _ _ _ h => h) (Or.inr ⟨by rfl, rfl⟩) ?_ ?_
                  rotate_left
                  ·simp only [Act.put, s1_, s2_, s3_, i64_w, i32_w]
                   rfl
                  refine pure_ (i := 9) (N := some 87) (v := undef) (a' := ?_) #[true,true,true,true,true,true,true,true,true,true,false,false,false,false,false,false,false,false,false,false,false,false,false,false,false,false,false,false,false,false,false,false,false,false,false,false] rfl rfl (any_of HT_.out (by kernel_rfl)) (fun _ _ _ h => h) (Or.inr ⟨by rfl, rfl⟩) ?_ ?_
                  rotate_left
                  ·simp only [Act.put, s1_, s2_, s3_, i64_w, i32_w]
                   rfl
                  refine pure_ (i := 10) (N := some 88) (v := undef) (a' := ?_) #[true,true,true,true,true,true,true,true,true,true,true,false,false,false,false,false,false,false,false,false,false,false,false,false,false,false,false,false,false,false,false,false,false,false,false,false] rfl rfl (any_of HT_.out (by kernel_rfl)) (fun _ _ _ h => h) (Or.inr ⟨by rfl, rfl⟩) ?_ ?_
                  rotate_left
                  ·simp only [Act.put, s1_, s2_, s3_, i64_w, i32_w]
                   rfl
                  refine pure_ (i := 11) (N := some 89) (v := undef) (a' := ?_) #[true,true,true,true,true,true,true,true,true,true,true,true,false,false,false,false,false,false,false,false,false,false,false,false,false,false,false,false,false,false,false,false,false,false,false,false] rfl rfl (any_of HT_.out (by kernel_rfl)) (fun _ _ _ h => h) (Or.inr ⟨by rfl, rfl⟩) ?_ ?_
                  rotate_left
                  ·simp only [Act.put, s1_, s2_, s3_, i64_w, i32_w]
                   rfl
                  refine pure_ (i := 12) (N := some 90) (v := undef) (a' := ?_) #[true,true,true,true,true,true,true,true,true,true,true,true,true,false,false,false,false,false,false,false,false,false,false,false,false,false,false,false,false,false,false,false,false,false,false,false] rfl rfl (any_of HT_.out (by kernel_rfl)) (fun _ _ _ h => h) (Or.inr ⟨by rfl, rfl⟩) ?_ ?_
                  rotate_left
                  ·simp only [Act.put, s1_, s2_, s3_, i64_w, i32_w]
                   rfl
                  refine pure_ (i := 13) (N := some 91) (v := ?_) (a' := ?_) #[true,true,true,true,true,true,true,true,true,true,true,true,true,true,false,false,false,false,false,false,false,false,false,false,false,false,false,false,false,false,false,false,false,false,false,false] rfl rfl (any_of HT_.out (by kernel_rfl)) (fun _ _ _ h => h) (Or.inl ⟨by rfl, ?_⟩) ?_ ?_
                  rotate_left
                  ·intro w'
                   go_simp
                   with_reducible rfl
                  rotate_left
                  ·simp only [Act.put, s1_, s2_, s3_, i64_w, i32_w]
                   rfl
                  refine pure_ (i := 14) (N := some 92) (v := ?_) (a' := ?_) #[true,true,true,true,true,true,true,true,true,true,true,true,true,true,true,false,false,false,false,false,false,false,false,false,false,false,false,false,false,false,false,false,false,false,false,false] rfl rfl (any_of HT_.out (by kernel_rfl)) (fun _ _ _ h => h) (Or.inl ⟨by rfl, ?_⟩) ?_ ?_
                  rotate_left
                  ·intro w'
                   go_simp
                   with_reducible rfl
                  rotate_left
                  ·simp only [Act.put, s1_, s2_, s3_, i64_w, i32_w]
                   rfl
                  refine pure_ (i := 15) (N := some 93) (v := undef) (a' := ?_) #[true,true,true,true,true,true,true,true,true,true,true,true,true,true,true,true,false,false,false,false,false,false,false,false,false,false,false,false,false,false,false,false,false,false,false,false] rfl rfl (any_of HT_.out (by kernel_rfl)) (fun _ _ _ h => h) (Or.inr ⟨by rfl, rfl⟩) ?_ ?_
                  rotate_left
                  ·simp only [Act.put, s1_, s2_, s3_, i64_w, i32_w]
                   rfl
                  refine pure_ (i := 16) (N := some 94) (v := undef) (a' := ?_) #[true,true,true,true,true,true,true,true,true,true,true,true,true,true,true,true,true,false,false,false,false,false,false,false,false,false,false,false,false,false,false,false,false,false,false,false] rfl rfl (any_of HT_.out (by kernel_rfl)) (fun _ _ _ h => h) (Or.inr ⟨by rfl, rfl⟩) ?_ ?_
                  rotate_left
                  ·simp only [Act.put, s1_, s2_, s3_, i64_w, i32_w]
                   rfl
                  refine pure_ (i := 17) (N := some 95) (v := undef) (a' := ?_) #[true,true,true,true,true,true,true,true,true,true,true,true,true,true,true,true,true,true,false,false,false,false,false,false,false,false,false,false,false,false,false,false,false,false,false,false] rfl rfl (any_of HT_.out (by kernel_rfl)) (fun _ _ _ h => h) (Or.inr ⟨by rfl, rfl⟩) ?_ ?_
                  rotate_left
                  ·simp only [Act.put, s1_, s2_, s3_, i64_w, i32_w]
                   rfl
                  refine pure_ (i := 18) (N := some 96) (v := undef) (a' := ?_) #[true,true,true,true,true,true,true,true,true,true,true,true,true,true,true,true,true,true,true,false,false,false,false,false,false,false,false,false,false,false,false,false,false,false,false,false] rfl rfl (any_of HT_.out (by kernel_rfl)) (fun _ _ _ h => h) (Or.inr ⟨by rfl, rfl⟩) ?_ ?_
                  rotate_left
                  ·simp only [Act.put, s1_, s2_, s3_, i64_w, i32_w]
                   rfl
                  refine pure_ (i := 19) (N := some 97) (v := undef) (a' := ?_) #[true,true,true,true,true,true,true,true,true,true,true,true,true,true,true,true,true,true,true,true,false,false,false,false,false,false,false,false,false,false,false,false,false,false,false,false] rfl rfl (any_of HT_.out (by kernel_rfl)) (fun _ _ _ h => h) (Or.inr ⟨by rfl, rfl⟩) ?_ ?_
                  rotate_left
                  ·simp only [Act.put, s1_, s2_, s3_, i64_w, i32_w]
                   rfl
                  refine pure_ (i := 20) (N := some 98) (v := undef) (a' := ?_) #[true,true,true,true,true,true,true,true,true,true,true,true,true,true,true,true,true,true,true,true,true,false,false,false,false,false,false,false,false,false,false,false,false,false,false,false] rfl rfl (any_of HT_.out (by kernel_rfl)) (fun _ _ _ h => h) (Or.inr ⟨by rfl, rfl⟩) ?_ ?_
                  rotate_left
                  ·simp only [Act.put, s1_, s2_, s3_, i64_w, i32_w]
                   rfl
                  refine pure_ (i := 21) (N := some 99) (v := undef) (a' := ?_) #[true,true,true,true,true,true,true,true,true,true,true,true,true,true,true,true,true,true,true,true,true,true,false,false,false,false,false,false,false,false,false,false,false,false,false,false] rfl rfl (any_of HT_.out (by kernel_rfl)) (fun _ _ _ h => h) (Or.inr ⟨by rfl, rfl⟩) ?_ ?_
                  rotate_left
                  ·simp only [Act.put, s1_, s2_, s3_, i64_w, i32_w]
                   rfl
                  refine pure_ (i := 22) (N := some 100) (v := undef) (a' := ?_) #[true,true,true,true,true,true,true,true,true,true,true,true,true,true,true,true,true,true,true,true,true,true,true,false,false,false,false,false,false,false,false,false,false,false,false,false] rfl rfl (any_of HT_.out (by kernel_rfl)) (fun _ _ _ h => h) (Or.inr ⟨by rfl, rfl⟩) ?_ ?_
                  rotate_left
                  ·simp only [Act.put, s1_, s2_, s3_, i64_w, i32_w]
                   rfl
                  refine pure_ (i := 23) (N := some 101) (v := undef) (a' := ?_) #[true,true,true,true,true,true,true,true,true,true,true,true,true,true,true,true,true,true,true,true,true,true,true,true,false,false,false,false,false,false,false,false,false,false,false,false] rfl rfl (any_of HT_.out (by kernel_rfl)) (fun _ _ _ h => h) (Or.inr ⟨by rfl, rfl⟩) ?_ ?_
                  rotate_left
                  ·simp only [Act.put, s1_, s2_, s3_, i64_w, i32_w]
                   rfl
                  refine pure_ (i := 24) (N := some 102) (v := ?_) (a' := ?_) #[true,true,true,true,true,true,true,true,true,true,true,true,true,true,true,true,true,true,true,true,true,true,true,true,true,false,false,false,false,false,false,false,false,false,false,false] rfl rfl (any_of HT_.out (by kernel_rfl)) (fun _ _ _ h => h) (Or.inl ⟨by rfl, ?_⟩) ?_ ?_
                  rotate_left
                  ·intro w'
                   go_simp
                   with_reducible rfl
                  rotate_left
                  ·simp only [Act.put, s1_, s2_, s3_, i64_w, i32_w]
                   rfl
                  refine pure_ (i := 25) (N := some 103) (v := ?_) (a' := ?_) #[true,true,true,true,true,true,true,true,true,true,true,true,true,true,true,true,true,true,true,true,true,true,true,true,true,true,false,false,false,false,false,false,false,false,false,false] rfl rfl (any_of HT_.out (by kernel_rfl)) (fun _ _ _ h => h) (Or.inl ⟨by rfl, ?_⟩) ?_ ?_
                  rotate_left
                  ·intro w'
                   go_simp
                   with_reducible rfl
                  rotate_left
                  ·simp only [Act.put, s1_, s2_, s3_, i64_w, i32_w]
                   rfl
                  refine pure_ (i := 26) (N := some 104) (v := undef) (a' := ?_) #[true,true,true,true,true,true,true,true,true,true,true,true,true,true,true,true,true,true,true,true,true,true,true,true,true,true,true,false,false,false,false,false,false,false,false,false] rfl rfl (any_of HT_.out (by kernel_rfl)) (fun _ _ _ h => h) (Or.inr ⟨by rfl, rfl⟩) ?_ ?_
                  rotate_left
                  ·simp only [Act.put, s1_, s2_, s3_, i64_w, i32_w]
                   rfl
                  refine pure_ (i := 27) (N := some 105) (v := undef) (a' := ?_) #[true,true,true,true,true,true,true,true,true,true,true,true,true,true,true,true,true,true,true,true,true,true,true,true,true,true,true,true,false,false,false,false,false,false,false,false] rfl rfl (any_of HT_.out (by kernel_rfl)) (fun _ _ _ h => h) (Or.inr ⟨by rfl, rfl⟩) ?_ ?_
                  rotate_left
                  ·simp only [Act.put, s1_, s2_, s3_, i64_w, i32_w]
                   rfl
                  refine pure_ (i := 28) (N := some 106) (v := undef) (a' := ?_) #[true,true,true,true,true,true,true,true,true,true,true,true,true,true,true,true,true,true,true,true,true,true,true,true,true,true,true,true,true,false,false,false,false,false,false,false] rfl rfl (any_of HT_.out (by kernel_rfl)) (fun _ _ _ h => h) (Or.inr ⟨by rfl, rfl⟩) ?_ ?_
                  rotate_left
                  ·simp only [Act.put, s1_, s2_, s3_, i64_w, i32_w]
                   rfl
                  refine pure_ (i := 29) (N := some 107) (v := undef) (a' := ?_) #[true,true,true,true,true,true,true,true,true,true,true,true,true,true,true,true,true,true,true,true,true,true,true,true,true,true,true,true,true,true,false,false,false,false,false,false] rfl rfl (any_of HT_.out (by kernel_rfl)) (fun _ _ _ h => h) (Or.inr ⟨by rfl, rfl⟩) ?_ ?_
                  rotate_left
                  ·simp only [Act.put, s1_, s2_, s3_, i64_w, i32_w]
                   rfl
                  refine pure_ (i := 30) (N := some 108) (v := undef) (a' := ?_) #[true,true,true,true,true,true,true,true,true,true,true,true,true,true,true,true,true,true,true,true,true,true,true,true,true,true,true,true,true,true,true,false,false,false,false,false] rfl rfl (any_of HT_.out (by kernel_rfl)) (fun _ _ _ h => h) (Or.inr ⟨by rfl, rfl⟩) ?_ ?_
                  rotate_left
                  ·simp only [Act.put, s1_, s2_, s3_, i64_w, i32_w]
                   rfl
                  refine pure_ (i := 31) (N := some 109) (v := undef) (a' := ?_) #[true,true,true,true,true,true,true,true,true,true,true,true,true,true,true,true,true,true,true,true,true,true,true,true,true,true,true,true,true,true,true,true,false,false,false,false] rfl rfl (any_of HT_.out (by kernel_rfl)) (fun _ _ _ h => h) (Or.inr ⟨by rfl, rfl⟩) ?_ ?_
                  rotate_left
                  ·simp only [Act.put, s1_, s2_, s3_, i64_w, i32_w]
                   rfl
                  refine pure_ (i := 32) (N := some 110) (v := undef) (a' := ?_) #[true,true,true,true,true,true,true,true,true,true,true,true,true,true,true,true,true,true,true,true,true,true,true,true,true,true,true,true,true,true,true,true,true,false,false,false] rfl rfl (any_of HT_.out (by kernel_rfl)) (fun _ _ _ h => h) (Or.inr ⟨by rfl, rfl⟩) ?_ ?_
                  rotate_left
                  ·simp only [Act.put, s1_, s2_, s3_, i64_w, i32_w]
                   rfl
                  refine pure_ (i := 33) (N := some 111) (v := undef) (a' := ?_) #[true,true,true,true,true,true,true,true,true,true,true,true,true,true,true,true,true,true,true,true,true,true,true,true,true,true,true,true,true,true,true,true,true,true,false,false] rfl rfl (any_of HT_.out (by kernel_rfl)) (fun _ _ _ h => h) (Or.inr ⟨by rfl, rfl⟩) ?_ ?_
                  rotate_left
                  ·simp only [Act.put, s1_, s2_, s3_, i64_w, i32_w]
                   rfl
                  refine pure_ (i := 34) (N := some 112) (v := ?_) (a' := ?_) #[true,true,true,true,true,true,true,true,true,true,true,true,true,true,true,true,true,true,true,true,true,true,true,true,true,true,true,true,true,true,true,true,true,true,true,false] rfl rfl (any_of HT_.out (by kernel_rfl)) (fun _ _ _ h => h) (Or.inl ⟨by rfl, ?_⟩) ?_ ?_
                  rotate_left
                  ·intro w'
                   go_simp
                   with_reducible rfl
                  rotate_left
                  ·simp only [Act.put, s1_, s2_, s3_, i64_w, i32_w]
                   rfl
                  refine pure_ (i := 35) (N := some 4) (v := ?_) (a' := ?_) #[true,true,true,true,true,true,true,true,true,true,true,true,true,true,true,true,true,true,true,true,true,true,true,true,true,true,true,true,true,true,true,true,true,true,true,true] rfl rfl (any_of HT_.out (by kernel_rfl)) (fun _ _ _ h => h) (Or.inl ⟨by rfl, ?_⟩) ?_ ?_
                  rotate_left
                  ·intro w'
                   go_simp
                   with_reducible rfl
                  rotate_left
                  ·simp only [Act.put, s1_, s2_, s3_, i64_w, i32_w]
                   rfl
                  refine done_ (done_of HT_.out (by kernel_rfl)) ?_
                  try go_wp2
                  go_ret
                  exact ⟨by first | rfl | (simp [errW_none, errW_some] <;> rfl) | (simp only [← hji42]; first | rfl | (simp [errW_none, errW_some] <;> rfl)) | (simp [*, errW_none, errW_some] <;> rfl) | (simp [errW_none, errW_some, pk_empty1, pk_empty2]; done) | (simp [*, errW_none, errW_some, pk_empty1, pk_empty2]; done), by repeat (first | (with_reducible first | exact HB.out | apply below_alloc | apply pw_below_drewN | apply below_drew1 | refine below_set ?_ GE557.out) | exact HB.out)⟩
                ·rw [if_neg c56] at H
                 exact absurd H (by simp)
               ·rw [if_neg c53] at H
                exact absurd H (by simp)
              ·rw [if_neg c52] at H
               exact absurd H (by simp)
             ·rw [if_neg c51] at H
              exact absurd H (by simp)
           ·rw [if_neg c44] at H
            exact absurd H (by simp)
          ·rw [if_neg c43] at H
           exact absurd H (by simp)
        ·rw [if_neg c40] at H
         exact absurd H (by simp)
       ·rw [if_neg c39] at H
        exact absurd H (by simp)

/-- THE ONE PURE STATEMENT of laws_FnNameIn: yours. -/
def laws_FnNameIn.Pure : Prop := ∀ (l0 : List Int) (l1 : List Int), l0.length ≤ maxLen → l0.length * 1 ≤ 140737488351232 → (∀ x ∈ l0, (Lit.int .u8 x).wf = true) → l1.length ≤ maxLen → l1.length * 1 ≤ 140737488351232 → (∀ x ∈ l1, (Lit.int .u8 x).wf = true) → ∃ k, laws_FnNameIn.f k l0 l1 = some true
theorem laws_FnNameIn.walk (P : laws_FnNameIn.Pure) (a0 : Option Addr) (len0 cap0 : Nat) (z0 : List Int) (a1 : Option Addr) (len1 cap1 : Nat) (z1 : List Int) (w : World) (hG : GV w) (w0 : (a0 = none ∧ len0 = 0 ∧ cap0 = 0 ∧ z0 = []) ∨ ∃ x, a0 = some x ∧ len0 ≤ cap0 ∧ cap0 ≤ maxLen ∧ z0.length = cap0 ∧ (∀ i, i < z0.length → w.cell? (x.add i) = some (.int .u8 (z0.getD i 0))) ∧ ∀ n ∈ z0, (Lit.int .u8 n).wf = true) (y0 : len0 * 1 ≤ 140737488351232) (w1 : (a1 = none ∧ len1 = 0 ∧ cap1 = 0 ∧ z1 = []) ∨ ∃ x, a1 = some x ∧ len1 ≤ cap1 ∧ cap1 ≤ maxLen ∧ z1.length = cap1 ∧ (∀ i, i < z1.length → w.cell? (x.add i) = some (.int .u8 (z1.getD i 0))) ∧ ∀ n ∈ z1, (Lit.int .u8 n).wf = true) (y1 : len1 * 1 ≤ 140737488351232) :
  Calls Tryd.prog 11 #[.slice a0 len0 cap0, .slice a1 len1 cap1] w fun e w' => e = .returned (.bool true) ∧ Below w.heap.size w w' := by
 obtain ⟨l0, rfl, hr0, hm0, hw0, hc0⟩ := ReadsInt.ofRowC w0
 obtain ⟨l1, rfl, hr1, hm1, hw1, hc1⟩ := ReadsInt.ofRowC w1
 obtain ⟨k, h⟩ := P l0 l1 hm0 y0 hw0 hm1 y1 hw1
 refine (laws_FnNameIn.calls k _ _ l0 _ _ l1 true w (Kd.C_of_reads (d := (0 : Int)) (h1 := fun _ => rfl) hr0) hc0 (Kd.C_of_reads (d := (0 : Int)) (h1 := fun _ => rfl) hr1) hc1 hG h).mono ?_
 rintro e w' ⟨rfl, hd⟩
 exact ⟨rfl, hd⟩

end Go.Proofs.YtclhmoghkcnkmaaDoor.A
