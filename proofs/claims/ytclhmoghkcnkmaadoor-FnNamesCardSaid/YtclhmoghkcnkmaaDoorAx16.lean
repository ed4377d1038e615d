-- Printed by myprint.py (wip/tools) out of the translation. Not trusted: Lean checks it.
import Derived.Test.YtclhmoghkcnkmaaDoorAx0
import Derived.Test.YtclhmoghkcnkmaaDoorAx1
import Derived.Test.YtclhmoghkcnkmaaDoorAx3
import Derived.Test.YtclhmoghkcnkmaaDoorAx8
import Derived.Test.YtclhmoghkcnkmaaDoorAx12
import Derived.Test.YtclhmoghkcnkmaaDoorAx14
namespace Go.Proofs.YtclhmoghkcnkmaaDoor.A
open Go.RowKit Go.Proofs.YtclhmoghkcnkmaaDoorW.PrintWords Go.Proofs.YtclhmoghkcnkmaaDoorW.PrintLast Go.Proofs.YtclhmoghkcnkmaaDoorW.PrintMore
attribute [local go_sem] max2_int min2_int max_two min_two max_three min_three max_four min_four   -- for this text's walks alone
set_option linter.unusedVariables false
set_option linter.unusedSimpArgs false

attribute [local go_sem high] eqA32
/-! ### laws_FnNames: function 4 -/
mutual
def laws_FnNames.j0 : Nat → ByteArray → List (S32) → List (S32) → Bool → Option (Bool)
 | 0, _, _, _, _ => none
 | k + 1, x3, x4, x5, x28 => if x28 = true then (some ((x4.length : Int) == (x5.length : Int))) else ((impl_TextPieces.f k x3).bind fun t355 => (laws_FnNames.l0 k x3 x4 0 t355 0))
def laws_FnNames.l0 : Nat → ByteArray → List (S32) → Int → List (S34) → Int → Option (Bool)
 | 0, _, _, _, _, _ => none
 | k + 1, x3, x4, x6, x7, x8 => if x8 < (x7.length : Int) then (if 0 ≤ x8 then (if (rd_T34 x7 x8).f1 = true then (if x6 ≥ (x4.length : Int) then (some false) else (if 0 ≤ x6 then (if x6 < (x4.length : Int) then (if (!(((rd_T32 x4 x6).f0) == ((rd_T34 x7 x8).f2.f0)) || (!(((rd_T32 x4 x6).f1) == ((rd_T34 x7 x8).f2.f1)))) = true then (some false) else (laws_FnNames.l0 k x3 x4 (wrap64 (x6 + 1)) x7 (wrap64 (x8 + 1)))) else (none)) else (none))) else (laws_FnNames.l0 k x3 x4 x6 x7 (wrap64 (x8 + 1)))) else (none)) else (if (wrap64 ((x3.size : Int) + 5)) > 40 then (some (x6 == (x4.length : Int))) else (if x3.size + 5 ≤ 9223372036854775807 then ((impl_TextNames.f k (x3 ++ (⟨#[64, 50, 58, 51, 59]⟩ : ByteArray))).bind fun t358 => (if x6 = (x4.length : Int) then (if (t358.length : Int) = (wrap64 (x6 + 1)) then (if 0 ≤ x6 then (if x6 < (t358.length : Int) then (some (((rd_T32 t358 x6).f0) == 2 && (((rd_T32 t358 x6).f1) == 3))) else (none)) else (none)) else (some false)) else (some false))) else (none)))
end
def laws_FnNames.f (k : Nat) (l0 : List Int) : Option (Bool) := if (l0.length : Int) > 1048576 then (some true) else ((spec_DrawTextNames.f k l0).bind fun t347 => ((impl_TextNames.f k t347).bind fun t348 => ((spec_TextNames.f k t347).bind fun t351 => (if (t348.length : Int) = (t351.length : Int) then ((spec_TextOk.f k t347).bind fun t354 => (laws_FnNames.j0 k t347 t348 t351 (!t354))) else (laws_FnNames.j0 k t347 t348 t351 true)))))
theorem laws_FnNames.mono_l : ∀ k, (∀ y0 y1 y2 y3, LeO (laws_FnNames.j0 k y0 y1 y2 y3) (laws_FnNames.j0 (k + 1) y0 y1 y2 y3)) ∧ (∀ y0 y1 y2 y3 y4, LeO (laws_FnNames.l0 k y0 y1 y2 y3 y4) (laws_FnNames.l0 (k + 1) y0 y1 y2 y3 y4))
 | 0 => ⟨fun _ _ _ _ r h => by simp [laws_FnNames.j0] at h, fun _ _ _ _ _ r h => by simp [laws_FnNames.l0] at h⟩
 | k + 1 => by
  obtain ⟨ih0, ih1⟩ := laws_FnNames.mono_l k
  refine ⟨?_, ?_⟩
  ·intro y0 y1 y2 y3
   unfold laws_FnNames.j0
   repeat' first
   | (with_reducible exact ih0 _ _ _ _)
   | (with_reducible exact ih1 _ _ _ _ _)
   | (with_reducible exact impl_TextNames.mono _ _)
   | (with_reducible exact impl_TextPieces.mono _ _)
   | (with_reducible exact spec_DrawTextNames.mono _ _)
   | (with_reducible exact spec_TextNames.mono _ _)
   | (with_reducible exact spec_TextOk.mono _ _)
   | (with_reducible exact LeO.refl _)
   | (with_reducible exact LeO.none _)
   | (with_reducible refine LeO.ite ?_ ?_)
   | (with_reducible refine LeO.bind ?_ (fun _ => ?_))
   | exact ih0 _ _ _ _
   | exact ih1 _ _ _ _ _
   | exact impl_TextNames.mono _ _
   | exact impl_TextPieces.mono _ _
   | exact spec_DrawTextNames.mono _ _
   | exact spec_TextNames.mono _ _
   | exact spec_TextOk.mono _ _
   | exact LeO.none _
   | refine LeO.ite ?_ ?_
   | refine LeO.bind ?_ (fun _ => ?_)
  ·intro y0 y1 y2 y3 y4
   unfold laws_FnNames.l0
   repeat' first
   | (with_reducible exact ih0 _ _ _ _)
   | (with_reducible exact ih1 _ _ _ _ _)
   | (with_reducible exact impl_TextNames.mono _ _)
   | (with_reducible exact impl_TextPieces.mono _ _)
   | (with_reducible exact spec_DrawTextNames.mono _ _)
   | (with_reducible exact spec_TextNames.mono _ _)
   | (with_reducible exact spec_TextOk.mono _ _)
   | (with_reducible exact LeO.refl _)
   | (with_reducible exact LeO.none _)
   | (with_reducible refine LeO.ite ?_ ?_)
   | (with_reducible refine LeO.bind ?_ (fun _ => ?_))
   | exact ih0 _ _ _ _
   | exact ih1 _ _ _ _ _
   | exact impl_TextNames.mono _ _
   | exact impl_TextPieces.mono _ _
   | exact spec_DrawTextNames.mono _ _
   | exact spec_TextNames.mono _ _
   | exact spec_TextOk.mono _ _
   | exact LeO.none _
   | refine LeO.ite ?_ ?_
   | refine LeO.bind ?_ (fun _ => ?_)
theorem laws_FnNames.mono : ∀ a0 k, LeO (laws_FnNames.f k a0) (laws_FnNames.f (k + 1) a0) := by
 intro a0 k
 obtain ⟨ih0, ih1⟩ := laws_FnNames.mono_l k
 unfold laws_FnNames.f
 repeat' first
   | (with_reducible exact ih0 _ _ _ _)
   | (with_reducible exact ih1 _ _ _ _ _)
   | (with_reducible exact impl_TextNames.mono _ _)
   | (with_reducible exact impl_TextPieces.mono _ _)
   | (with_reducible exact spec_DrawTextNames.mono _ _)
   | (with_reducible exact spec_TextNames.mono _ _)
   | (with_reducible exact spec_TextOk.mono _ _)
   | (with_reducible exact LeO.refl _)
   | (with_reducible exact LeO.none _)
   | (with_reducible refine LeO.ite ?_ ?_)
   | (with_reducible refine LeO.bind ?_ (fun _ => ?_))
   | exact ih0 _ _ _ _
   | exact ih1 _ _ _ _ _
   | exact impl_TextNames.mono _ _
   | exact impl_TextPieces.mono _ _
   | exact spec_DrawTextNames.mono _ _
   | exact spec_TextNames.mono _ _
   | exact spec_TextOk.mono _ _
   | exact LeO.none _
   | refine LeO.ite ?_ ?_
   | refine LeO.bind ?_ (fun _ => ?_)
set_option maxHeartbeats 8000000 in
set_option maxRecDepth 100000 in
theorem laws_FnNames.calls (k : Nat) (A0 : Option Addr) (c0 : Nat) (l0 : List Int) (r : Bool) (w : World) (hr0 : Kd.C (Kd.int .u8) w A0 l0.length l0) (hc0 : l0.length ≤ c0) (hG : GV w) (h : laws_FnNames.f k l0 = some r) :
  Calls Tryd.prog 4 #[.slice A0 l0.length c0] w fun e w' => e = .returned (.bool r) ∧ Below w.heap.size w w' := by
 have hu32 := Tryd.underlying32
 have HG := Aside0.mk hG
 clear hG
 have HR0 := Aside0.mk hr0
 have HC0 := Aside0.mk hc0
 clear hr0 hc0
 have HB := Aside0.mk (Below.refl w.heap.size w)
 have H : (if (l0.length : Int) > 1048576 then (some true) else ((spec_DrawTextNames.f k l0).bind fun t347 => ((impl_TextNames.f k t347).bind fun t348 => ((spec_TextNames.f k t347).bind fun t351 => (if (t348.length : Int) = (t351.length : Int) then ((spec_TextOk.f k t347).bind fun t354 => (laws_FnNames.j0 k t347 t348 t351 (!t354))) else (laws_FnNames.j0 k t347 t348 t351 true)))))) = some r := h
 clear h
 by_cases c2 : (l0.length : Int) > 1048576
 ·rw [if_pos c2] at H
  have c2b0 : decide (1048576 < (l0.length : Int)) = true := decide_eq_true c2
  have c2b1 : decide (1048576 < l0.length) = true := decide_eq_true (by omega)
  clear c2
  obtain rfl := Option.some.inj H
  go_enter Tryd.func4, Tryd.ntmps4
  go_wp2
  repeat (go_quiet (fail); try go_wp2)
  go_ret
  exact ⟨by first | rfl | (simp [errW_none, errW_some] <;> rfl) | (simp [*, errW_none, errW_some] <;> rfl) | (simp [errW_none, errW_some, pk_empty1, pk_empty2]; done) | (simp [*, errW_none, errW_some, pk_empty1, pk_empty2]; done), by repeat (first | (with_reducible first | exact HB.out | apply below_alloc | apply pw_below_drewN | apply below_drew1) | exact HB.out)⟩
 ·rw [if_neg c2] at H
  have c2b0 : decide (1048576 < (l0.length : Int)) = false := decide_eq_false c2
  have c2b1 : decide (1048576 < l0.length) = false := decide_eq_false (by omega)
  clear c2
  replace H := Option.bind_eq_some_iff.mp H
  obtain ⟨t347, A30, H⟩ := H
  replace H : ((impl_TextNames.f k t347).bind fun t348 => ((spec_TextNames.f k t347).bind fun t351 => (if (t348.length : Int) = (t351.length : Int) then ((spec_TextOk.f k t347).bind fun t354 => (laws_FnNames.j0 k t347 t348 t351 (!t354))) else (laws_FnNames.j0 k t347 t348 t351 true)))) = some r := H
  have A3 := Aside0.mk A30
  clear A30
  replace H := Option.bind_eq_some_iff.mp H
  obtain ⟨t348, A40, H⟩ := H
  replace H : ((spec_TextNames.f k t347).bind fun t351 => (if (t348.length : Int) = (t351.length : Int) then ((spec_TextOk.f k t347).bind fun t354 => (laws_FnNames.j0 k t347 t348 t351 (!t354))) else (laws_FnNames.j0 k t347 t348 t351 true))) = some r := H
  have A4 := Aside0.mk A40
  clear A40
  replace H := Option.bind_eq_some_iff.mp H
  obtain ⟨t351, A50, H⟩ := H
  replace H : (if (t348.length : Int) = (t351.length : Int) then ((spec_TextOk.f k t347).bind fun t354 => (laws_FnNames.j0 k t347 t348 t351 (!t354))) else (laws_FnNames.j0 k t347 t348 t351 true)) = some r := H
  have A5 := Aside0.mk A50
  clear A50
  have HC6 := Aside0.mk H
  clear H
  go_enter Tryd.func4, Tryd.ntmps4
  go_upto_region 6 with (first | (go_at_call 19; (with_reducible refine (spec_DrawTextNames.calls k _ _ l0 t347 _ ?side1 ?side2 A3.out).mono ?_); (case side1 => repeat (first | exact HR0.out | (with_reducible refine Kd.C_alloc ?_ _) | (with_reducible refine Kd.C_drewN ?_ _) | (with_reducible refine Kd.C_drew ?_))); (case side2 => exact HC0.out); rintro e w7 ⟨rfl, hb⟩; have n0_ := Aside0.mk (below_step (by repeat (first | (with_reducible first | exact HB.out | apply below_alloc | apply pw_below_drewN | apply below_drew1) | exact HB.out)) hb); clear HB; have HB := n0_; clear n0_; (try clear hb); (try clear hb2); (try clear hk); (try clear hi)) | (go_at_call 20; (with_reducible refine (impl_TextNames.calls k t347 t348 _ ?side1 A4.out).mono ?_); (case side1 => first | exact HG.out | exact GV_below HG.out (by repeat (first | (with_reducible first | exact HB.out | apply below_alloc | apply pw_below_drewN | apply below_drew1) | exact HB.out))); rintro e w8 ⟨v349, rfl, ho0, hb⟩; have n0_ := Aside0.mk (Kd.R_lower ho0 (below_size (by repeat (first | (with_reducible first | exact HB.out | apply below_alloc | apply pw_below_drewN | apply below_drew1) | exact HB.out)))); have n1_ := Aside0.mk (below_step (by repeat (first | (with_reducible first | exact HB.out | apply below_alloc | apply pw_below_drewN | apply below_drew1) | exact HB.out)) hb); clear HB; have HO350 := n0_; have HB := n1_; clear n0_ n1_; (try clear hb); (try clear hb2); (try clear hk); (try clear hi); (try clear ho0)) | (go_at_call 21; (with_reducible refine (spec_TextNames.calls k t347 t351 _ A5.out).mono ?_); rintro e w9 ⟨v352, rfl, ho0, hb⟩; have n0_ := Aside0.mk (Kd.R_elder' (by (with_reducible repeat (first | apply Kd.R_alloc | apply Kd.R_drewN | apply Kd.R_drew)); exact HO350.out) (Kd.R_base ho0) hb); have n1_ := Aside0.mk (Kd.R_lower (Kd.R_new' ho0 (Kd.R_lt (by (with_reducible repeat (first | apply Kd.R_alloc | apply Kd.R_drewN | apply Kd.R_drew)); exact HO350.out))) (below_size (by repeat (first | (with_reducible first | exact HB.out | apply below_alloc | apply pw_below_drewN | apply below_drew1) | exact HB.out)))); have n2_ := Aside0.mk (below_step (by repeat (first | (with_reducible first | exact HB.out | apply below_alloc | apply pw_below_drewN | apply below_drew1) | exact HB.out)) hb); clear HO350; clear HB; have HO350 := n0_; have HO353 := n1_; have HB := n2_; clear n0_ n1_ n2_; (try clear hb); (try clear hb2); (try clear hk); (try clear hi); (try clear ho0)))
  repeat (go_quiet (first | (go_at_call 19; (with_reducible refine (spec_DrawTextNames.calls k _ _ l0 t347 _ ?side1 ?side2 A3.out).mono ?_); (case side1 => repeat (first | exact HR0.out | (with_reducible refine Kd.C_alloc ?_ _) | (with_reducible refine Kd.C_drewN ?_ _) | (with_reducible refine Kd.C_drew ?_))); (case side2 => exact HC0.out); rintro e w7 ⟨rfl, hb⟩; have n0_ := Aside0.mk (below_step (by repeat (first | (with_reducible first | exact HB.out | apply below_alloc | apply pw_below_drewN | apply below_drew1) | exact HB.out)) hb); clear HB; have HB := n0_; clear n0_; (try clear hb); (try clear hb2); (try clear hk); (try clear hi)) | (go_at_call 20; (with_reducible refine (impl_TextNames.calls k t347 t348 _ ?side1 A4.out).mono ?_); (case side1 => first | exact HG.out | exact GV_below HG.out (by repeat (first | (with_reducible first | exact HB.out | apply below_alloc | apply pw_below_drewN | apply below_drew1) | exact HB.out))); rintro e w8 ⟨v349, rfl, ho0, hb⟩; have n0_ := Aside0.mk (Kd.R_lower ho0 (below_size (by repeat (first | (with_reducible first | exact HB.out | apply below_alloc | apply pw_below_drewN | apply below_drew1) | exact HB.out)))); have n1_ := Aside0.mk (below_step (by repeat (first | (with_reducible first | exact HB.out | apply below_alloc | apply pw_below_drewN | apply below_drew1) | exact HB.out)) hb); clear HB; have HO350 := n0_; have HB := n1_; clear n0_ n1_; (try clear hb); (try clear hb2); (try clear hk); (try clear hi); (try clear ho0)) | (go_at_call 21; (with_reducible refine (spec_TextNames.calls k t347 t351 _ A5.out).mono ?_); rintro e w9 ⟨v352, rfl, ho0, hb⟩; have n0_ := Aside0.mk (Kd.R_elder' (by (with_reducible repeat (first | apply Kd.R_alloc | apply Kd.R_drewN | apply Kd.R_drew)); exact HO350.out) (Kd.R_base ho0) hb); have n1_ := Aside0.mk (Kd.R_lower (Kd.R_new' ho0 (Kd.R_lt (by (with_reducible repeat (first | apply Kd.R_alloc | apply Kd.R_drewN | apply Kd.R_drew)); exact HO350.out))) (below_size (by repeat (first | (with_reducible first | exact HB.out | apply below_alloc | apply pw_below_drewN | apply below_drew1) | exact HB.out)))); have n2_ := Aside0.mk (below_step (by repeat (first | (with_reducible first | exact HB.out | apply below_alloc | apply pw_below_drewN | apply below_drew1) | exact HB.out)) hb); clear HO350; clear HB; have HO350 := n0_; have HO353 := n1_; have HB := n2_; clear n0_ n1_ n2_; (try clear hb); (try clear hb2); (try clear hk); (try clear hi); (try clear ho0))); go_upto_region 6 with (first | (go_at_call 19; (with_reducible refine (spec_DrawTextNames.calls k _ _ l0 t347 _ ?side1 ?side2 A3.out).mono ?_); (case side1 => repeat (first | exact HR0.out | (with_reducible refine Kd.C_alloc ?_ _) | (with_reducible refine Kd.C_drewN ?_ _) | (with_reducible refine Kd.C_drew ?_))); (case side2 => exact HC0.out); rintro e w7 ⟨rfl, hb⟩; have n0_ := Aside0.mk (below_step (by repeat (first | (with_reducible first | exact HB.out | apply below_alloc | apply pw_below_drewN | apply below_drew1) | exact HB.out)) hb); clear HB; have HB := n0_; clear n0_; (try clear hb); (try clear hb2); (try clear hk); (try clear hi)) | (go_at_call 20; (with_reducible refine (impl_TextNames.calls k t347 t348 _ ?side1 A4.out).mono ?_); (case side1 => first | exact HG.out | exact GV_below HG.out (by repeat (first | (with_reducible first | exact HB.out | apply below_alloc | apply pw_below_drewN | apply below_drew1) | exact HB.out))); rintro e w8 ⟨v349, rfl, ho0, hb⟩; have n0_ := Aside0.mk (Kd.R_lower ho0 (below_size (by repeat (first | (with_reducible first | exact HB.out | apply below_alloc | apply pw_below_drewN | apply below_drew1) | exact HB.out)))); have n1_ := Aside0.mk (below_step (by repeat (first | (with_reducible first | exact HB.out | apply below_alloc | apply pw_below_drewN | apply below_drew1) | exact HB.out)) hb); clear HB; have HO350 := n0_; have HB := n1_; clear n0_ n1_; (try clear hb); (try clear hb2); (try clear hk); (try clear hi); (try clear ho0)) | (go_at_call 21; (with_reducible refine (spec_TextNames.calls k t347 t351 _ A5.out).mono ?_); rintro e w9 ⟨v352, rfl, ho0, hb⟩; have n0_ := Aside0.mk (Kd.R_elder' (by (with_reducible repeat (first | apply Kd.R_alloc | apply Kd.R_drewN | apply Kd.R_drew)); exact HO350.out) (Kd.R_base ho0) hb); have n1_ := Aside0.mk (Kd.R_lower (Kd.R_new' ho0 (Kd.R_lt (by (with_reducible repeat (first | apply Kd.R_alloc | apply Kd.R_drewN | apply Kd.R_drew)); exact HO350.out))) (below_size (by repeat (first | (with_reducible first | exact HB.out | apply below_alloc | apply pw_below_drewN | apply below_drew1) | exact HB.out)))); have n2_ := Aside0.mk (below_step (by repeat (first | (with_reducible first | exact HB.out | apply below_alloc | apply pw_below_drewN | apply below_drew1) | exact HB.out)) hb); clear HO350; clear HB; have HO350 := n0_; have HO353 := n1_; have HB := n2_; clear n0_ n1_ n2_; (try clear hb); (try clear hb2); (try clear hk); (try clear hi); (try clear ho0))))
  (try simp only [Act.put, s1_, s2_, s3_])
  go_cut [28] (fun v28 wc => ∃ (kq : Nat) (x28_5 : Bool), v28 = .bool x28_5 ∧ Aside0 (laws_FnNames.j0 kq t347 t348 t351 x28_5 = some r) ∧ Aside0 (kq ≤ k) ∧ Aside0 (Kd.R k32 32 wc w.heap.size (fun k_ => some k_ ≠ (v352 : Value).ownBlock) v349 t348) ∧ Aside0 (Kd.R k32 32 wc w.heap.size (fun k_ => some k_ ≠ (v349 : Value).ownBlock) v352 t351) ∧ Aside0 (Below w.heap.size w wc))
  case first =>
   have H := HC6.out
   clear HC6
   by_cases c10 : (t348.length : Int) = (t351.length : Int)
   ·rw [if_pos c10] at H
    have c10b0 : ((t348.length : Int) == (t351.length : Int)) = true := beq_iff_eq.mpr c10
    have c10b1 : ((t348.length : Int) != (t351.length : Int)) = false := bne_eq_false_iff_eq.mpr c10
    have c10b2 : (t348.length == t351.length) = true := by first | simpa using c10 | (simp at c10 ⊢; omega)
    clear c10
    (first | rw [c10b0] | (simp only [i64_w, i32_w]; rw [c10b0]) | skip)
    replace H := Option.bind_eq_some_iff.mp H
    obtain ⟨t354, A110, H⟩ := H
    replace H : (laws_FnNames.j0 k t347 t348 t351 (!t354)) = some r := H
    have A11 := Aside0.mk A110
    clear A110
    have H' := Aside0.mk H
    clear H
    obtain ⟨Ao12, co12, eo12⟩ := Kd.R_slice HO350.out
    subst eo12
    obtain ⟨Ao13, co13, eo13⟩ := Kd.R_slice HO353.out
    subst eo13
    go_wp2_with (first | (go_at_call 22; (with_reducible refine (spec_TextOk.calls k t347 t354 _ A11.out).mono ?_); rintro e w' ⟨rfl, ⟨nd, rfl⟩⟩; (try first | exact ⟨rfl, _, World.drewN_drewN _ _ _⟩ | exact ⟨rfl, _, Eq.trans (World.drewN_drewN _ _ _) (congrArg (World.drewN _) (Nat.add_assoc _ _ _))⟩)))
    repeat (go_quiet (first | (go_at_call 22; (with_reducible refine (spec_TextOk.calls k t347 t354 _ A11.out).mono ?_); rintro e w' ⟨rfl, ⟨nd, rfl⟩⟩; (try first | exact ⟨rfl, _, World.drewN_drewN _ _ _⟩ | exact ⟨rfl, _, Eq.trans (World.drewN_drewN _ _ _) (congrArg (World.drewN _) (Nat.add_assoc _ _ _))⟩))); try go_wp2_with (first | (go_at_call 22; (with_reducible refine (spec_TextOk.calls k t347 t354 _ A11.out).mono ?_); rintro e w' ⟨rfl, ⟨nd, rfl⟩⟩; (try first | exact ⟨rfl, _, World.drewN_drewN _ _ _⟩ | exact ⟨rfl, _, Eq.trans (World.drewN_drewN _ _ _) (congrArg (World.drewN _) (Nat.add_assoc _ _ _))⟩))))
    go_meet
    case rel => exact ⟨_, (!t354), (by first | rfl | (simp; done) | (simp [*]; done)), H', ⟨by first | omega | exact Nat.le_refl _⟩, ⟨by (with_reducible repeat (first | apply Kd.R_alloc | apply Kd.R_drewN | apply Kd.R_drew)); exact Kd.R_mono HO350.out (fun _ hk => hk.2)⟩, ⟨by (with_reducible repeat (first | apply Kd.R_alloc | apply Kd.R_drewN | apply Kd.R_drew)); exact Kd.R_mono HO353.out (fun _ hk => hk.2)⟩, ⟨by repeat (first | (with_reducible first | exact HB.out | apply below_alloc | apply pw_below_drewN | apply below_drew1) | exact HB.out)⟩⟩
   ·rw [if_neg c10] at H
    have c10b0 : ((t348.length : Int) == (t351.length : Int)) = false := beq_eq_false_iff_ne.mpr c10
    have c10b1 : ((t348.length : Int) != (t351.length : Int)) = true := bne_iff_ne.mpr c10
    have c10b2 : (t348.length == t351.length) = false := by first | simpa using c10 | (simp at c10 ⊢; omega)
    (first | rw [c10b0] | (simp only [i64_w, i32_w]; rw [c10b0]) | skip)
    have H' := Aside0.mk H
    clear H
    obtain ⟨Ao14, co14, eo14⟩ := Kd.R_slice HO350.out
    subst eo14
    obtain ⟨Ao15, co15, eo15⟩ := Kd.R_slice HO353.out
    subst eo15
    go_wp2
    repeat (go_quiet (fail); try go_wp2)
    go_meet
    case rel => exact ⟨_, (true), (by first | rfl | (simp; done) | (simp [*]; done)), H', ⟨by first | omega | exact Nat.le_refl _⟩, ⟨by (with_reducible repeat (first | apply Kd.R_alloc | apply Kd.R_drewN | apply Kd.R_drew)); exact Kd.R_mono HO350.out (fun _ hk => hk.2)⟩, ⟨by (with_reducible repeat (first | apply Kd.R_alloc | apply Kd.R_drewN | apply Kd.R_drew)); exact Kd.R_mono HO353.out (fun _ hk => hk.2)⟩, ⟨by repeat (first | (with_reducible first | exact HB.out | apply below_alloc | apply pw_below_drewN | apply below_drew1) | exact HB.out)⟩⟩
  case rest =>
   clear HC6
   try clear c1
   try clear c2
   try clear c2b0
   try clear c2b1
   try clear p2
   try clear c4
   try clear c10
   try clear c10b0
   try clear c10b1
   try clear c10b2
   obtain ⟨kq, x28_5, rfl, HA, HJ5, HO_4, HO_5, HB⟩ := hcut
   cases kq with
   | zero => exact absurd HA.out (by simp [laws_FnNames.j0])
   | succ kj5 =>
    have H := HA.out
    clear HA
    simp only [laws_FnNames.j0] at H
    by_cases c16 : x28_5 = true
    ·subst c16
     have H1 : (some ((t348.length : Int) == (t351.length : Int))) = some r := by rw [if_pos rfl] at H; exact H
     clear H
     have H := H1
     clear H1
     obtain rfl := Option.some.inj H
     obtain ⟨Ao17, co17, eo17⟩ := Kd.R_slice HO_4.out
     subst eo17
     obtain ⟨Ao18, co18, eo18⟩ := Kd.R_slice HO_5.out
     subst eo18
     go_wp2
     repeat (go_quiet (fail); try go_wp2)
     go_ret
     exact ⟨by first | rfl | (simp [errW_none, errW_some] <;> rfl) | (simp [*, errW_none, errW_some] <;> rfl) | (simp [errW_none, errW_some, pk_empty1, pk_empty2]; done) | (simp [*, errW_none, errW_some, pk_empty1, pk_empty2]; done), by repeat (first | (with_reducible first | exact HB.out | apply below_alloc | apply pw_below_drewN | apply below_drew1) | exact HB.out)⟩
    ·replace c16 := Bool.eq_false_iff.mpr c16
     subst c16
     have H1 : ((impl_TextPieces.f kj5 t347).bind fun t355 => (laws_FnNames.l0 kj5 t347 t348 0 t355 0)) = some r := by rw [if_neg (show ¬ (false = true) by decide)] at H; exact H
     clear H
     have H := H1
     clear H1
     replace H := Option.bind_eq_some_iff.mp H
     obtain ⟨t355, A190, H⟩ := H
     replace H : (laws_FnNames.l0 kj5 t347 t348 0 t355 0) = some r := H
     have A19 := Aside0.mk A190
     clear A190
     have H' := Aside0.mk H
     clear H
     go_wp2_with (first | (go_at_call 15; (with_reducible refine (impl_TextPieces.calls kj5 t347 t355 _ ?side1 A19.out).mono ?_); (case side1 => first | exact HG.out | exact GV_below HG.out (by repeat (first | (with_reducible first | exact HB.out | apply below_alloc | apply pw_below_drewN | apply below_drew1) | exact HB.out))); rintro e w20 ⟨v356, rfl, ho0, hb⟩; have n0_ := Aside0.mk (Kd.R_below (by (with_reducible repeat (first | apply Kd.R_alloc | apply Kd.R_drewN | apply Kd.R_drew)); exact HO_4.out) hb); have n1_ := Aside0.mk (Kd.R_below (by (with_reducible repeat (first | apply Kd.R_alloc | apply Kd.R_drewN | apply Kd.R_drew)); exact HO_5.out) hb); have n2_ := Aside0.mk (Kd.R_lower ho0 (below_size (by repeat (first | (with_reducible first | exact HB.out | apply below_alloc | apply pw_below_drewN | apply below_drew1) | exact HB.out)))); have n3_ := Aside0.mk (below_step (by repeat (first | (with_reducible first | exact HB.out | apply below_alloc | apply pw_below_drewN | apply below_drew1) | exact HB.out)) hb); clear HO_4; clear HO_5; clear HB; have HO_4 := n0_; have HO_5 := n1_; have HO357 := n2_; have HB := n3_; clear n0_ n1_ n2_ n3_; (try clear hb); (try clear hb2); (try clear hk); (try clear hi); (try clear ho0)))
     repeat (go_quiet (first | (go_at_call 15; (with_reducible refine (impl_TextPieces.calls kj5 t347 t355 _ ?side1 A19.out).mono ?_); (case side1 => first | exact HG.out | exact GV_below HG.out (by repeat (first | (with_reducible first | exact HB.out | apply below_alloc | apply pw_below_drewN | apply below_drew1) | exact HB.out))); rintro e w20 ⟨v356, rfl, ho0, hb⟩; have n0_ := Aside0.mk (Kd.R_below (by (with_reducible repeat (first | apply Kd.R_alloc | apply Kd.R_drewN | apply Kd.R_drew)); exact HO_4.out) hb); have n1_ := Aside0.mk (Kd.R_below (by (with_reducible repeat (first | apply Kd.R_alloc | apply Kd.R_drewN | apply Kd.R_drew)); exact HO_5.out) hb); have n2_ := Aside0.mk (Kd.R_lower ho0 (below_size (by repeat (first | (with_reducible first | exact HB.out | apply below_alloc | apply pw_below_drewN | apply below_drew1) | exact HB.out)))); have n3_ := Aside0.mk (below_step (by repeat (first | (with_reducible first | exact HB.out | apply below_alloc | apply pw_below_drewN | apply below_drew1) | exact HB.out)) hb); clear HO_4; clear HO_5; clear HB; have HO_4 := n0_; have HO_5 := n1_; have HO357 := n2_; have HB := n3_; clear n0_ n1_ n2_ n3_; (try clear hb); (try clear hb2); (try clear hk); (try clear hi); (try clear ho0))); try go_wp2_with (first | (go_at_call 15; (with_reducible refine (impl_TextPieces.calls kj5 t347 t355 _ ?side1 A19.out).mono ?_); (case side1 => first | exact HG.out | exact GV_below HG.out (by repeat (first | (with_reducible first | exact HB.out | apply below_alloc | apply pw_below_drewN | apply below_drew1) | exact HB.out))); rintro e w20 ⟨v356, rfl, ho0, hb⟩; have n0_ := Aside0.mk (Kd.R_below (by (with_reducible repeat (first | apply Kd.R_alloc | apply Kd.R_drewN | apply Kd.R_drew)); exact HO_4.out) hb); have n1_ := Aside0.mk (Kd.R_below (by (with_reducible repeat (first | apply Kd.R_alloc | apply Kd.R_drewN | apply Kd.R_drew)); exact HO_5.out) hb); have n2_ := Aside0.mk (Kd.R_lower ho0 (below_size (by repeat (first | (with_reducible first | exact HB.out | apply below_alloc | apply pw_below_drewN | apply below_drew1) | exact HB.out)))); have n3_ := Aside0.mk (below_step (by repeat (first | (with_reducible first | exact HB.out | apply below_alloc | apply pw_below_drewN | apply below_drew1) | exact HB.out)) hb); clear HO_4; clear HO_5; clear HB; have HO_4 := n0_; have HO_5 := n1_; have HO357 := n2_; have HB := n3_; clear n0_ n1_ n2_ n3_; (try clear hb); (try clear hb2); (try clear hk); (try clear hi); (try clear ho0))))
     go_loopg [6, 8] kj5 (fun kq v6 v8 w' => ∃ (x6_2 : Int) (x8_2 : Int), v6 = .int .i64 x6_2 ∧ v8 = .int .i64 x8_2 ∧ Aside0 (laws_FnNames.l0 kq t347 t348 x6_2 t355 x8_2 = some r) ∧ Aside0 (kq ≤ kj5) ∧ Aside0 (Kd.R k32 32 w' w.heap.size (fun _ => True) v349 t348) ∧ Aside0 (Kd.R k34 34 w' w.heap.size (fun _ => True) v356 t355) ∧ Aside0 (Below w.heap.size w w'))
     case atStart => exact ⟨(0), (0), (by first | rfl | (simp; done) | (simp [*]; done)), (by first | rfl | (simp; done) | (simp [*]; done)), H', ⟨Nat.le_refl _⟩, ⟨by (with_reducible repeat (first | apply Kd.R_alloc | apply Kd.R_drewN | apply Kd.R_drew)); exact Kd.R_mono HO_4.out (fun _ hk => trivial)⟩, ⟨by (with_reducible repeat (first | apply Kd.R_alloc | apply Kd.R_drewN | apply Kd.R_drew)); exact HO357.out⟩, ⟨by repeat (first | (with_reducible first | exact HB.out | apply below_alloc | apply pw_below_drewN | apply below_drew1) | exact HB.out)⟩⟩
     case round =>
      clear H'
      try clear c1
      try clear c2
      try clear c2b0
      try clear c2b1
      try clear p2
      try clear c4
      try clear c10
      try clear c10b0
      try clear c10b1
      try clear c10b2
      try clear c16
      try clear p2
      obtain ⟨x6_2, x8_2, rfl, rfl, HA, HK2, HO_4, HO_7, HB⟩ := hrel
      cases gk with
      | zero => exact absurd HA.out (by simp [laws_FnNames.l0])
      | succ k2 =>
       have H := HA.out
       clear HA
       simp only [laws_FnNames.l0] at H
       by_cases c21 : x8_2 < (t355.length : Int)
       ·rw [if_pos c21] at H
        have c21b0 : decide (x8_2 < (t355.length : Int)) = true := decide_eq_true c21
        clear c21
        by_cases c22 : 0 ≤ x8_2
        ·rw [if_pos c22] at H
         have c22b0 : decide (0 ≤ x8_2) = true := decide_eq_true c22
         clear c22
         obtain ⟨bq23, hbq23⟩ : ∃ b_ : Bool, b_ = ((rd_T34 t355 x8_2).f1) := ⟨_, rfl⟩
         replace H : (if bq23 = true then (if x6_2 ≥ (t348.length : Int) then (some false) else (if 0 ≤ x6_2 then (if x6_2 < (t348.length : Int) then (if (!(((rd_T32 t348 x6_2).f0) == ((rd_T34 t355 x8_2).f2.f0)) || (!(((rd_T32 t348 x6_2).f1) == ((rd_T34 t355 x8_2).f2.f1)))) = true then (some false) else (laws_FnNames.l0 k2 t347 t348 (wrap64 (x6_2 + 1)) t355 (wrap64 (x8_2 + 1)))) else (none)) else (none))) else (laws_FnNames.l0 k2 t347 t348 x6_2 t355 (wrap64 (x8_2 + 1)))) = some r := by rw [← hbq23] at H; exact H
         have Nbq23 := Aside0.mk hbq23
         clear hbq23
         by_cases c24 : bq23 = true
         ·subst c24
          have H1 : (if x6_2 ≥ (t348.length : Int) then (some false) else (if 0 ≤ x6_2 then (if x6_2 < (t348.length : Int) then (if (!(((rd_T32 t348 x6_2).f0) == ((rd_T34 t355 x8_2).f2.f0)) || (!(((rd_T32 t348 x6_2).f1) == ((rd_T34 t355 x8_2).f2.f1)))) = true then (some false) else (laws_FnNames.l0 k2 t347 t348 (wrap64 (x6_2 + 1)) t355 (wrap64 (x8_2 + 1)))) else (none)) else (none))) = some r := by rw [if_pos rfl] at H; exact H
          clear H
          have H := H1
          clear H1
          by_cases c25 : x6_2 ≥ (t348.length : Int)
          ·rw [if_pos c25] at H
           have c25b0 : decide ((t348.length : Int) ≤ x6_2) = true := decide_eq_true c25
           clear c25
           obtain rfl := Option.some.inj H
           obtain ⟨Ao26, co26, eo26⟩ := Kd.R_slice HO_7.out
           subst eo26
           have p362 : 0 ≤ (x8_2 : Int) := of_decide_eq_true (by first | (with_reducible assumption) | assumption)
           have q362 : x8_2 < (t355.length : Int) := of_decide_eq_true (by first | (with_reducible assumption) | assumption)
           obtain ⟨ad362, e362, hx362_0, hx362_1, hx362_2, hx362_3⟩ := at_T34 (Kd.R_reads' HO_7.out).2.2 x8_2 p362 q362
           (try rw [← Nbq23.out] at hx362_1)
           cases e362
           replace p362 := eq_true p362
           replace q362 := eq_true q362
           obtain ⟨Ao27, co27, eo27⟩ := Kd.R_slice HO_4.out
           subst eo27
           go_wp2
           repeat (go_quiet (fail); try go_wp2)
           go_ret
           exact ⟨by first | rfl | (simp [errW_none, errW_some] <;> rfl) | (simp [*, errW_none, errW_some] <;> rfl) | (simp [errW_none, errW_some, pk_empty1, pk_empty2]; done) | (simp [*, errW_none, errW_some, pk_empty1, pk_empty2]; done), by repeat (first | (with_reducible first | exact HB.out | apply below_alloc | apply pw_below_drewN | apply below_drew1) | exact HB.out)⟩
          ·rw [if_neg c25] at H
           have c25b0 : decide ((t348.length : Int) ≤ x6_2) = false := decide_eq_false c25
           clear c25
           by_cases c28 : 0 ≤ x6_2
           ·rw [if_pos c28] at H
            have c28b0 : decide (0 ≤ x6_2) = true := decide_eq_true c28
            clear c28
            by_cases c29 : x6_2 < (t348.length : Int)
            ·rw [if_pos c29] at H
             have c29b0 : decide (x6_2 < (t348.length : Int)) = true := decide_eq_true c29
             clear c29
             by_cases c30 : (!(((rd_T32 t348 x6_2).f0) == ((rd_T34 t355 x8_2).f2.f0)) || (!(((rd_T32 t348 x6_2).f1) == ((rd_T34 t355 x8_2).f2.f1)))) = true
             ·rw [if_pos c30] at H
              have c30b0 : (!(((rd_T32 t348 x6_2).f0) == ((rd_T34 t355 x8_2).f2.f0)) || (!(((rd_T32 t348 x6_2).f1) == ((rd_T34 t355 x8_2).f2.f1)))) = true := c30
              clear c30
              obtain rfl := Option.some.inj H
              obtain ⟨Ao31, co31, eo31⟩ := Kd.R_slice HO_7.out
              subst eo31
              have p362 : 0 ≤ (x8_2 : Int) := of_decide_eq_true (by first | (with_reducible assumption) | assumption)
              have q362 : x8_2 < (t355.length : Int) := of_decide_eq_true (by first | (with_reducible assumption) | assumption)
              obtain ⟨ad362, e362, hx362_0, hx362_1, hx362_2, hx362_3⟩ := at_T34 (Kd.R_reads' HO_7.out).2.2 x8_2 p362 q362
              (try rw [← Nbq23.out] at hx362_1)
              cases e362
              replace p362 := eq_true p362
              replace q362 := eq_true q362
              obtain ⟨Ao32, co32, eo32⟩ := Kd.R_slice HO_4.out
              subst eo32
              have p363 : 0 ≤ (x6_2 : Int) := of_decide_eq_true (by first | (with_reducible assumption) | assumption)
              have q363 : x6_2 < (t348.length : Int) := of_decide_eq_true (by first | (with_reducible assumption) | assumption)
              obtain ⟨ad363, e363, hx363_0, hx363_1⟩ := at_T32 (Kd.R_reads' HO_4.out).2.2 x6_2 p363 q363
              cases e363
              replace p363 := eq_true p363
              replace q363 := eq_true q363
              have p364 : 0 ≤ (x8_2 : Int) := of_decide_eq_true (by first | (with_reducible assumption) | assumption)
              have q364 : x8_2 < (t355.length : Int) := of_decide_eq_true (by first | (with_reducible assumption) | assumption)
              obtain ⟨ad364, e364, hx364_0, hx364_1, hx364_2, hx364_3⟩ := at_T34 (Kd.R_reads' HO_7.out).2.2 x8_2 p364 q364
              (try rw [← Nbq23.out] at hx364_1)
              obtain rfl : ad362 = ad364 := (by injection e364)
              replace p364 := eq_true p364
              replace q364 := eq_true q364
              go_wp2
              repeat (go_quiet (fail); try go_wp2)
              go_ret
              exact ⟨by first | rfl | (simp [errW_none, errW_some] <;> rfl) | (simp [*, errW_none, errW_some] <;> rfl) | (simp [errW_none, errW_some, pk_empty1, pk_empty2]; done) | (simp [*, errW_none, errW_some, pk_empty1, pk_empty2]; done), by repeat (first | (with_reducible first | exact HB.out | apply below_alloc | apply pw_below_drewN | apply below_drew1) | exact HB.out)⟩
             ·rw [if_neg c30] at H
              have c30b0 : (!(((rd_T32 t348 x6_2).f0) == ((rd_T34 t355 x8_2).f2.f0)) || (!(((rd_T32 t348 x6_2).f1) == ((rd_T34 t355 x8_2).f2.f1)))) = false := by simpa using c30
              clear c30
              have H' := Aside0.mk H
              clear H
              obtain ⟨Ao33, co33, eo33⟩ := Kd.R_slice HO_7.out
              subst eo33
              have p362 : 0 ≤ (x8_2 : Int) := of_decide_eq_true (by first | (with_reducible assumption) | assumption)
              have q362 : x8_2 < (t355.length : Int) := of_decide_eq_true (by first | (with_reducible assumption) | assumption)
              obtain ⟨ad362, e362, hx362_0, hx362_1, hx362_2, hx362_3⟩ := at_T34 (Kd.R_reads' HO_7.out).2.2 x8_2 p362 q362
              (try rw [← Nbq23.out] at hx362_1)
              cases e362
              replace p362 := eq_true p362
              replace q362 := eq_true q362
              obtain ⟨Ao34, co34, eo34⟩ := Kd.R_slice HO_4.out
              subst eo34
              have p363 : 0 ≤ (x6_2 : Int) := of_decide_eq_true (by first | (with_reducible assumption) | assumption)
              have q363 : x6_2 < (t348.length : Int) := of_decide_eq_true (by first | (with_reducible assumption) | assumption)
              obtain ⟨ad363, e363, hx363_0, hx363_1⟩ := at_T32 (Kd.R_reads' HO_4.out).2.2 x6_2 p363 q363
              cases e363
              replace p363 := eq_true p363
              replace q363 := eq_true q363
              have p364 : 0 ≤ (x8_2 : Int) := of_decide_eq_true (by first | (with_reducible assumption) | assumption)
              have q364 : x8_2 < (t355.length : Int) := of_decide_eq_true (by first | (with_reducible assumption) | assumption)
              obtain ⟨ad364, e364, hx364_0, hx364_1, hx364_2, hx364_3⟩ := at_T34 (Kd.R_reads' HO_7.out).2.2 x8_2 p364 q364
              (try rw [← Nbq23.out] at hx364_1)
              obtain rfl : ad362 = ad364 := (by injection e364)
              replace p364 := eq_true p364
              replace q364 := eq_true q364
              go_wp2
              repeat (go_quiet (fail); try go_wp2)
              go_roundg k2
              case measure => have := HJ5.out; have := HK2.out; omega
              case rel => exact ⟨(wrap64 (x6_2 + 1)), (wrap64 (x8_2 + 1)), (by first | rfl | (simp; done) | (simp [*]; done)), (by first | rfl | (simp; done) | (simp [*]; done)), H', ⟨by have := HJ5.out; have := HK2.out; omega⟩, ⟨by (with_reducible repeat (first | apply Kd.R_alloc | apply Kd.R_drewN | apply Kd.R_drew)); exact HO_4.out⟩, ⟨by (with_reducible repeat (first | apply Kd.R_alloc | apply Kd.R_drewN | apply Kd.R_drew)); exact HO_7.out⟩, ⟨by repeat (first | (with_reducible first | exact HB.out | apply below_alloc | apply pw_below_drewN | apply below_drew1) | exact HB.out)⟩⟩
            ·rw [if_neg c29] at H
             exact absurd H (by simp)
           ·rw [if_neg c28] at H
            exact absurd H (by simp)
         ·replace c24 := Bool.eq_false_iff.mpr c24
          subst c24
          have H1 : (laws_FnNames.l0 k2 t347 t348 x6_2 t355 (wrap64 (x8_2 + 1))) = some r := by rw [if_neg (show ¬ (false = true) by decide)] at H; exact H
          clear H
          have H := H1
          clear H1
          have H' := Aside0.mk H
          clear H
          obtain ⟨Ao35, co35, eo35⟩ := Kd.R_slice HO_7.out
          subst eo35
          have p362 : 0 ≤ (x8_2 : Int) := of_decide_eq_true (by first | (with_reducible assumption) | assumption)
          have q362 : x8_2 < (t355.length : Int) := of_decide_eq_true (by first | (with_reducible assumption) | assumption)
          obtain ⟨ad362, e362, hx362_0, hx362_1, hx362_2, hx362_3⟩ := at_T34 (Kd.R_reads' HO_7.out).2.2 x8_2 p362 q362
          (try rw [← Nbq23.out] at hx362_1)
          cases e362
          replace p362 := eq_true p362
          replace q362 := eq_true q362
          go_wp2
          repeat (go_quiet (fail); try go_wp2)
          go_roundg k2
          case measure => have := HJ5.out; have := HK2.out; omega
          case rel => exact ⟨(x6_2), (wrap64 (x8_2 + 1)), (by first | rfl | (simp; done) | (simp [*]; done)), (by first | rfl | (simp; done) | (simp [*]; done)), H', ⟨by have := HJ5.out; have := HK2.out; omega⟩, ⟨by (with_reducible repeat (first | apply Kd.R_alloc | apply Kd.R_drewN | apply Kd.R_drew)); exact HO_4.out⟩, ⟨by (with_reducible repeat (first | apply Kd.R_alloc | apply Kd.R_drewN | apply Kd.R_drew)); exact HO_7.out⟩, ⟨by repeat (first | (with_reducible first | exact HB.out | apply below_alloc | apply pw_below_drewN | apply below_drew1) | exact HB.out)⟩⟩
        ·rw [if_neg c22] at H
         exact absurd H (by simp)
       ·rw [if_neg c21] at H
        have c21b0 : decide (x8_2 < (t355.length : Int)) = false := decide_eq_false c21
        clear c21
        by_cases c36 : (wrap64 ((t347.size : Int) + 5)) > 40
        ·rw [if_pos c36] at H
         have c36b0 : decide (40 < (wrap64 ((t347.size : Int) + 5))) = true := decide_eq_true c36
         clear c36
         obtain rfl := Option.some.inj H
         obtain ⟨Ao37, co37, eo37⟩ := Kd.R_slice HO_7.out
         subst eo37
         obtain ⟨Ao38, co38, eo38⟩ := Kd.R_slice HO_4.out
         subst eo38
         go_wp2
         repeat (go_quiet (fail); try go_wp2)
         go_ret
         exact ⟨by first | rfl | (simp [errW_none, errW_some] <;> rfl) | (simp [*, errW_none, errW_some] <;> rfl) | (simp [errW_none, errW_some, pk_empty1, pk_empty2]; done) | (simp [*, errW_none, errW_some, pk_empty1, pk_empty2]; done), by repeat (first | (with_reducible first | exact HB.out | apply below_alloc | apply pw_below_drewN | apply below_drew1) | exact HB.out)⟩
        ·rw [if_neg c36] at H
         have c36b0 : decide (40 < (wrap64 ((t347.size : Int) + 5))) = false := decide_eq_false c36
         clear c36
         by_cases c39 : t347.size + 5 ≤ 9223372036854775807
         ·rw [if_pos c39] at H
          have c39b0 := eq_true c39
          have c39b1 : decide (t347.size + 5 ≤ 9223372036854775807) = true := decide_eq_true c39
          try have c39b2 : (9223372036854775807 < t347.size + 5) = False := eq_false (Nat.not_lt.2 c39)
          clear c39
          replace H := Option.bind_eq_some_iff.mp H
          obtain ⟨t358, A400, H⟩ := H
          replace H : (if x6_2 = (t348.length : Int) then (if (t358.length : Int) = (wrap64 (x6_2 + 1)) then (if 0 ≤ x6_2 then (if x6_2 < (t358.length : Int) then (some (((rd_T32 t358 x6_2).f0) == 2 && (((rd_T32 t358 x6_2).f1) == 3))) else (none)) else (none)) else (some false)) else (some false)) = some r := H
          have A40 := Aside0.mk A400
          clear A400
          by_cases c41 : x6_2 = (t348.length : Int)
          ·rw [if_pos c41] at H
           have c41b0 : (x6_2 == (t348.length : Int)) = true := beq_iff_eq.mpr c41
           have c41b1 : (x6_2 != (t348.length : Int)) = false := bne_eq_false_iff_eq.mpr c41
           clear c41
           by_cases c42 : (t358.length : Int) = (wrap64 (x6_2 + 1))
           ·rw [if_pos c42] at H
            have c42b0 : ((t358.length : Int) == (wrap64 (x6_2 + 1))) = true := beq_iff_eq.mpr c42
            have c42b1 : ((t358.length : Int) != (wrap64 (x6_2 + 1))) = false := bne_eq_false_iff_eq.mpr c42
            clear c42
            by_cases c43 : 0 ≤ x6_2
            ·rw [if_pos c43] at H
             have c43b0 : decide (0 ≤ x6_2) = true := decide_eq_true c43
             clear c43
             by_cases c44 : x6_2 < (t358.length : Int)
             ·rw [if_pos c44] at H
              have c44b0 : decide (x6_2 < (t358.length : Int)) = true := decide_eq_true c44
              clear c44
              obtain rfl := Option.some.inj H
              obtain ⟨Ao45, co45, eo45⟩ := Kd.R_slice HO_7.out
              subst eo45
              go_wp2_with (first | (go_at_call 20; (with_reducible refine (impl_TextNames.calls k2 (t347 ++ (⟨#[64, 50, 58, 51, 59]⟩ : ByteArray)) t358 _ ?side1 A40.out).mono ?_); (case side1 => first | exact HG.out | exact GV_below HG.out (by repeat (first | (with_reducible first | exact HB.out | apply below_alloc | apply pw_below_drewN | apply below_drew1) | exact HB.out))); rintro e w46 ⟨v359, rfl, ho0, hb⟩; have n0_ := Aside0.mk (Kd.R_elder' (by (with_reducible repeat (first | apply Kd.R_alloc | apply Kd.R_drewN | apply Kd.R_drew)); exact HO_4.out) (Kd.R_base ho0) hb); have n1_ := Aside0.mk (Kd.R_below (by (with_reducible repeat (first | apply Kd.R_alloc | apply Kd.R_drewN | apply Kd.R_drew)); exact HO_7.out) hb); have n2_ := Aside0.mk (Kd.R_lower (Kd.R_new' ho0 (Kd.R_lt (by (with_reducible repeat (first | apply Kd.R_alloc | apply Kd.R_drewN | apply Kd.R_drew)); exact HO_4.out))) (below_size (by repeat (first | (with_reducible first | exact HB.out | apply below_alloc | apply pw_below_drewN | apply below_drew1) | exact HB.out)))); have n3_ := Aside0.mk (below_step (by repeat (first | (with_reducible first | exact HB.out | apply below_alloc | apply pw_below_drewN | apply below_drew1) | exact HB.out)) hb); clear HO_4; clear HO_7; clear HB; have HO_4 := n0_; have HO_7 := n1_; have HO360 := n2_; have HB := n3_; clear n0_ n1_ n2_ n3_; (try clear hb); (try clear hb2); (try clear hk); (try clear hi); (try clear ho0); obtain ⟨Ao47, co47, eo47⟩ := Kd.R_slice HO_4.out; subst eo47; obtain ⟨Ao48, co48, eo48⟩ := Kd.R_slice HO360.out; subst eo48; have p361 : 0 ≤ (x6_2 : Int) := of_decide_eq_true (by first | (with_reducible assumption) | assumption); have q361 : x6_2 < (t358.length : Int) := of_decide_eq_true (by first | (with_reducible assumption) | assumption); obtain ⟨ad361, e361, hx361_0, hx361_1⟩ := at_T32 (Kd.R_reads' HO360.out).2.2 x6_2 p361 q361; cases e361; replace p361 := eq_true p361; replace q361 := eq_true q361))
              repeat (go_quiet (first | (go_at_call 20; (with_reducible refine (impl_TextNames.calls k2 (t347 ++ (⟨#[64, 50, 58, 51, 59]⟩ : ByteArray)) t358 _ ?side1 A40.out).mono ?_); (case side1 => first | exact HG.out | exact GV_below HG.out (by repeat (first | (with_reducible first | exact HB.out | apply below_alloc | apply pw_below_drewN | apply below_drew1) | exact HB.out))); rintro e w46 ⟨v359, rfl, ho0, hb⟩; have n0_ := Aside0.mk (Kd.R_elder' (by (with_reducible repeat (first | apply Kd.R_alloc | apply Kd.R_drewN | apply Kd.R_drew)); exact HO_4.out) (Kd.R_base ho0) hb); have n1_ := Aside0.mk (Kd.R_below (by (with_reducible repeat (first | apply Kd.R_alloc | apply Kd.R_drewN | apply Kd.R_drew)); exact HO_7.out) hb); have n2_ := Aside0.mk (Kd.R_lower (Kd.R_new' ho0 (Kd.R_lt (by (with_reducible repeat (first | apply Kd.R_alloc | apply Kd.R_drewN | apply Kd.R_drew)); exact HO_4.out))) (below_size (by repeat (first | (with_reducible first | exact HB.out | apply below_alloc | apply pw_below_drewN | apply below_drew1) | exact HB.out)))); have n3_ := Aside0.mk (below_step (by repeat (first | (with_reducible first | exact HB.out | apply below_alloc | apply pw_below_drewN | apply below_drew1) | exact HB.out)) hb); clear HO_4; clear HO_7; clear HB; have HO_4 := n0_; have HO_7 := n1_; have HO360 := n2_; have HB := n3_; clear n0_ n1_ n2_ n3_; (try clear hb); (try clear hb2); (try clear hk); (try clear hi); (try clear ho0); obtain ⟨Ao47, co47, eo47⟩ := Kd.R_slice HO_4.out; subst eo47; obtain ⟨Ao48, co48, eo48⟩ := Kd.R_slice HO360.out; subst eo48; have p361 : 0 ≤ (x6_2 : Int) := of_decide_eq_true (by first | (with_reducible assumption) | assumption); have q361 : x6_2 < (t358.length : Int) := of_decide_eq_true (by first | (with_reducible assumption) | assumption); obtain ⟨ad361, e361, hx361_0, hx361_1⟩ := at_T32 (Kd.R_reads' HO360.out).2.2 x6_2 p361 q361; cases e361; replace p361 := eq_true p361; replace q361 := eq_true q361)); try go_wp2_with (first | (go_at_call 20; (with_reducible refine (impl_TextNames.calls k2 (t347 ++ (⟨#[64, 50, 58, 51, 59]⟩ : ByteArray)) t358 _ ?side1 A40.out).mono ?_); (case side1 => first | exact HG.out | exact GV_below HG.out (by repeat (first | (with_reducible first | exact HB.out | apply below_alloc | apply pw_below_drewN | apply below_drew1) | exact HB.out))); rintro e w46 ⟨v359, rfl, ho0, hb⟩; have n0_ := Aside0.mk (Kd.R_elder' (by (with_reducible repeat (first | apply Kd.R_alloc | apply Kd.R_drewN | apply Kd.R_drew)); exact HO_4.out) (Kd.R_base ho0) hb); have n1_ := Aside0.mk (Kd.R_below (by (with_reducible repeat (first | apply Kd.R_alloc | apply Kd.R_drewN | apply Kd.R_drew)); exact HO_7.out) hb); have n2_ := Aside0.mk (Kd.R_lower (Kd.R_new' ho0 (Kd.R_lt (by (with_reducible repeat (first | apply Kd.R_alloc | apply Kd.R_drewN | apply Kd.R_drew)); exact HO_4.out))) (below_size (by repeat (first | (with_reducible first | exact HB.out | apply below_alloc | apply pw_below_drewN | apply below_drew1) | exact HB.out)))); have n3_ := Aside0.mk (below_step (by repeat (first | (with_reducible first | exact HB.out | apply below_alloc | apply pw_below_drewN | apply below_drew1) | exact HB.out)) hb); clear HO_4; clear HO_7; clear HB; have HO_4 := n0_; have HO_7 := n1_; have HO360 := n2_; have HB := n3_; clear n0_ n1_ n2_ n3_; (try clear hb); (try clear hb2); (try clear hk); (try clear hi); (try clear ho0); obtain ⟨Ao47, co47, eo47⟩ := Kd.R_slice HO_4.out; subst eo47; obtain ⟨Ao48, co48, eo48⟩ := Kd.R_slice HO360.out; subst eo48; have p361 : 0 ≤ (x6_2 : Int) := of_decide_eq_true (by first | (with_reducible assumption) | assumption); have q361 : x6_2 < (t358.length : Int) := of_decide_eq_true (by first | (with_reducible assumption) | assumption); obtain ⟨ad361, e361, hx361_0, hx361_1⟩ := at_T32 (Kd.R_reads' HO360.out).2.2 x6_2 p361 q361; cases e361; replace p361 := eq_true p361; replace q361 := eq_true q361)))
              go_ret
              exact ⟨by first | rfl | (simp [errW_none, errW_some] <;> rfl) | (simp [*, errW_none, errW_some] <;> rfl) | (simp [errW_none, errW_some, pk_empty1, pk_empty2]; done) | (simp [*, errW_none, errW_some, pk_empty1, pk_empty2]; done), by repeat (first | (with_reducible first | exact HB.out | apply below_alloc | apply pw_below_drewN | apply below_drew1) | exact HB.out)⟩
             ·rw [if_neg c44] at H
              exact absurd H (by simp)
            ·rw [if_neg c43] at H
             exact absurd H (by simp)
           ·rw [if_neg c42] at H
            have c42b0 : ((t358.length : Int) == (wrap64 (x6_2 + 1))) = false := beq_eq_false_iff_ne.mpr c42
            have c42b1 : ((t358.length : Int) != (wrap64 (x6_2 + 1))) = true := bne_iff_ne.mpr c42
            obtain rfl := Option.some.inj H
            obtain ⟨Ao49, co49, eo49⟩ := Kd.R_slice HO_7.out
            subst eo49
            go_wp2_with (first | (go_at_call 20; (with_reducible refine (impl_TextNames.calls k2 (t347 ++ (⟨#[64, 50, 58, 51, 59]⟩ : ByteArray)) t358 _ ?side1 A40.out).mono ?_); (case side1 => first | exact HG.out | exact GV_below HG.out (by repeat (first | (with_reducible first | exact HB.out | apply below_alloc | apply pw_below_drewN | apply below_drew1) | exact HB.out))); rintro e w50 ⟨v359, rfl, ho0, hb⟩; have n0_ := Aside0.mk (Kd.R_elder' (by (with_reducible repeat (first | apply Kd.R_alloc | apply Kd.R_drewN | apply Kd.R_drew)); exact HO_4.out) (Kd.R_base ho0) hb); have n1_ := Aside0.mk (Kd.R_below (by (with_reducible repeat (first | apply Kd.R_alloc | apply Kd.R_drewN | apply Kd.R_drew)); exact HO_7.out) hb); have n2_ := Aside0.mk (Kd.R_lower (Kd.R_new' ho0 (Kd.R_lt (by (with_reducible repeat (first | apply Kd.R_alloc | apply Kd.R_drewN | apply Kd.R_drew)); exact HO_4.out))) (below_size (by repeat (first | (with_reducible first | exact HB.out | apply below_alloc | apply pw_below_drewN | apply below_drew1) | exact HB.out)))); have n3_ := Aside0.mk (below_step (by repeat (first | (with_reducible first | exact HB.out | apply below_alloc | apply pw_below_drewN | apply below_drew1) | exact HB.out)) hb); clear HO_4; clear HO_7; clear HB; have HO_4 := n0_; have HO_7 := n1_; have HO360 := n2_; have HB := n3_; clear n0_ n1_ n2_ n3_; (try clear hb); (try clear hb2); (try clear hk); (try clear hi); (try clear ho0); obtain ⟨Ao51, co51, eo51⟩ := Kd.R_slice HO_4.out; subst eo51; obtain ⟨Ao52, co52, eo52⟩ := Kd.R_slice HO360.out; subst eo52))
            repeat (go_quiet (first | (go_at_call 20; (with_reducible refine (impl_TextNames.calls k2 (t347 ++ (⟨#[64, 50, 58, 51, 59]⟩ : ByteArray)) t358 _ ?side1 A40.out).mono ?_); (case side1 => first | exact HG.out | exact GV_below HG.out (by repeat (first | (with_reducible first | exact HB.out | apply below_alloc | apply pw_below_drewN | apply below_drew1) | exact HB.out))); rintro e w50 ⟨v359, rfl, ho0, hb⟩; have n0_ := Aside0.mk (Kd.R_elder' (by (with_reducible repeat (first | apply Kd.R_alloc | apply Kd.R_drewN | apply Kd.R_drew)); exact HO_4.out) (Kd.R_base ho0) hb); have n1_ := Aside0.mk (Kd.R_below (by (with_reducible repeat (first | apply Kd.R_alloc | apply Kd.R_drewN | apply Kd.R_drew)); exact HO_7.out) hb); have n2_ := Aside0.mk (Kd.R_lower (Kd.R_new' ho0 (Kd.R_lt (by (with_reducible repeat (first | apply Kd.R_alloc | apply Kd.R_drewN | apply Kd.R_drew)); exact HO_4.out))) (below_size (by repeat (first | (with_reducible first | exact HB.out | apply below_alloc | apply pw_below_drewN | apply below_drew1) | exact HB.out)))); have n3_ := Aside0.mk (below_step (by repeat (first | (with_reducible first | exact HB.out | apply below_alloc | apply pw_below_drewN | apply below_drew1) | exact HB.out)) hb); clear HO_4; clear HO_7; clear HB; have HO_4 := n0_; have HO_7 := n1_; have HO360 := n2_; have HB := n3_; clear n0_ n1_ n2_ n3_; (try clear hb); (try clear hb2); (try clear hk); (try clear hi); (try clear ho0); obtain ⟨Ao51, co51, eo51⟩ := Kd.R_slice HO_4.out; subst eo51; obtain ⟨Ao52, co52, eo52⟩ := Kd.R_slice HO360.out; subst eo52)); try go_wp2_with (first | (go_at_call 20; (with_reducible refine (impl_TextNames.calls k2 (t347 ++ (⟨#[64, 50, 58, 51, 59]⟩ : ByteArray)) t358 _ ?side1 A40.out).mono ?_); (case side1 => first | exact HG.out | exact GV_below HG.out (by repeat (first | (with_reducible first | exact HB.out | apply below_alloc | apply pw_below_drewN | apply below_drew1) | exact HB.out))); rintro e w50 ⟨v359, rfl, ho0, hb⟩; have n0_ := Aside0.mk (Kd.R_elder' (by (with_reducible repeat (first | apply Kd.R_alloc | apply Kd.R_drewN | apply Kd.R_drew)); exact HO_4.out) (Kd.R_base ho0) hb); have n1_ := Aside0.mk (Kd.R_below (by (with_reducible repeat (first | apply Kd.R_alloc | apply Kd.R_drewN | apply Kd.R_drew)); exact HO_7.out) hb); have n2_ := Aside0.mk (Kd.R_lower (Kd.R_new' ho0 (Kd.R_lt (by (with_reducible repeat (first | apply Kd.R_alloc | apply Kd.R_drewN | apply Kd.R_drew)); exact HO_4.out))) (below_size (by repeat (first | (with_reducible first | exact HB.out | apply below_alloc | apply pw_below_drewN | apply below_drew1) | exact HB.out)))); have n3_ := Aside0.mk (below_step (by repeat (first | (with_reducible first | exact HB.out | apply below_alloc | apply pw_below_drewN | apply below_drew1) | exact HB.out)) hb); clear HO_4; clear HO_7; clear HB; have HO_4 := n0_; have HO_7 := n1_; have HO360 := n2_; have HB := n3_; clear n0_ n1_ n2_ n3_; (try clear hb); (try clear hb2); (try clear hk); (try clear hi); (try clear ho0); obtain ⟨Ao51, co51, eo51⟩ := Kd.R_slice HO_4.out; subst eo51; obtain ⟨Ao52, co52, eo52⟩ := Kd.R_slice HO360.out; subst eo52)))
            go_ret
            exact ⟨by first | rfl | (simp [errW_none, errW_some] <;> rfl) | (simp [*, errW_none, errW_some] <;> rfl) | (simp [errW_none, errW_some, pk_empty1, pk_empty2]; done) | (simp [*, errW_none, errW_some, pk_empty1, pk_empty2]; done), by repeat (first | (with_reducible first | exact HB.out | apply below_alloc | apply pw_below_drewN | apply below_drew1) | exact HB.out)⟩
          ·rw [if_neg c41] at H
           have c41b0 : (x6_2 == (t348.length : Int)) = false := beq_eq_false_iff_ne.mpr c41
           have c41b1 : (x6_2 != (t348.length : Int)) = true := bne_iff_ne.mpr c41
           obtain rfl := Option.some.inj H
           obtain ⟨Ao53, co53, eo53⟩ := Kd.R_slice HO_7.out
           subst eo53
           go_wp2_with (first | (go_at_call 20; (with_reducible refine (impl_TextNames.calls k2 (t347 ++ (⟨#[64, 50, 58, 51, 59]⟩ : ByteArray)) t358 _ ?side1 A40.out).mono ?_); (case side1 => first | exact HG.out | exact GV_below HG.out (by repeat (first | (with_reducible first | exact HB.out | apply below_alloc | apply pw_below_drewN | apply below_drew1) | exact HB.out))); rintro e w54 ⟨v359, rfl, ho0, hb⟩; have n0_ := Aside0.mk (Kd.R_elder' (by (with_reducible repeat (first | apply Kd.R_alloc | apply Kd.R_drewN | apply Kd.R_drew)); exact HO_4.out) (Kd.R_base ho0) hb); have n1_ := Aside0.mk (Kd.R_below (by (with_reducible repeat (first | apply Kd.R_alloc | apply Kd.R_drewN | apply Kd.R_drew)); exact HO_7.out) hb); have n2_ := Aside0.mk (Kd.R_lower (Kd.R_new' ho0 (Kd.R_lt (by (with_reducible repeat (first | apply Kd.R_alloc | apply Kd.R_drewN | apply Kd.R_drew)); exact HO_4.out))) (below_size (by repeat (first | (with_reducible first | exact HB.out | apply below_alloc | apply pw_below_drewN | apply below_drew1) | exact HB.out)))); have n3_ := Aside0.mk (below_step (by repeat (first | (with_reducible first | exact HB.out | apply below_alloc | apply pw_below_drewN | apply below_drew1) | exact HB.out)) hb); clear HO_4; clear HO_7; clear HB; have HO_4 := n0_; have HO_7 := n1_; have HO360 := n2_; have HB := n3_; clear n0_ n1_ n2_ n3_; (try clear hb); (try clear hb2); (try clear hk); (try clear hi); (try clear ho0); obtain ⟨Ao55, co55, eo55⟩ := Kd.R_slice HO_4.out; subst eo55))
           repeat (go_quiet (first | (go_at_call 20; (with_reducible refine (impl_TextNames.calls k2 (t347 ++ (⟨#[64, 50, 58, 51, 59]⟩ : ByteArray)) t358 _ ?side1 A40.out).mono ?_); (case side1 => first | exact HG.out | exact GV_below HG.out (by repeat (first | (with_reducible first | exact HB.out | apply below_alloc | apply pw_below_drewN | apply below_drew1) | exact HB.out))); rintro e w54 ⟨v359, rfl, ho0, hb⟩; have n0_ := Aside0.mk (Kd.R_elder' (by (with_reducible repeat (first | apply Kd.R_alloc | apply Kd.R_drewN | apply Kd.R_drew)); exact HO_4.out) (Kd.R_base ho0) hb); have n1_ := Aside0.mk (Kd.R_below (by (with_reducible repeat (first | apply Kd.R_alloc | apply Kd.R_drewN | apply Kd.R_drew)); exact HO_7.out) hb); have n2_ := Aside0.mk (Kd.R_lower (Kd.R_new' ho0 (Kd.R_lt (by (with_reducible repeat (first | apply Kd.R_alloc | apply Kd.R_drewN | apply Kd.R_drew)); exact HO_4.out))) (below_size (by repeat (first | (with_reducible first | exact HB.out | apply below_alloc | apply pw_below_drewN | apply below_drew1) | exact HB.out)))); have n3_ := Aside0.mk (below_step (by repeat (first | (with_reducible first | exact HB.out | apply below_alloc | apply pw_below_drewN | apply below_drew1) | exact HB.out)) hb); clear HO_4; clear HO_7; clear HB; have HO_4 := n0_; have HO_7 := n1_; have HO360 := n2_; have HB := n3_; clear n0_ n1_ n2_ n3_; (try clear hb); (try clear hb2); (try clear hk); (try clear hi); (try clear ho0); obtain ⟨Ao55, co55, eo55⟩ := Kd.R_slice HO_4.out; subst eo55)); try go_wp2_with (first | (go_at_call 20; (with_reducible refine (impl_TextNames.calls k2 (t347 ++ (⟨#[64, 50, 58, 51, 59]⟩ : ByteArray)) t358 _ ?side1 A40.out).mono ?_); (case side1 => first | exact HG.out | exact GV_below HG.out (by repeat (first | (with_reducible first | exact HB.out | apply below_alloc | apply pw_below_drewN | apply below_drew1) | exact HB.out))); rintro e w54 ⟨v359, rfl, ho0, hb⟩; have n0_ := Aside0.mk (Kd.R_elder' (by (with_reducible repeat (first | apply Kd.R_alloc | apply Kd.R_drewN | apply Kd.R_drew)); exact HO_4.out) (Kd.R_base ho0) hb); have n1_ := Aside0.mk (Kd.R_below (by (with_reducible repeat (first | apply Kd.R_alloc | apply Kd.R_drewN | apply Kd.R_drew)); exact HO_7.out) hb); have n2_ := Aside0.mk (Kd.R_lower (Kd.R_new' ho0 (Kd.R_lt (by (with_reducible repeat (first | apply Kd.R_alloc | apply Kd.R_drewN | apply Kd.R_drew)); exact HO_4.out))) (below_size (by repeat (first | (with_reducible first | exact HB.out | apply below_alloc | apply pw_below_drewN | apply below_drew1) | exact HB.out)))); have n3_ := Aside0.mk (below_step (by repeat (first | (with_reducible first | exact HB.out | apply below_alloc | apply pw_below_drewN | apply below_drew1) | exact HB.out)) hb); clear HO_4; clear HO_7; clear HB; have HO_4 := n0_; have HO_7 := n1_; have HO360 := n2_; have HB := n3_; clear n0_ n1_ n2_ n3_; (try clear hb); (try clear hb2); (try clear hk); (try clear hi); (try clear ho0); obtain ⟨Ao55, co55, eo55⟩ := Kd.R_slice HO_4.out; subst eo55)))
           go_ret
           exact ⟨by first | rfl | (simp [errW_none, errW_some] <;> rfl) | (simp [*, errW_none, errW_some] <;> rfl) | (simp [errW_none, errW_some, pk_empty1, pk_empty2]; done) | (simp [*, errW_none, errW_some, pk_empty1, pk_empty2]; done), by repeat (first | (with_reducible first | exact HB.out | apply below_alloc | apply pw_below_drewN | apply below_drew1) | exact HB.out)⟩
         ·rw [if_neg c39] at H
          exact absurd H (by simp)

/-- THE ONE PURE STATEMENT of laws_FnNames: yours. -/
def laws_FnNames.Pure : Prop := ∀ (l0 : List Int), l0.length ≤ maxLen → l0.length * 1 ≤ 140737488351232 → (∀ x ∈ l0, (Lit.int .u8 x).wf = true) → ∃ k, laws_FnNames.f k l0 = some true
theorem laws_FnNames.walk (P : laws_FnNames.Pure) (a0 : Option Addr) (len0 cap0 : Nat) (z0 : List Int) (w : World) (hG : GV w) (w0 : (a0 = none ∧ len0 = 0 ∧ cap0 = 0 ∧ z0 = []) ∨ ∃ x, a0 = some x ∧ len0 ≤ cap0 ∧ cap0 ≤ maxLen ∧ z0.length = cap0 ∧ (∀ i, i < z0.length → w.cell? (x.add i) = some (.int .u8 (z0.getD i 0))) ∧ ∀ n ∈ z0, (Lit.int .u8 n).wf = true) (y0 : len0 * 1 ≤ 140737488351232) :
  Calls Tryd.prog 4 #[.slice a0 len0 cap0] w fun e w' => e = .returned (.bool true) ∧ Below w.heap.size w w' := by
 obtain ⟨l0, rfl, hr0, hm0, hw0, hc0⟩ := ReadsInt.ofRowC w0
 obtain ⟨k, h⟩ := P l0 hm0 y0 hw0
 refine (laws_FnNames.calls k _ _ l0 true w (Kd.C_of_reads (d := (0 : Int)) (h1 := fun _ => rfl) hr0) hc0 hG h).mono ?_
 rintro e w' ⟨rfl, hd⟩
 exact ⟨rfl, hd⟩

end Go.Proofs.YtclhmoghkcnkmaaDoor.A
