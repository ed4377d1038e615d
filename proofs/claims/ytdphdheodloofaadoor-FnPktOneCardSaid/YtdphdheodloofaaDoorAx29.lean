-- Printed by myprint.py (wip/tools) out of the translation. Not trusted: Lean checks it.
import Derived.Test.YtdphdheodloofaaDoorAx0
import Derived.Test.YtdphdheodloofaaDoorAx2
import Derived.Test.YtdphdheodloofaaDoorAx5
import Derived.Test.YtdphdheodloofaaDoorAx17
import Derived.Test.YtdphdheodloofaaDoorAx18
import Derived.Test.YtdphdheodloofaaDoorAx19
namespace Go.Proofs.YtdphdheodloofaaDoor.A
open Go.RowKit Go.Proofs.YtdphdheodloofaaDoorW.PrintWords Go.Proofs.YtdphdheodloofaaDoorW.PrintLast Go.Proofs.YtdphdheodloofaaDoorW.PrintMore
attribute [local go_sem] max2_int min2_int max_two min_two max_three min_three max_four min_four   -- for this text's walks alone
set_option linter.unusedVariables false
set_option linter.unusedSimpArgs false

attribute [local go_sem high] eqA35
/-! ### spec_DrawPktText: function 32 -/
def spec_DrawPktText.f (k : Nat) (l0 : List Int) : Option (Int × Int × Int × Int × Int × Int × ByteArray) := (spec_l6Open.f l0).bind fun bt354 => ((spec_l71Pkt.f k bt354.1 bt354.2).bind fun bt357 => (some (bt357.1, bt357.2.1, bt357.2.2.1, bt357.2.2.2.1, bt357.2.2.2.2.1, bt357.2.2.2.2.2.1, bt357.2.2.2.2.2.2.1)))
theorem spec_DrawPktText.mono : ∀ a0 k, LeO (spec_DrawPktText.f k a0) (spec_DrawPktText.f (k + 1) a0) := by
  intro a0 k
  unfold spec_DrawPktText.f
  repeat' first
      | (with_reducible exact spec_l71Pkt.mono _ _ _)
      | (with_reducible exact LeO.refl _)
      | (with_reducible exact LeO.none _)
      | (with_reducible refine LeO.ite ?_ ?_)
      | (with_reducible refine LeO.bind ?_ (fun _ => ?_))
      | exact spec_l71Pkt.mono _ _ _
      | exact LeO.none _
      | refine LeO.ite ?_ ?_
      | refine LeO.bind ?_ (fun _ => ?_)
set_option maxHeartbeats 8000000 in
set_option maxRecDepth 100000 in
theorem spec_DrawPktText.calls (k : Nat) (A0 : Option Addr) (c0 : Nat) (l0 : List Int) (r1 : Int) (r2 : Int) (r3 : Int) (r4 : Int) (r5 : Int) (r6 : Int) (r7 : ByteArray) (w : World) (hr0 : Kd.C (Kd.int .u8) w A0 l0.length l0) (hc0 : l0.length ≤ c0) (h : spec_DrawPktText.f k l0 = some (r1, r2, r3, r4, r5, r6, r7)) :
    Calls Tryd.prog 32 #[.slice A0 l0.length c0] w fun e w' => e = .returned (.agg #[.int .i64 r1, .int .i64 r2, .int .i64 r3, .int .i64 r4, .int .i64 r5, .int .i64 r6, .string r7]) ∧ Below w.heap.size w w' := by
  have hu35 := Tryd.underlying35
  have HR0 := Aside0.mk hr0
  have HC0 := Aside0.mk hc0
  clear hr0 hc0
  have HB := Aside0.mk (Below.refl w.heap.size w)
  have H : ((spec_l6Open.f l0).bind fun bt354 => ((spec_l71Pkt.f k bt354.1 bt354.2).bind fun bt357 => (some (bt357.1, bt357.2.1, bt357.2.2.1, bt357.2.2.2.1, bt357.2.2.2.2.1, bt357.2.2.2.2.2.1, bt357.2.2.2.2.2.2.1)))) = some (r1, r2, r3, r4, r5, r6, r7) := h
  clear h
  replace H := Option.bind_eq_some_iff.mp H
  obtain ⟨⟨t354, t355⟩, A20, H⟩ := H
  replace H : ((spec_l71Pkt.f k t354 t355).bind fun bt357 => (some (bt357.1, bt357.2.1, bt357.2.2.1, bt357.2.2.2.1, bt357.2.2.2.2.1, bt357.2.2.2.2.2.1, bt357.2.2.2.2.2.2.1))) = some (r1, r2, r3, r4, r5, r6, r7) := H
  have A2 := Aside0.mk A20
  clear A20
  replace H := Option.bind_eq_some_iff.mp H
  obtain ⟨⟨t357, t358, t359, t360, t361, t362, t363, t364⟩, A30, H⟩ := H
  replace H : (some (t357, t358, t359, t360, t361, t362, t363)) = some (r1, r2, r3, r4, r5, r6, r7) := H
  have A3 := Aside0.mk A30
  clear A30
  simp only [Option.some.injEq, Prod.mk.injEq] at H
  obtain ⟨rfl, rfl, rfl, rfl, rfl, rfl, rfl⟩ := H
  go_enter Tryd.func32, Tryd.ntmps32
  go_wp2_with (first | ((with_reducible refine gate_dst (N := 2) rfl ?_); refine box_event ?hg (N := 2) ?hd (cs := #[.int .i64 0, .int .i64 0, .int .i64 0, .int .i64 0, .int .i64 0, .int .i64 0, .string (⟨#[]⟩ : ByteArray)]) (t := 35) ?hr ?_; (case hd => rfl); (case hg => rfl); (case hr => first | (go_simp; done) | (go_simp; rfl)); intro gb353 hg w4 hbox hb; have n0_ := Aside0.mk (below_step (by repeat (first | (with_reducible first | exact HB.out | apply below_alloc | apply pw_below_drewN | apply below_drew1) | exact HB.out)) hb); have n1_ := Aside0.mk (hbox); have n2_ := Aside0.mk ((by rw [hg]; exact (below_size (by repeat (first | (with_reducible first | exact HB.out | apply below_alloc | apply pw_below_drewN | apply below_drew1) | exact HB.out))) : w.heap.size ≤ gb353)); have n3_ := Aside0.mk ((by rw [hg]; exact (below_size (by repeat (first | (with_reducible first | exact HB.out | apply below_alloc | apply pw_below_drewN | apply below_drew1) | exact HB.out))) : w.heap.size ≤ gb353)); clear HB; have HB := n0_; have BK353 := n1_; have GW353 := n2_; have GE353 := n3_; clear n0_ n1_ n2_ n3_; clear hb hbox hg) | ((with_reducible refine gate_callee (f := 49) rfl ?_); refine goesL_ (some 4) rfl rfl Tryd.func49 (by kernel_rfl) rfl #[.slice A0 l0.length c0] rfl (by (try simp only [List.map_toArray, List.map_cons, List.map_nil]); first | done | rfl | (simp only [List.length_drop, List.length_take]; rfl)) ?_; (with_reducible refine (spec_l6Open.calls _ _ l0 t354 t355 w _ ?side1 ?side2 ?side3 A2.out).mono ?_); (case side1 => repeat (first | (with_reducible first | exact HB.out | apply below_alloc | apply pw_below_drewN | apply below_drew1 | refine below_set ?_ GE353.out) | exact HB.out)); (case side2 => exact HR0.out); (case side3 => exact HC0.out); rintro e w5 ⟨g356, rfl, hi, hb, hb2⟩; refine ⟨_, rfl, ?_⟩; have n0_ := Aside0.mk (blk_below (g := gb353) (o := .cells #[.int .i64 0, .int .i64 0, .int .i64 0, .int .i64 0, .int .i64 0, .int .i64 0, .string (⟨#[]⟩ : ByteArray)] 35 (0, 0)) (by (with_reducible repeat (first | refine blk_drewN ?_ _ | refine blk_drew ?_ | refine blk_alloc ?_ _)); exact BK353.out) hb2); have n1_ := Aside0.mk (hb); have n2_ := Aside0.mk (hi); have n3_ := Aside0.mk (IsS81.ne_blk hi (blk_below (g := gb353) (o := .cells #[.int .i64 0, .int .i64 0, .int .i64 0, .int .i64 0, .int .i64 0, .int .i64 0, .string (⟨#[]⟩ : ByteArray)] 35 (0, 0)) (by (with_reducible repeat (first | refine blk_drewN ?_ _ | refine blk_drew ?_ | refine blk_alloc ?_ _)); exact BK353.out) hb2) (by decide)); have n4_ := Aside0.mk (Ne.symm (IsS81.ne_blk hi (blk_below (g := gb353) (o := .cells #[.int .i64 0, .int .i64 0, .int .i64 0, .int .i64 0, .int .i64 0, .int .i64 0, .string (⟨#[]⟩ : ByteArray)] 35 (0, 0)) (by (with_reducible repeat (first | refine blk_drewN ?_ _ | refine blk_drew ?_ | refine blk_alloc ?_ _)); exact BK353.out) hb2) (by decide))); clear BK353; clear HB; have BK353 := n0_; have HB := n1_; have HI356 := n2_; have NB356_353 := n3_; have NB353_356 := n4_; clear n0_ n1_ n2_ n3_ n4_; (try clear hb); (try clear hb2); (try clear hk); (try clear hi)) | ((with_reducible refine gate_callee (f := 57) rfl ?_); refine goesL_ (some 5) rfl rfl Tryd.func57 (by kernel_rfl) rfl #[.pointer (some ⟨g356, 0, none⟩)] rfl (by (try simp only [List.map_toArray, List.map_cons, List.map_nil]); first | done | rfl | (simp only [List.length_drop, List.length_take]; rfl)) ?_; (with_reducible refine (spec_l71Pkt.calls k g356 t354 t355 t357 t358 t359 t360 t361 t362 t363 t364 w _ ?side1 ?side2 A3.out).mono ?_); (case side1 => repeat (first | (with_reducible first | exact HI356.out | apply IsS81.alloc | apply IsS81.drewN | apply IsS81.drew | apply IsS81.set_1 | refine IsS81.far ?_ NB356_353.out _) | exact HI356.out)); (case side2 => repeat (first | (with_reducible first | exact HB.out | apply below_alloc | apply pw_below_drewN | apply below_drew1 | refine below_set ?_ (IsS81.ge HI356.out) | refine below_set ?_ GE353.out) | exact HB.out)); rintro e w6 ⟨rfl, hi, hb, hk⟩; refine ⟨_, rfl, ?_⟩; have n0_ := Aside0.mk (KeepBut.blk hk (g' := gb353) (o := .cells #[.int .i64 0, .int .i64 0, .int .i64 0, .int .i64 0, .int .i64 0, .int .i64 0, .string (⟨#[]⟩ : ByteArray)] 35 (0, 0)) (by (with_reducible repeat (first | refine blk_drewN ?_ _ | refine blk_drew ?_ | refine blk_alloc ?_ _)); exact BK353.out) NB353_356.out (by simp)); have n1_ := Aside0.mk (hb); have n2_ := Aside0.mk (hi); clear BK353; clear HB; clear HI356; have BK353 := n0_; have HB := n1_; have HI356 := n2_; clear n0_ n1_ n2_; (try clear hb); (try clear hb2); (try clear hk); (try clear hi); have hnb7 := NB353_356.out; have hnc7 := NB356_353.out; have hcz8_0 : w6.cell? ⟨gb353, 0, none⟩ = some (.int .i64 0) := (blk_cell BK353.out 0).trans rfl; have hcz8_1 : w6.cell? ⟨gb353, 1, none⟩ = some (.int .i64 0) := (blk_cell BK353.out 1).trans rfl; have hcz8_2 : w6.cell? ⟨gb353, 2, none⟩ = some (.int .i64 0) := (blk_cell BK353.out 2).trans rfl; have hcz8_3 : w6.cell? ⟨gb353, 3, none⟩ = some (.int .i64 0) := (blk_cell BK353.out 3).trans rfl; have hcz8_4 : w6.cell? ⟨gb353, 4, none⟩ = some (.int .i64 0) := (blk_cell BK353.out 4).trans rfl; have hcz8_5 : w6.cell? ⟨gb353, 5, none⟩ = some (.int .i64 0) := (blk_cell BK353.out 5).trans rfl; have hcz8_6 : w6.cell? ⟨gb353, 6, none⟩ = some (.string (⟨#[]⟩ : ByteArray)) := (blk_cell BK353.out 6).trans rfl; have hfz8_0 := blk_frozen BK353.out 0; have hfz8_1 := blk_frozen BK353.out 1; have hfz8_2 := blk_frozen BK353.out 2; have hfz8_3 := blk_frozen BK353.out 3; have hfz8_4 := blk_frozen BK353.out 4; have hfz8_5 := blk_frozen BK353.out 5; have hfz8_6 := blk_frozen BK353.out 6))
  refine bodyPost_ret (results_cell_row rfl _ _ gb353 35 #[.int .i64 t357, .int .i64 t358, .int .i64 t359, .int .i64 t360, .int .i64 t361, .int .i64 t362, .string t363] (0, 0) _ rfl (by (with_reducible repeat (first | refine blk_drewN ?_ _ | refine blk_drew ?_ | refine blk_alloc ?_ _)); refine blk_put (cs := #[.int .i64 t357, .int .i64 t358, .int .i64 t359, .int .i64 t360, .int .i64 t361, .int .i64 t362, .string (⟨#[]⟩ : ByteArray)]) ?_ 6 _ rfl; (with_reducible repeat (first | refine blk_drewN ?_ _ | refine blk_drew ?_ | refine blk_alloc ?_ _)); refine blk_put (cs := #[.int .i64 t357, .int .i64 t358, .int .i64 t359, .int .i64 t360, .int .i64 t361, .int .i64 0, .string (⟨#[]⟩ : ByteArray)]) ?_ 5 _ rfl; (with_reducible repeat (first | refine blk_drewN ?_ _ | refine blk_drew ?_ | refine blk_alloc ?_ _)); refine blk_put (cs := #[.int .i64 t357, .int .i64 t358, .int .i64 t359, .int .i64 t360, .int .i64 0, .int .i64 0, .string (⟨#[]⟩ : ByteArray)]) ?_ 4 _ rfl; (with_reducible repeat (first | refine blk_drewN ?_ _ | refine blk_drew ?_ | refine blk_alloc ?_ _)); refine blk_put (cs := #[.int .i64 t357, .int .i64 t358, .int .i64 t359, .int .i64 0, .int .i64 0, .int .i64 0, .string (⟨#[]⟩ : ByteArray)]) ?_ 3 _ rfl; (with_reducible repeat (first | refine blk_drewN ?_ _ | refine blk_drew ?_ | refine blk_alloc ?_ _)); refine blk_put (cs := #[.int .i64 t357, .int .i64 t358, .int .i64 0, .int .i64 0, .int .i64 0, .int .i64 0, .string (⟨#[]⟩ : ByteArray)]) ?_ 2 _ rfl; (with_reducible repeat (first | refine blk_drewN ?_ _ | refine blk_drew ?_ | refine blk_alloc ?_ _)); refine blk_put (cs := #[.int .i64 t357, .int .i64 0, .int .i64 0, .int .i64 0, .int .i64 0, .int .i64 0, .string (⟨#[]⟩ : ByteArray)]) ?_ 1 _ rfl; (with_reducible repeat (first | refine blk_drewN ?_ _ | refine blk_drew ?_ | refine blk_alloc ?_ _)); refine blk_put (cs := #[.int .i64 0, .int .i64 0, .int .i64 0, .int .i64 0, .int .i64 0, .int .i64 0, .string (⟨#[]⟩ : ByteArray)]) ?_ 0 _ rfl; (with_reducible repeat (first | refine blk_drewN ?_ _ | refine blk_drew ?_ | refine blk_alloc ?_ _)); exact BK353.out) Tryd.underlying35 rfl (by kernel_rfl)) rfl ?_
  exact ⟨by first | rfl | (simp [errW_none, errW_some] <;> rfl) | (simp [*, errW_none, errW_some] <;> rfl) | (simp [errW_none, errW_some, pk_empty1, pk_empty2]; done) | (simp [*, errW_none, errW_some, pk_empty1, pk_empty2]; done), by repeat (first | (with_reducible first | exact HB.out | apply below_alloc | apply pw_below_drewN | apply below_drew1 | refine below_set ?_ (IsS81.ge HI356.out) | refine below_set ?_ GE353.out) | exact HB.out)⟩

/-! ### laws_FnPktOne: function 8 -/
mutual
def laws_FnPktOne.j0 : Nat → List Int → List Int → Bool → Option (Bool)
  | 0, _, _, _ => none
  | k + 1, x0, x1, x16 => if x16 = true then (some true) else ((spec_DrawPktText.f k x0).bind fun bt365 => ((spec_DrawPktText.f k x1).bind fun bt373 => ((impl_PktText.f bt365.1 bt365.2.1 bt365.2.2.1 bt365.2.2.2.1 bt365.2.2.2.2.1 bt365.2.2.2.2.2.1 bt365.2.2.2.2.2.2).bind fun t381 => ((impl_PktText.f bt373.1 bt373.2.1 bt373.2.2.1 bt373.2.2.2.1 bt373.2.2.2.2.1 bt373.2.2.2.2.2.1 bt373.2.2.2.2.2.2).bind fun t382 => ((spec_PktText.f k bt365.1 bt365.2.1 bt365.2.2.1 bt365.2.2.2.1 bt365.2.2.2.2.1 bt365.2.2.2.2.2.1 bt365.2.2.2.2.2.2).bind fun t383 => (if t381.toList = t383.toList then ((spec_PktText.f k bt373.1 bt373.2.1 bt373.2.2.1 bt373.2.2.2.1 bt373.2.2.2.2.1 bt373.2.2.2.2.2.1 bt373.2.2.2.2.2.2).bind fun t384 => (if t382.toList = t384.toList then (if t381.toList = ([] : List UInt8) then (laws_FnPktOne.j1 k t381 t382 true bt365.1 bt365.2.1 bt365.2.2.1 bt365.2.2.2.1 bt365.2.2.2.2.1 bt365.2.2.2.2.2.1 bt365.2.2.2.2.2.2 bt373.1 bt373.2.1 bt373.2.2.1 bt373.2.2.2.1 bt373.2.2.2.2.1 bt373.2.2.2.2.2.1 bt373.2.2.2.2.2.2) else (laws_FnPktOne.j1 k t381 t382 t382.toList.isEmpty bt365.1 bt365.2.1 bt365.2.2.1 bt365.2.2.2.1 bt365.2.2.2.2.1 bt365.2.2.2.2.2.1 bt365.2.2.2.2.2.2 bt373.1 bt373.2.1 bt373.2.2.1 bt373.2.2.2.1 bt373.2.2.2.2.1 bt373.2.2.2.2.2.1 bt373.2.2.2.2.2.2)) else (laws_FnPktOne.j1 k t381 t382 true bt365.1 bt365.2.1 bt365.2.2.1 bt365.2.2.2.1 bt365.2.2.2.2.1 bt365.2.2.2.2.2.1 bt365.2.2.2.2.2.2 bt373.1 bt373.2.1 bt373.2.2.1 bt373.2.2.2.1 bt373.2.2.2.2.1 bt373.2.2.2.2.2.1 bt373.2.2.2.2.2.2))) else (laws_FnPktOne.j1 k t381 t382 true bt365.1 bt365.2.1 bt365.2.2.1 bt365.2.2.2.1 bt365.2.2.2.2.1 bt365.2.2.2.2.2.1 bt365.2.2.2.2.2.2 bt373.1 bt373.2.1 bt373.2.2.1 bt373.2.2.2.1 bt373.2.2.2.2.1 bt373.2.2.2.2.2.1 bt373.2.2.2.2.2.2)))))))
def laws_FnPktOne.j1 : Nat → ByteArray → ByteArray → Bool → Int → Int → Int → Int → Int → Int → ByteArray → Int → Int → Int → Int → Int → Int → ByteArray → Option (Bool)
  | 0, _, _, _, _, _, _, _, _, _, _, _, _, _, _, _, _, _ => none
  | k + 1, x7, x8, x42, x373000, x373001, x373002, x373003, x373004, x373005, x373006, x381000, x381001, x381002, x381003, x381004, x381005, x381006 => if x42 = true then ((spec_PktText.f k x373000 x373001 x373002 x373003 x373004 x373005 x373006).bind fun t385 => (if x7.toList = t385.toList then ((spec_PktText.f k x381000 x381001 x381002 x381003 x381004 x381005 x381006).bind fun t386 => (some (x8.toList == t386.toList))) else (some false))) else (some ((x7.toList == x8.toList) == (x373000 == x381000 && ((x373001 == x381001 && (x373002 == x381002)) && ((x373003 == x381003 && (x373004 == x381004)) && (x373005 == x381005 && (x373006.toList == x381006.toList)))))))
end
def laws_FnPktOne.f (k : Nat) (l0 : List Int) (l1 : List Int) : Option (Bool) := if (l0.length : Int) > 1048576 then (laws_FnPktOne.j0 k l0 l1 true) else (laws_FnPktOne.j0 k l0 l1 (decide ((l1.length : Int) > 1048576)))
theorem laws_FnPktOne.mono_l : ∀ k, (∀ y0 y1 y2, LeO (laws_FnPktOne.j0 k y0 y1 y2) (laws_FnPktOne.j0 (k + 1) y0 y1 y2)) ∧ (∀ y0 y1 y2 y3 y4 y5 y6 y7 y8 y9 y10 y11 y12 y13 y14 y15 y16, LeO (laws_FnPktOne.j1 k y0 y1 y2 y3 y4 y5 y6 y7 y8 y9 y10 y11 y12 y13 y14 y15 y16) (laws_FnPktOne.j1 (k + 1) y0 y1 y2 y3 y4 y5 y6 y7 y8 y9 y10 y11 y12 y13 y14 y15 y16))
  | 0 => ⟨fun _ _ _ r h => by simp [laws_FnPktOne.j0] at h, fun _ _ _ _ _ _ _ _ _ _ _ _ _ _ _ _ _ r h => by simp [laws_FnPktOne.j1] at h⟩
  | k + 1 => by
    obtain ⟨ih0, ih1⟩ := laws_FnPktOne.mono_l k
    refine ⟨?_, ?_⟩
    · intro y0 y1 y2
      unfold laws_FnPktOne.j0
      repeat' first
      | (with_reducible exact ih0 _ _ _)
      | (with_reducible exact ih1 _ _ _ _ _ _ _ _ _ _ _ _ _ _ _ _ _)
      | (with_reducible exact spec_DrawPktText.mono _ _)
      | (with_reducible exact spec_PktText.mono _ _ _ _ _ _ _ _)
      | (with_reducible exact LeO.refl _)
      | (with_reducible exact LeO.none _)
      | (with_reducible refine LeO.ite ?_ ?_)
      | (with_reducible refine LeO.bind ?_ (fun _ => ?_))
      | exact ih0 _ _ _
      | exact ih1 _ _ _ _ _ _ _ _ _ _ _ _ _ _ _ _ _
      | exact spec_DrawPktText.mono _ _
      | exact spec_PktText.mono _ _ _ _ _ _ _ _
      | exact LeO.none _
      | refine LeO.ite ?_ ?_
      | refine LeO.bind ?_ (fun _ => ?_)
    · intro y0 y1 y2 y3 y4 y5 y6 y7 y8 y9 y10 y11 y12 y13 y14 y15 y16
      unfold laws_FnPktOne.j1
      repeat' first
      | (with_reducible exact ih0 _ _ _)
      | (with_reducible exact ih1 _ _ _ _ _ _ _ _ _ _ _ _ _ _ _ _ _)
      | (with_reducible exact spec_DrawPktText.mono _ _)
      | (with_reducible exact spec_PktText.mono _ _ _ _ _ _ _ _)
      | (with_reducible exact LeO.refl _)
      | (with_reducible exact LeO.none _)
      | (with_reducible refine LeO.ite ?_ ?_)
      | (with_reducible refine LeO.bind ?_ (fun _ => ?_))
      | exact ih0 _ _ _
      | exact ih1 _ _ _ _ _ _ _ _ _ _ _ _ _ _ _ _ _
      | exact spec_DrawPktText.mono _ _
      | exact spec_PktText.mono _ _ _ _ _ _ _ _
      | exact LeO.none _
      | refine LeO.ite ?_ ?_
      | refine LeO.bind ?_ (fun _ => ?_)
theorem laws_FnPktOne.mono : ∀ a0 a1 k, LeO (laws_FnPktOne.f k a0 a1) (laws_FnPktOne.f (k + 1) a0 a1) := by
  intro a0 a1 k
  obtain ⟨ih0, ih1⟩ := laws_FnPktOne.mono_l k
  unfold laws_FnPktOne.f
  repeat' first
      | (with_reducible exact ih0 _ _ _)
      | (with_reducible exact ih1 _ _ _ _ _ _ _ _ _ _ _ _ _ _ _ _ _)
      | (with_reducible exact spec_DrawPktText.mono _ _)
      | (with_reducible exact spec_PktText.mono _ _ _ _ _ _ _ _)
      | (with_reducible exact LeO.refl _)
      | (with_reducible exact LeO.none _)
      | (with_reducible refine LeO.ite ?_ ?_)
      | (with_reducible refine LeO.bind ?_ (fun _ => ?_))
      | exact ih0 _ _ _
      | exact ih1 _ _ _ _ _ _ _ _ _ _ _ _ _ _ _ _ _
      | exact spec_DrawPktText.mono _ _
      | exact spec_PktText.mono _ _ _ _ _ _ _ _
      | exact LeO.none _
      | refine LeO.ite ?_ ?_
      | refine LeO.bind ?_ (fun _ => ?_)
set_option maxHeartbeats 8000000 in
set_option maxRecDepth 100000 in
theorem laws_FnPktOne.calls (k : Nat) (A0 : Option Addr) (c0 : Nat) (l0 : List Int) (A1 : Option Addr) (c1 : Nat) (l1 : List Int) (r : Bool) (w : World) (hr0 : Kd.C (Kd.int .u8) w A0 l0.length l0) (hc0 : l0.length ≤ c0) (hr1 : Kd.C (Kd.int .u8) w A1 l1.length l1) (hc1 : l1.length ≤ c1) (h : laws_FnPktOne.f k l0 l1 = some r) :
    Calls Tryd.prog 8 #[.slice A0 l0.length c0, .slice A1 l1.length c1] w fun e w' => e = .returned (.bool r) ∧ Below w.heap.size w w' := by
  have hu35 := Tryd.underlying35
  have HR0 := Aside0.mk hr0
  have HC0 := Aside0.mk hc0
  clear hr0 hc0
  have HR1 := Aside0.mk hr1
  have HC1 := Aside0.mk hc1
  clear hr1 hc1
  have HB := Aside0.mk (Below.refl w.heap.size w)
  have H : (if (l0.length : Int) > 1048576 then (laws_FnPktOne.j0 k l0 l1 true) else (laws_FnPktOne.j0 k l0 l1 (decide ((l1.length : Int) > 1048576)))) = some r := h
  clear h
  have HC3 := Aside0.mk H
  clear H
  go_enter Tryd.func8, Tryd.ntmps8
  go_upto_region 1 with (fail)
  go_cut [16] (fun v16 wc => ∃ (kq : Nat) (x16_2 : Bool), v16 = .bool x16_2 ∧ Aside0 (laws_FnPktOne.j0 kq l0 l1 x16_2 = some r) ∧ Aside0 (kq ≤ k) ∧ Aside0 (Below w.heap.size w wc))
  case first =>
    have H := HC3.out
    clear HC3
    by_cases c4 : (l0.length : Int) > 1048576
    · rw [if_pos c4] at H
      have c4b0 : decide (1048576 < (l0.length : Int)) = true := decide_eq_true c4
      have c4b1 : decide (1048576 < l0.length) = true := decide_eq_true (by omega)
      clear c4
      (first | rw [c4b0] | (simp only [i64_w, i32_w]; rw [c4b0]) | skip)
      have H' := Aside0.mk H
      clear H
      go_wp2
      go_meet
      case rel => exact ⟨_, (true), (by first | rfl | (simp; done) | (simp [*]; done)), H', ⟨by first | omega | exact Nat.le_refl _⟩, ⟨by repeat (first | (with_reducible first | exact HB.out | apply below_alloc | apply pw_below_drewN | apply below_drew1) | exact HB.out)⟩⟩
    · rw [if_neg c4] at H
      have c4b0 : decide (1048576 < (l0.length : Int)) = false := decide_eq_false c4
      have c4b1 : decide (1048576 < l0.length) = false := decide_eq_false (by omega)
      clear c4
      (first | rw [c4b0] | (simp only [i64_w, i32_w]; rw [c4b0]) | skip)
      have H' := Aside0.mk H
      clear H
      go_wp2
      go_meet
      case rel => exact ⟨_, (decide ((l1.length : Int) > 1048576)), (by first | rfl | (simp; done) | (simp [*]; done)), H', ⟨by first | omega | exact Nat.le_refl _⟩, ⟨by repeat (first | (with_reducible first | exact HB.out | apply below_alloc | apply pw_below_drewN | apply below_drew1) | exact HB.out)⟩⟩
  case rest =>
    clear HC3
    try clear c1
    try clear p2
    try clear c4
    try clear c4b0
    try clear c4b1
    obtain ⟨kq, x16_2, rfl, HA, HJ2, HB⟩ := hcut
    cases kq with
    | zero => exact absurd HA.out (by simp [laws_FnPktOne.j0])
    | succ kj2 =>
      have H := HA.out
      clear HA
      simp only [laws_FnPktOne.j0] at H
      by_cases c5 : x16_2 = true
      · subst c5
        have H1 : (some true) = some r := by rw [if_pos rfl] at H; exact H
        clear H
        have H := H1
        clear H1
        obtain rfl := Option.some.inj H
        go_wp2
        go_ret
        exact ⟨by first | rfl | (simp [errW_none, errW_some] <;> rfl) | (simp [*, errW_none, errW_some] <;> rfl) | (simp [errW_none, errW_some, pk_empty1, pk_empty2]; done) | (simp [*, errW_none, errW_some, pk_empty1, pk_empty2]; done), by repeat (first | (with_reducible first | exact HB.out | apply below_alloc | apply pw_below_drewN | apply below_drew1) | exact HB.out)⟩
      · replace c5 := Bool.eq_false_iff.mpr c5
        subst c5
        have H1 : ((spec_DrawPktText.f kj2 l0).bind fun bt365 => ((spec_DrawPktText.f kj2 l1).bind fun bt373 => ((impl_PktText.f bt365.1 bt365.2.1 bt365.2.2.1 bt365.2.2.2.1 bt365.2.2.2.2.1 bt365.2.2.2.2.2.1 bt365.2.2.2.2.2.2).bind fun t381 => ((impl_PktText.f bt373.1 bt373.2.1 bt373.2.2.1 bt373.2.2.2.1 bt373.2.2.2.2.1 bt373.2.2.2.2.2.1 bt373.2.2.2.2.2.2).bind fun t382 => ((spec_PktText.f kj2 bt365.1 bt365.2.1 bt365.2.2.1 bt365.2.2.2.1 bt365.2.2.2.2.1 bt365.2.2.2.2.2.1 bt365.2.2.2.2.2.2).bind fun t383 => (if t381.toList = t383.toList then ((spec_PktText.f kj2 bt373.1 bt373.2.1 bt373.2.2.1 bt373.2.2.2.1 bt373.2.2.2.2.1 bt373.2.2.2.2.2.1 bt373.2.2.2.2.2.2).bind fun t384 => (if t382.toList = t384.toList then (if t381.toList = ([] : List UInt8) then (laws_FnPktOne.j1 kj2 t381 t382 true bt365.1 bt365.2.1 bt365.2.2.1 bt365.2.2.2.1 bt365.2.2.2.2.1 bt365.2.2.2.2.2.1 bt365.2.2.2.2.2.2 bt373.1 bt373.2.1 bt373.2.2.1 bt373.2.2.2.1 bt373.2.2.2.2.1 bt373.2.2.2.2.2.1 bt373.2.2.2.2.2.2) else (laws_FnPktOne.j1 kj2 t381 t382 t382.toList.isEmpty bt365.1 bt365.2.1 bt365.2.2.1 bt365.2.2.2.1 bt365.2.2.2.2.1 bt365.2.2.2.2.2.1 bt365.2.2.2.2.2.2 bt373.1 bt373.2.1 bt373.2.2.1 bt373.2.2.2.1 bt373.2.2.2.2.1 bt373.2.2.2.2.2.1 bt373.2.2.2.2.2.2)) else (laws_FnPktOne.j1 kj2 t381 t382 true bt365.1 bt365.2.1 bt365.2.2.1 bt365.2.2.2.1 bt365.2.2.2.2.1 bt365.2.2.2.2.2.1 bt365.2.2.2.2.2.2 bt373.1 bt373.2.1 bt373.2.2.1 bt373.2.2.2.1 bt373.2.2.2.2.1 bt373.2.2.2.2.2.1 bt373.2.2.2.2.2.2))) else (laws_FnPktOne.j1 kj2 t381 t382 true bt365.1 bt365.2.1 bt365.2.2.1 bt365.2.2.2.1 bt365.2.2.2.2.1 bt365.2.2.2.2.2.1 bt365.2.2.2.2.2.2 bt373.1 bt373.2.1 bt373.2.2.1 bt373.2.2.2.1 bt373.2.2.2.2.1 bt373.2.2.2.2.2.1 bt373.2.2.2.2.2.2))))))) = some r := by rw [if_neg (show ¬ (false = true) by decide)] at H; exact H
        clear H
        have H := H1
        clear H1
        replace H := Option.bind_eq_some_iff.mp H
        obtain ⟨⟨t365, t366, t367, t368, t369, t370, t371⟩, A60, H⟩ := H
        replace H : ((spec_DrawPktText.f kj2 l1).bind fun bt373 => ((impl_PktText.f t365 t366 t367 t368 t369 t370 t371).bind fun t381 => ((impl_PktText.f bt373.1 bt373.2.1 bt373.2.2.1 bt373.2.2.2.1 bt373.2.2.2.2.1 bt373.2.2.2.2.2.1 bt373.2.2.2.2.2.2).bind fun t382 => ((spec_PktText.f kj2 t365 t366 t367 t368 t369 t370 t371).bind fun t383 => (if t381.toList = t383.toList then ((spec_PktText.f kj2 bt373.1 bt373.2.1 bt373.2.2.1 bt373.2.2.2.1 bt373.2.2.2.2.1 bt373.2.2.2.2.2.1 bt373.2.2.2.2.2.2).bind fun t384 => (if t382.toList = t384.toList then (if t381.toList = ([] : List UInt8) then (laws_FnPktOne.j1 kj2 t381 t382 true t365 t366 t367 t368 t369 t370 t371 bt373.1 bt373.2.1 bt373.2.2.1 bt373.2.2.2.1 bt373.2.2.2.2.1 bt373.2.2.2.2.2.1 bt373.2.2.2.2.2.2) else (laws_FnPktOne.j1 kj2 t381 t382 t382.toList.isEmpty t365 t366 t367 t368 t369 t370 t371 bt373.1 bt373.2.1 bt373.2.2.1 bt373.2.2.2.1 bt373.2.2.2.2.1 bt373.2.2.2.2.2.1 bt373.2.2.2.2.2.2)) else (laws_FnPktOne.j1 kj2 t381 t382 true t365 t366 t367 t368 t369 t370 t371 bt373.1 bt373.2.1 bt373.2.2.1 bt373.2.2.2.1 bt373.2.2.2.2.1 bt373.2.2.2.2.2.1 bt373.2.2.2.2.2.2))) else (laws_FnPktOne.j1 kj2 t381 t382 true t365 t366 t367 t368 t369 t370 t371 bt373.1 bt373.2.1 bt373.2.2.1 bt373.2.2.2.1 bt373.2.2.2.2.1 bt373.2.2.2.2.2.1 bt373.2.2.2.2.2.2)))))) = some r := H
        have A6 := Aside0.mk A60
        clear A60
        replace H := Option.bind_eq_some_iff.mp H
        obtain ⟨⟨t373, t374, t375, t376, t377, t378, t379⟩, A70, H⟩ := H
        replace H : ((impl_PktText.f t365 t366 t367 t368 t369 t370 t371).bind fun t381 => ((impl_PktText.f t373 t374 t375 t376 t377 t378 t379).bind fun t382 => ((spec_PktText.f kj2 t365 t366 t367 t368 t369 t370 t371).bind fun t383 => (if t381.toList = t383.toList then ((spec_PktText.f kj2 t373 t374 t375 t376 t377 t378 t379).bind fun t384 => (if t382.toList = t384.toList then (if t381.toList = ([] : List UInt8) then (laws_FnPktOne.j1 kj2 t381 t382 true t365 t366 t367 t368 t369 t370 t371 t373 t374 t375 t376 t377 t378 t379) else (laws_FnPktOne.j1 kj2 t381 t382 t382.toList.isEmpty t365 t366 t367 t368 t369 t370 t371 t373 t374 t375 t376 t377 t378 t379)) else (laws_FnPktOne.j1 kj2 t381 t382 true t365 t366 t367 t368 t369 t370 t371 t373 t374 t375 t376 t377 t378 t379))) else (laws_FnPktOne.j1 kj2 t381 t382 true t365 t366 t367 t368 t369 t370 t371 t373 t374 t375 t376 t377 t378 t379))))) = some r := H
        have A7 := Aside0.mk A70
        clear A70
        replace H := Option.bind_eq_some_iff.mp H
        obtain ⟨t381, A80, H⟩ := H
        replace H : ((impl_PktText.f t373 t374 t375 t376 t377 t378 t379).bind fun t382 => ((spec_PktText.f kj2 t365 t366 t367 t368 t369 t370 t371).bind fun t383 => (if t381.toList = t383.toList then ((spec_PktText.f kj2 t373 t374 t375 t376 t377 t378 t379).bind fun t384 => (if t382.toList = t384.toList then (if t381.toList = ([] : List UInt8) then (laws_FnPktOne.j1 kj2 t381 t382 true t365 t366 t367 t368 t369 t370 t371 t373 t374 t375 t376 t377 t378 t379) else (laws_FnPktOne.j1 kj2 t381 t382 t382.toList.isEmpty t365 t366 t367 t368 t369 t370 t371 t373 t374 t375 t376 t377 t378 t379)) else (laws_FnPktOne.j1 kj2 t381 t382 true t365 t366 t367 t368 t369 t370 t371 t373 t374 t375 t376 t377 t378 t379))) else (laws_FnPktOne.j1 kj2 t381 t382 true t365 t366 t367 t368 t369 t370 t371 t373 t374 t375 t376 t377 t378 t379)))) = some r := H
        have A8 := Aside0.mk A80
        clear A80
        replace H := Option.bind_eq_some_iff.mp H
        obtain ⟨t382, A90, H⟩ := H
        replace H : ((spec_PktText.f kj2 t365 t366 t367 t368 t369 t370 t371).bind fun t383 => (if t381.toList = t383.toList then ((spec_PktText.f kj2 t373 t374 t375 t376 t377 t378 t379).bind fun t384 => (if t382.toList = t384.toList then (if t381.toList = ([] : List UInt8) then (laws_FnPktOne.j1 kj2 t381 t382 true t365 t366 t367 t368 t369 t370 t371 t373 t374 t375 t376 t377 t378 t379) else (laws_FnPktOne.j1 kj2 t381 t382 t382.toList.isEmpty t365 t366 t367 t368 t369 t370 t371 t373 t374 t375 t376 t377 t378 t379)) else (laws_FnPktOne.j1 kj2 t381 t382 true t365 t366 t367 t368 t369 t370 t371 t373 t374 t375 t376 t377 t378 t379))) else (laws_FnPktOne.j1 kj2 t381 t382 true t365 t366 t367 t368 t369 t370 t371 t373 t374 t375 t376 t377 t378 t379))) = some r := H
        have A9 := Aside0.mk A90
        clear A90
        have HC10 := Aside0.mk H
        clear H
        go_upto_region 7 with (first | ((with_reducible refine gate_callee (f := 32) rfl ?_); refine goesL_ (some 18) rfl rfl Tryd.func32 (by kernel_rfl) rfl #[.slice A0 l0.length c0] rfl (by (try simp only [List.map_toArray, List.map_cons, List.map_nil]); first | done | rfl | (simp only [List.length_drop, List.length_take]; rfl)) ?_; (with_reducible refine (spec_DrawPktText.calls kj2 _ _ l0 t365 t366 t367 t368 t369 t370 t371 _ ?side1 ?side2 A6.out).mono ?_); (case side1 => repeat (first | exact (Kd.C_below HR0.out HB.out) | (with_reducible refine Kd.C_alloc ?_ _) | (with_reducible refine Kd.C_drewN ?_ _) | (with_reducible refine Kd.C_drew ?_))); (case side2 => exact HC0.out); rintro e w11 ⟨rfl, hb⟩; refine ⟨_, rfl, ?_⟩; have n0_ := Aside0.mk (below_step (by repeat (first | (with_reducible first | exact HB.out | apply below_alloc | apply pw_below_drewN | apply below_drew1) | exact HB.out)) hb); clear HB; have HB := n0_; clear n0_; (try clear hb); (try clear hb2); (try clear hk); (try clear hi)) | ((with_reducible refine gate_dst (N := 5) rfl ?_); (try (refine gate_guard (by rfl) ?_; dsimp only)); refine box_event ?hg (N := 5) ?hd (cs := #[.int .i64 0, .int .i64 0, .int .i64 0, .int .i64 0, .int .i64 0, .int .i64 0, .string (⟨#[]⟩ : ByteArray)]) (t := 35) ?hr ?_; (case hd => rfl); (case hg => rfl); (case hr => first | (go_simp; done) | (go_simp; rfl)); intro gb372 hg w12 hbox hb; have n0_ := Aside0.mk (below_step (by repeat (first | (with_reducible first | exact HB.out | apply below_alloc | apply pw_below_drewN | apply below_drew1) | exact HB.out)) hb); have n1_ := Aside0.mk (hbox); have n2_ := Aside0.mk ((by rw [hg]; exact (below_size (by repeat (first | (with_reducible first | exact HB.out | apply below_alloc | apply pw_below_drewN | apply below_drew1) | exact HB.out))) : w.heap.size ≤ gb372)); have n3_ := Aside0.mk ((by rw [hg]; exact (below_size (by repeat (first | (with_reducible first | exact HB.out | apply below_alloc | apply pw_below_drewN | apply below_drew1) | exact HB.out))) : w.heap.size ≤ gb372)); clear HB; have HB := n0_; have BK372 := n1_; have GW372 := n2_; have GE372 := n3_; clear n0_ n1_ n2_ n3_; clear hb hbox hg; have hcz13_0 : w12.cell? ⟨gb372, 0, none⟩ = some (.int .i64 0) := (blk_cell BK372.out 0).trans rfl; have hcz13_1 : w12.cell? ⟨gb372, 1, none⟩ = some (.int .i64 0) := (blk_cell BK372.out 1).trans rfl; have hcz13_2 : w12.cell? ⟨gb372, 2, none⟩ = some (.int .i64 0) := (blk_cell BK372.out 2).trans rfl; have hcz13_3 : w12.cell? ⟨gb372, 3, none⟩ = some (.int .i64 0) := (blk_cell BK372.out 3).trans rfl; have hcz13_4 : w12.cell? ⟨gb372, 4, none⟩ = some (.int .i64 0) := (blk_cell BK372.out 4).trans rfl; have hcz13_5 : w12.cell? ⟨gb372, 5, none⟩ = some (.int .i64 0) := (blk_cell BK372.out 5).trans rfl; have hcz13_6 : w12.cell? ⟨gb372, 6, none⟩ = some (.string (⟨#[]⟩ : ByteArray)) := (blk_cell BK372.out 6).trans rfl; have hfz13_0 := blk_frozen BK372.out 0; have hfz13_1 := blk_frozen BK372.out 1; have hfz13_2 := blk_frozen BK372.out 2; have hfz13_3 := blk_frozen BK372.out 3; have hfz13_4 := blk_frozen BK372.out 4; have hfz13_5 := blk_frozen BK372.out 5; have hfz13_6 := blk_frozen BK372.out 6) | ((with_reducible refine gate_callee (f := 32) rfl ?_); refine goesL_ (some 20) rfl rfl Tryd.func32 (by kernel_rfl) rfl #[.slice A1 l1.length c1] rfl (by (try simp only [List.map_toArray, List.map_cons, List.map_nil]); first | done | rfl | (simp only [List.length_drop, List.length_take]; rfl)) ?_; (with_reducible refine (spec_DrawPktText.calls kj2 _ _ l1 t373 t374 t375 t376 t377 t378 t379 _ ?side1 ?side2 A7.out).mono ?_); (case side1 => exact Kd.C_below HR1.out (by repeat (first | (with_reducible first | exact HB.out | apply below_alloc | apply pw_below_drewN | apply below_drew1 | refine below_set ?_ GE372.out) | exact HB.out))); (case side2 => exact HC1.out); rintro e w14 ⟨rfl, hb⟩; refine ⟨_, rfl, ?_⟩; have n0_ := Aside0.mk (blk_below (g := gb372) (o := .cells #[.int .i64 t365, .int .i64 t366, .int .i64 t367, .int .i64 t368, .int .i64 t369, .int .i64 t370, .string t371] 35 (0, 0)) (by (with_reducible repeat (first | refine blk_drewN ?_ _ | refine blk_drew ?_ | refine blk_alloc ?_ _)); refine blk_put (cs := #[.int .i64 t365, .int .i64 t366, .int .i64 t367, .int .i64 t368, .int .i64 t369, .int .i64 t370, .string (⟨#[]⟩ : ByteArray)]) ?_ 6 _ rfl; (with_reducible repeat (first | refine blk_drewN ?_ _ | refine blk_drew ?_ | refine blk_alloc ?_ _)); refine blk_put (cs := #[.int .i64 t365, .int .i64 t366, .int .i64 t367, .int .i64 t368, .int .i64 t369, .int .i64 0, .string (⟨#[]⟩ : ByteArray)]) ?_ 5 _ rfl; (with_reducible repeat (first | refine blk_drewN ?_ _ | refine blk_drew ?_ | refine blk_alloc ?_ _)); refine blk_put (cs := #[.int .i64 t365, .int .i64 t366, .int .i64 t367, .int .i64 t368, .int .i64 0, .int .i64 0, .string (⟨#[]⟩ : ByteArray)]) ?_ 4 _ rfl; (with_reducible repeat (first | refine blk_drewN ?_ _ | refine blk_drew ?_ | refine blk_alloc ?_ _)); refine blk_put (cs := #[.int .i64 t365, .int .i64 t366, .int .i64 t367, .int .i64 0, .int .i64 0, .int .i64 0, .string (⟨#[]⟩ : ByteArray)]) ?_ 3 _ rfl; (with_reducible repeat (first | refine blk_drewN ?_ _ | refine blk_drew ?_ | refine blk_alloc ?_ _)); refine blk_put (cs := #[.int .i64 t365, .int .i64 t366, .int .i64 0, .int .i64 0, .int .i64 0, .int .i64 0, .string (⟨#[]⟩ : ByteArray)]) ?_ 2 _ rfl; (with_reducible repeat (first | refine blk_drewN ?_ _ | refine blk_drew ?_ | refine blk_alloc ?_ _)); refine blk_put (cs := #[.int .i64 t365, .int .i64 0, .int .i64 0, .int .i64 0, .int .i64 0, .int .i64 0, .string (⟨#[]⟩ : ByteArray)]) ?_ 1 _ rfl; (with_reducible repeat (first | refine blk_drewN ?_ _ | refine blk_drew ?_ | refine blk_alloc ?_ _)); refine blk_put (cs := #[.int .i64 0, .int .i64 0, .int .i64 0, .int .i64 0, .int .i64 0, .int .i64 0, .string (⟨#[]⟩ : ByteArray)]) ?_ 0 _ rfl; (with_reducible repeat (first | refine blk_drewN ?_ _ | refine blk_drew ?_ | refine blk_alloc ?_ _)); exact BK372.out) hb); have n1_ := Aside0.mk (below_step (by repeat (first | (with_reducible first | exact HB.out | apply below_alloc | apply pw_below_drewN | apply below_drew1 | refine below_set ?_ GE372.out) | exact HB.out)) hb); clear BK372; clear HB; have BK372 := n0_; have HB := n1_; clear n0_ n1_; (try clear hb); (try clear hb2); (try clear hk); (try clear hi)) | ((with_reducible refine gate_dst (N := 6) rfl ?_); (try (refine gate_guard (by rfl) ?_; dsimp only)); refine box_event ?hg (N := 6) ?hd (cs := #[.int .i64 0, .int .i64 0, .int .i64 0, .int .i64 0, .int .i64 0, .int .i64 0, .string (⟨#[]⟩ : ByteArray)]) (t := 35) ?hr ?_; (case hd => rfl); (case hg => rfl); (case hr => first | (go_simp; done) | (go_simp; rfl)); intro gb380 hg w15 hbox hb; have n0_ := Aside0.mk (blk_below (g := gb372) (o := .cells #[.int .i64 t365, .int .i64 t366, .int .i64 t367, .int .i64 t368, .int .i64 t369, .int .i64 t370, .string t371] 35 (0, 0)) (by (with_reducible repeat (first | refine blk_drewN ?_ _ | refine blk_drew ?_ | refine blk_alloc ?_ _)); exact BK372.out) hb); have n1_ := Aside0.mk (below_step (by repeat (first | (with_reducible first | exact HB.out | apply below_alloc | apply pw_below_drewN | apply below_drew1 | refine below_set ?_ GE372.out) | exact HB.out)) hb); have n2_ := Aside0.mk (hbox); have n3_ := Aside0.mk ((by rw [hg]; exact (below_size (by repeat (first | (with_reducible first | exact HB.out | apply below_alloc | apply pw_below_drewN | apply below_drew1 | refine below_set ?_ GE372.out) | exact HB.out))) : w.heap.size ≤ gb380)); have n4_ := Aside0.mk ((by rw [hg]; exact (below_size (by repeat (first | (with_reducible first | exact HB.out | apply below_alloc | apply pw_below_drewN | apply below_drew1 | refine below_set ?_ GE372.out) | exact HB.out))) : w.heap.size ≤ gb380)); have n5_ := Aside0.mk ((by rw [hg]; exact Nat.ne_of_lt (blk_lt (g := gb372) (o := .cells #[.int .i64 t365, .int .i64 t366, .int .i64 t367, .int .i64 t368, .int .i64 t369, .int .i64 t370, .string t371] 35 (0, 0)) (by (with_reducible repeat (first | refine blk_drewN ?_ _ | refine blk_drew ?_ | refine blk_alloc ?_ _)); exact BK372.out)) : gb372 ≠ gb380)); have n6_ := Aside0.mk ((by rw [hg]; exact Nat.ne_of_gt (blk_lt (g := gb372) (o := .cells #[.int .i64 t365, .int .i64 t366, .int .i64 t367, .int .i64 t368, .int .i64 t369, .int .i64 t370, .string t371] 35 (0, 0)) (by (with_reducible repeat (first | refine blk_drewN ?_ _ | refine blk_drew ?_ | refine blk_alloc ?_ _)); exact BK372.out)) : gb380 ≠ gb372)); clear BK372; clear HB; have BK372 := n0_; have HB := n1_; have BK380 := n2_; have GW380 := n3_; have GE380 := n4_; have NB372_380 := n5_; have NB380_372 := n6_; clear n0_ n1_ n2_ n3_ n4_ n5_ n6_; clear hb hbox hg; have hnb16 := NB380_372.out; have hnc16 := NB372_380.out; have hcz17_0 : w15.cell? ⟨gb380, 0, none⟩ = some (.int .i64 0) := (blk_cell BK380.out 0).trans rfl; have hcz17_1 : w15.cell? ⟨gb380, 1, none⟩ = some (.int .i64 0) := (blk_cell BK380.out 1).trans rfl; have hcz17_2 : w15.cell? ⟨gb380, 2, none⟩ = some (.int .i64 0) := (blk_cell BK380.out 2).trans rfl; have hcz17_3 : w15.cell? ⟨gb380, 3, none⟩ = some (.int .i64 0) := (blk_cell BK380.out 3).trans rfl; have hcz17_4 : w15.cell? ⟨gb380, 4, none⟩ = some (.int .i64 0) := (blk_cell BK380.out 4).trans rfl; have hcz17_5 : w15.cell? ⟨gb380, 5, none⟩ = some (.int .i64 0) := (blk_cell BK380.out 5).trans rfl; have hcz17_6 : w15.cell? ⟨gb380, 6, none⟩ = some (.string (⟨#[]⟩ : ByteArray)) := (blk_cell BK380.out 6).trans rfl; have hfz17_0 := blk_frozen BK380.out 0; have hfz17_1 := blk_frozen BK380.out 1; have hfz17_2 := blk_frozen BK380.out 2; have hfz17_3 := blk_frozen BK380.out 3; have hfz17_4 := blk_frozen BK380.out 4; have hfz17_5 := blk_frozen BK380.out 5; have hfz17_6 := blk_frozen BK380.out 6; have hcz18_0 : w15.cell? ⟨gb372, 0, none⟩ = some (.int .i64 t365) := (blk_cell BK372.out 0).trans rfl; have hcz18_1 : w15.cell? ⟨gb372, 1, none⟩ = some (.int .i64 t366) := (blk_cell BK372.out 1).trans rfl; have hcz18_2 : w15.cell? ⟨gb372, 2, none⟩ = some (.int .i64 t367) := (blk_cell BK372.out 2).trans rfl; have hcz18_3 : w15.cell? ⟨gb372, 3, none⟩ = some (.int .i64 t368) := (blk_cell BK372.out 3).trans rfl; have hcz18_4 : w15.cell? ⟨gb372, 4, none⟩ = some (.int .i64 t369) := (blk_cell BK372.out 4).trans rfl; have hcz18_5 : w15.cell? ⟨gb372, 5, none⟩ = some (.int .i64 t370) := (blk_cell BK372.out 5).trans rfl; have hcz18_6 : w15.cell? ⟨gb372, 6, none⟩ = some (.string t371) := (blk_cell BK372.out 6).trans rfl; have hfz18_0 := blk_frozen BK372.out 0; have hfz18_1 := blk_frozen BK372.out 1; have hfz18_2 := blk_frozen BK372.out 2; have hfz18_3 := blk_frozen BK372.out 3; have hfz18_4 := blk_frozen BK372.out 4; have hfz18_5 := blk_frozen BK372.out 5; have hfz18_6 := blk_frozen BK372.out 6) | ((with_reducible refine gate_callee (f := 31) rfl ?_); refine goesL_ (some 22) rfl rfl Tryd.func31 (by kernel_rfl) rfl #[.agg #[.int .i64 t365, .int .i64 t366, .int .i64 t367, .int .i64 t368, .int .i64 t369, .int .i64 t370, .string t371]] rfl (by (try simp only [List.map_toArray, List.map_cons, List.map_nil]); first | done | rfl | (simp only [List.length_drop, List.length_take]; rfl)) ?_; (with_reducible refine (impl_PktText.calls t365 t366 t367 t368 t369 t370 t371 t381 _ A8.out).mono ?_); rintro e w19 ⟨rfl, hb⟩; refine ⟨_, rfl, ?_⟩; have n0_ := Aside0.mk (blk_below (g := gb372) (o := .cells #[.int .i64 t365, .int .i64 t366, .int .i64 t367, .int .i64 t368, .int .i64 t369, .int .i64 t370, .string t371] 35 (0, 0)) (by (with_reducible repeat (first | refine blk_drewN ?_ _ | refine blk_drew ?_ | refine blk_alloc ?_ _)); refine blk_far ?_ NB372_380.out _; (with_reducible repeat (first | refine blk_drewN ?_ _ | refine blk_drew ?_ | refine blk_alloc ?_ _)); refine blk_far ?_ NB372_380.out _; (with_reducible repeat (first | refine blk_drewN ?_ _ | refine blk_drew ?_ | refine blk_alloc ?_ _)); refine blk_far ?_ NB372_380.out _; (with_reducible repeat (first | refine blk_drewN ?_ _ | refine blk_drew ?_ | refine blk_alloc ?_ _)); refine blk_far ?_ NB372_380.out _; (with_reducible repeat (first | refine blk_drewN ?_ _ | refine blk_drew ?_ | refine blk_alloc ?_ _)); refine blk_far ?_ NB372_380.out _; (with_reducible repeat (first | refine blk_drewN ?_ _ | refine blk_drew ?_ | refine blk_alloc ?_ _)); refine blk_far ?_ NB372_380.out _; (with_reducible repeat (first | refine blk_drewN ?_ _ | refine blk_drew ?_ | refine blk_alloc ?_ _)); refine blk_far ?_ NB372_380.out _; (with_reducible repeat (first | refine blk_drewN ?_ _ | refine blk_drew ?_ | refine blk_alloc ?_ _)); exact BK372.out) hb); have n1_ := Aside0.mk (blk_below (g := gb380) (o := .cells #[.int .i64 t373, .int .i64 t374, .int .i64 t375, .int .i64 t376, .int .i64 t377, .int .i64 t378, .string t379] 35 (0, 0)) (by (with_reducible repeat (first | refine blk_drewN ?_ _ | refine blk_drew ?_ | refine blk_alloc ?_ _)); refine blk_put (cs := #[.int .i64 t373, .int .i64 t374, .int .i64 t375, .int .i64 t376, .int .i64 t377, .int .i64 t378, .string (⟨#[]⟩ : ByteArray)]) ?_ 6 _ rfl; (with_reducible repeat (first | refine blk_drewN ?_ _ | refine blk_drew ?_ | refine blk_alloc ?_ _)); refine blk_put (cs := #[.int .i64 t373, .int .i64 t374, .int .i64 t375, .int .i64 t376, .int .i64 t377, .int .i64 0, .string (⟨#[]⟩ : ByteArray)]) ?_ 5 _ rfl; (with_reducible repeat (first | refine blk_drewN ?_ _ | refine blk_drew ?_ | refine blk_alloc ?_ _)); refine blk_put (cs := #[.int .i64 t373, .int .i64 t374, .int .i64 t375, .int .i64 t376, .int .i64 0, .int .i64 0, .string (⟨#[]⟩ : ByteArray)]) ?_ 4 _ rfl; (with_reducible repeat (first | refine blk_drewN ?_ _ | refine blk_drew ?_ | refine blk_alloc ?_ _)); refine blk_put (cs := #[.int .i64 t373, .int .i64 t374, .int .i64 t375, .int .i64 0, .int .i64 0, .int .i64 0, .string (⟨#[]⟩ : ByteArray)]) ?_ 3 _ rfl; (with_reducible repeat (first | refine blk_drewN ?_ _ | refine blk_drew ?_ | refine blk_alloc ?_ _)); refine blk_put (cs := #[.int .i64 t373, .int .i64 t374, .int .i64 0, .int .i64 0, .int .i64 0, .int .i64 0, .string (⟨#[]⟩ : ByteArray)]) ?_ 2 _ rfl; (with_reducible repeat (first | refine blk_drewN ?_ _ | refine blk_drew ?_ | refine blk_alloc ?_ _)); refine blk_put (cs := #[.int .i64 t373, .int .i64 0, .int .i64 0, .int .i64 0, .int .i64 0, .int .i64 0, .string (⟨#[]⟩ : ByteArray)]) ?_ 1 _ rfl; (with_reducible repeat (first | refine blk_drewN ?_ _ | refine blk_drew ?_ | refine blk_alloc ?_ _)); refine blk_put (cs := #[.int .i64 0, .int .i64 0, .int .i64 0, .int .i64 0, .int .i64 0, .int .i64 0, .string (⟨#[]⟩ : ByteArray)]) ?_ 0 _ rfl; (with_reducible repeat (first | refine blk_drewN ?_ _ | refine blk_drew ?_ | refine blk_alloc ?_ _)); exact BK380.out) hb); have n2_ := Aside0.mk (below_step (by repeat (first | (with_reducible first | exact HB.out | apply below_alloc | apply pw_below_drewN | apply below_drew1 | refine below_set ?_ GE372.out | refine below_set ?_ GE380.out) | exact HB.out)) hb); clear BK372; clear BK380; clear HB; have BK372 := n0_; have BK380 := n1_; have HB := n2_; clear n0_ n1_ n2_; (try clear hb); (try clear hb2); (try clear hk); (try clear hi); have hcz20_0 : w19.cell? ⟨gb380, 0, none⟩ = some (.int .i64 t373) := (blk_cell BK380.out 0).trans rfl; have hcz20_1 : w19.cell? ⟨gb380, 1, none⟩ = some (.int .i64 t374) := (blk_cell BK380.out 1).trans rfl; have hcz20_2 : w19.cell? ⟨gb380, 2, none⟩ = some (.int .i64 t375) := (blk_cell BK380.out 2).trans rfl; have hcz20_3 : w19.cell? ⟨gb380, 3, none⟩ = some (.int .i64 t376) := (blk_cell BK380.out 3).trans rfl; have hcz20_4 : w19.cell? ⟨gb380, 4, none⟩ = some (.int .i64 t377) := (blk_cell BK380.out 4).trans rfl; have hcz20_5 : w19.cell? ⟨gb380, 5, none⟩ = some (.int .i64 t378) := (blk_cell BK380.out 5).trans rfl; have hcz20_6 : w19.cell? ⟨gb380, 6, none⟩ = some (.string t379) := (blk_cell BK380.out 6).trans rfl; have hfz20_0 := blk_frozen BK380.out 0; have hfz20_1 := blk_frozen BK380.out 1; have hfz20_2 := blk_frozen BK380.out 2; have hfz20_3 := blk_frozen BK380.out 3; have hfz20_4 := blk_frozen BK380.out 4; have hfz20_5 := blk_frozen BK380.out 5; have hfz20_6 := blk_frozen BK380.out 6) | ((with_reducible refine gate_callee (f := 31) rfl ?_); refine goesL_ (some 24) rfl rfl Tryd.func31 (by kernel_rfl) rfl #[.agg #[.int .i64 t373, .int .i64 t374, .int .i64 t375, .int .i64 t376, .int .i64 t377, .int .i64 t378, .string t379]] rfl (by (try simp only [List.map_toArray, List.map_cons, List.map_nil]); first | done | rfl | (simp only [List.length_drop, List.length_take]; rfl)) ?_; (with_reducible refine (impl_PktText.calls t373 t374 t375 t376 t377 t378 t379 t382 _ A9.out).mono ?_); rintro e w21 ⟨rfl, hb⟩; refine ⟨_, rfl, ?_⟩; have n0_ := Aside0.mk (blk_below (g := gb372) (o := .cells #[.int .i64 t365, .int .i64 t366, .int .i64 t367, .int .i64 t368, .int .i64 t369, .int .i64 t370, .string t371] 35 (0, 0)) (by (with_reducible repeat (first | refine blk_drewN ?_ _ | refine blk_drew ?_ | refine blk_alloc ?_ _)); exact BK372.out) hb); have n1_ := Aside0.mk (blk_below (g := gb380) (o := .cells #[.int .i64 t373, .int .i64 t374, .int .i64 t375, .int .i64 t376, .int .i64 t377, .int .i64 t378, .string t379] 35 (0, 0)) (by (with_reducible repeat (first | refine blk_drewN ?_ _ | refine blk_drew ?_ | refine blk_alloc ?_ _)); exact BK380.out) hb); have n2_ := Aside0.mk (below_step (by repeat (first | (with_reducible first | exact HB.out | apply below_alloc | apply pw_below_drewN | apply below_drew1 | refine below_set ?_ GE372.out | refine below_set ?_ GE380.out) | exact HB.out)) hb); clear BK372; clear BK380; clear HB; have BK372 := n0_; have BK380 := n1_; have HB := n2_; clear n0_ n1_ n2_; (try clear hb); (try clear hb2); (try clear hk); (try clear hi)))
        (try simp only [Act.put, List.setIfInBounds_toArray, List.set_cons_zero, List.set_cons_succ])
        go_cut [42] (fun v42 wc => ∃ (kq : Nat) (x42_9 : Bool), v42 = .bool x42_9 ∧ Aside0 (laws_FnPktOne.j1 kq t381 t382 x42_9 t365 t366 t367 t368 t369 t370 t371 t373 t374 t375 t376 t377 t378 t379 = some r) ∧ Aside0 (kq ≤ kj2) ∧ Aside0 (wc.heap[gb372]? = some (.cells #[.int .i64 t365, .int .i64 t366, .int .i64 t367, .int .i64 t368, .int .i64 t369, .int .i64 t370, .string t371] 35 (0, 0))) ∧ Aside0 (wc.heap[gb380]? = some (.cells #[.int .i64 t373, .int .i64 t374, .int .i64 t375, .int .i64 t376, .int .i64 t377, .int .i64 t378, .string t379] 35 (0, 0))) ∧ Aside0 (Below w.heap.size w wc))
        case first =>
          have H := HC10.out
          clear HC10
          replace H := Option.bind_eq_some_iff.mp H
          obtain ⟨t383, A220, H⟩ := H
          replace H : (if t381.toList = t383.toList then ((spec_PktText.f kj2 t373 t374 t375 t376 t377 t378 t379).bind fun t384 => (if t382.toList = t384.toList then (if t381.toList = ([] : List UInt8) then (laws_FnPktOne.j1 kj2 t381 t382 true t365 t366 t367 t368 t369 t370 t371 t373 t374 t375 t376 t377 t378 t379) else (laws_FnPktOne.j1 kj2 t381 t382 t382.toList.isEmpty t365 t366 t367 t368 t369 t370 t371 t373 t374 t375 t376 t377 t378 t379)) else (laws_FnPktOne.j1 kj2 t381 t382 true t365 t366 t367 t368 t369 t370 t371 t373 t374 t375 t376 t377 t378 t379))) else (laws_FnPktOne.j1 kj2 t381 t382 true t365 t366 t367 t368 t369 t370 t371 t373 t374 t375 t376 t377 t378 t379)) = some r := H
          have A22 := Aside0.mk A220
          clear A220
          by_cases c23 : t381.toList = t383.toList
          · rw [if_pos c23] at H
            have c23b0 : (t381.toList == t383.toList) = true := beq_iff_eq.mpr c23
            have c23b1 : (t381.toList != t383.toList) = false := bne_eq_false_iff_eq.mpr c23
            clear c23
            (first | rw [c23b0] | (simp only [i64_w, i32_w]; rw [c23b0]) | skip)
            replace H := Option.bind_eq_some_iff.mp H
            obtain ⟨t384, A240, H⟩ := H
            replace H : (if t382.toList = t384.toList then (if t381.toList = ([] : List UInt8) then (laws_FnPktOne.j1 kj2 t381 t382 true t365 t366 t367 t368 t369 t370 t371 t373 t374 t375 t376 t377 t378 t379) else (laws_FnPktOne.j1 kj2 t381 t382 t382.toList.isEmpty t365 t366 t367 t368 t369 t370 t371 t373 t374 t375 t376 t377 t378 t379)) else (laws_FnPktOne.j1 kj2 t381 t382 true t365 t366 t367 t368 t369 t370 t371 t373 t374 t375 t376 t377 t378 t379)) = some r := H
            have A24 := Aside0.mk A240
            clear A240
            by_cases c25 : t382.toList = t384.toList
            · rw [if_pos c25] at H
              have c25b0 : (t382.toList == t384.toList) = true := beq_iff_eq.mpr c25
              have c25b1 : (t382.toList != t384.toList) = false := bne_eq_false_iff_eq.mpr c25
              clear c25
              by_cases c26 : t381.toList = ([] : List UInt8)
              · rw [if_pos c26] at H
                have c26b0 : t381.toList.isEmpty = true := by simpa using c26
                have c26b1 : (t381.toList == ([] : List UInt8)) = true := beq_iff_eq.mpr c26
                have c26b2 : (t381.toList != ([] : List UInt8)) = false := bne_eq_false_iff_eq.mpr c26
                clear c26
                have H' := Aside0.mk H
                clear H
                have hnb27 := NB372_380.out
                have hnc27 := NB380_372.out
                have hcz28_0 : w21.cell? ⟨gb372, 0, none⟩ = some (.int .i64 t365) := (blk_cell BK372.out 0).trans rfl
                have hcz28_1 : w21.cell? ⟨gb372, 1, none⟩ = some (.int .i64 t366) := (blk_cell BK372.out 1).trans rfl
                have hcz28_2 : w21.cell? ⟨gb372, 2, none⟩ = some (.int .i64 t367) := (blk_cell BK372.out 2).trans rfl
                have hcz28_3 : w21.cell? ⟨gb372, 3, none⟩ = some (.int .i64 t368) := (blk_cell BK372.out 3).trans rfl
                have hcz28_4 : w21.cell? ⟨gb372, 4, none⟩ = some (.int .i64 t369) := (blk_cell BK372.out 4).trans rfl
                have hcz28_5 : w21.cell? ⟨gb372, 5, none⟩ = some (.int .i64 t370) := (blk_cell BK372.out 5).trans rfl
                have hcz28_6 : w21.cell? ⟨gb372, 6, none⟩ = some (.string t371) := (blk_cell BK372.out 6).trans rfl
                have hfz28_0 := blk_frozen BK372.out 0
                have hfz28_1 := blk_frozen BK372.out 1
                have hfz28_2 := blk_frozen BK372.out 2
                have hfz28_3 := blk_frozen BK372.out 3
                have hfz28_4 := blk_frozen BK372.out 4
                have hfz28_5 := blk_frozen BK372.out 5
                have hfz28_6 := blk_frozen BK372.out 6
                go_wp2_with (first | ((with_reducible refine gate_callee (f := 29) rfl ?_); refine goesL_ (some 27) rfl rfl Tryd.func29 (by kernel_rfl) rfl #[.agg #[.int .i64 t365, .int .i64 t366, .int .i64 t367, .int .i64 t368, .int .i64 t369, .int .i64 t370, .string t371]] rfl (by (try simp only [List.map_toArray, List.map_cons, List.map_nil]); first | done | rfl | (simp only [List.length_drop, List.length_take]; rfl)) ?_; (with_reducible refine (spec_PktText.calls kj2 t365 t366 t367 t368 t369 t370 t371 t383 _ A22.out).mono ?_); rintro e w29 ⟨rfl, hb⟩; refine ⟨_, rfl, ?_⟩; have n0_ := Aside0.mk (blk_below (g := gb372) (o := .cells #[.int .i64 t365, .int .i64 t366, .int .i64 t367, .int .i64 t368, .int .i64 t369, .int .i64 t370, .string t371] 35 (0, 0)) (by (with_reducible repeat (first | refine blk_drewN ?_ _ | refine blk_drew ?_ | refine blk_alloc ?_ _)); exact BK372.out) hb); have n1_ := Aside0.mk (blk_below (g := gb380) (o := .cells #[.int .i64 t373, .int .i64 t374, .int .i64 t375, .int .i64 t376, .int .i64 t377, .int .i64 t378, .string t379] 35 (0, 0)) (by (with_reducible repeat (first | refine blk_drewN ?_ _ | refine blk_drew ?_ | refine blk_alloc ?_ _)); exact BK380.out) hb); have n2_ := Aside0.mk (below_step (by repeat (first | (with_reducible first | exact HB.out | apply below_alloc | apply pw_below_drewN | apply below_drew1 | refine below_set ?_ GE372.out | refine below_set ?_ GE380.out) | exact HB.out)) hb); clear BK372; clear BK380; clear HB; have BK372 := n0_; have BK380 := n1_; have HB := n2_; clear n0_ n1_ n2_; (try clear hb); (try clear hb2); (try clear hk); (try clear hi); have hcz30_0 : w29.cell? ⟨gb380, 0, none⟩ = some (.int .i64 t373) := (blk_cell BK380.out 0).trans rfl; have hcz30_1 : w29.cell? ⟨gb380, 1, none⟩ = some (.int .i64 t374) := (blk_cell BK380.out 1).trans rfl; have hcz30_2 : w29.cell? ⟨gb380, 2, none⟩ = some (.int .i64 t375) := (blk_cell BK380.out 2).trans rfl; have hcz30_3 : w29.cell? ⟨gb380, 3, none⟩ = some (.int .i64 t376) := (blk_cell BK380.out 3).trans rfl; have hcz30_4 : w29.cell? ⟨gb380, 4, none⟩ = some (.int .i64 t377) := (blk_cell BK380.out 4).trans rfl; have hcz30_5 : w29.cell? ⟨gb380, 5, none⟩ = some (.int .i64 t378) := (blk_cell BK380.out 5).trans rfl; have hcz30_6 : w29.cell? ⟨gb380, 6, none⟩ = some (.string t379) := (blk_cell BK380.out 6).trans rfl; have hfz30_0 := blk_frozen BK380.out 0; have hfz30_1 := blk_frozen BK380.out 1; have hfz30_2 := blk_frozen BK380.out 2; have hfz30_3 := blk_frozen BK380.out 3; have hfz30_4 := blk_frozen BK380.out 4; have hfz30_5 := blk_frozen BK380.out 5; have hfz30_6 := blk_frozen BK380.out 6) | (go_at_call 29; (with_reducible refine (spec_PktText.calls kj2 t373 t374 t375 t376 t377 t378 t379 t384 _ A24.out).mono ?_); rintro e w31 ⟨rfl, hb⟩; have n0_ := Aside0.mk (blk_below (g := gb372) (o := .cells #[.int .i64 t365, .int .i64 t366, .int .i64 t367, .int .i64 t368, .int .i64 t369, .int .i64 t370, .string t371] 35 (0, 0)) (by (with_reducible repeat (first | refine blk_drewN ?_ _ | refine blk_drew ?_ | refine blk_alloc ?_ _)); exact BK372.out) hb); have n1_ := Aside0.mk (blk_below (g := gb380) (o := .cells #[.int .i64 t373, .int .i64 t374, .int .i64 t375, .int .i64 t376, .int .i64 t377, .int .i64 t378, .string t379] 35 (0, 0)) (by (with_reducible repeat (first | refine blk_drewN ?_ _ | refine blk_drew ?_ | refine blk_alloc ?_ _)); exact BK380.out) hb); have n2_ := Aside0.mk (below_step (by repeat (first | (with_reducible first | exact HB.out | apply below_alloc | apply pw_below_drewN | apply below_drew1 | refine below_set ?_ GE372.out | refine below_set ?_ GE380.out) | exact HB.out)) hb); clear BK372; clear BK380; clear HB; have BK372 := n0_; have BK380 := n1_; have HB := n2_; clear n0_ n1_ n2_; (try clear hb); (try clear hb2); (try clear hk); (try clear hi)))
                go_meet
                case rel => exact ⟨_, (true), (by first | rfl | (simp; done) | (simp [*]; done)), H', ⟨by have := HJ2.out; first | omega | exact Nat.le_refl _⟩, ⟨by (with_reducible repeat (first | refine blk_drewN ?_ _ | refine blk_drew ?_ | refine blk_alloc ?_ _)); exact BK372.out⟩, ⟨by (with_reducible repeat (first | refine blk_drewN ?_ _ | refine blk_drew ?_ | refine blk_alloc ?_ _)); exact BK380.out⟩, ⟨by repeat (first | (with_reducible first | exact HB.out | apply below_alloc | apply pw_below_drewN | apply below_drew1 | refine below_set ?_ GE372.out | refine below_set ?_ GE380.out) | exact HB.out)⟩⟩
              · rw [if_neg c26] at H
                have c26b0 : t381.toList.isEmpty = false := by simpa using c26
                have c26b1 : (t381.toList == ([] : List UInt8)) = false := beq_eq_false_iff_ne.mpr c26
                have c26b2 : (t381.toList != ([] : List UInt8)) = true := bne_iff_ne.mpr c26
                have H' := Aside0.mk H
                clear H
                have hnb32 := NB372_380.out
                have hnc32 := NB380_372.out
                have hcz33_0 : w21.cell? ⟨gb372, 0, none⟩ = some (.int .i64 t365) := (blk_cell BK372.out 0).trans rfl
                have hcz33_1 : w21.cell? ⟨gb372, 1, none⟩ = some (.int .i64 t366) := (blk_cell BK372.out 1).trans rfl
                have hcz33_2 : w21.cell? ⟨gb372, 2, none⟩ = some (.int .i64 t367) := (blk_cell BK372.out 2).trans rfl
                have hcz33_3 : w21.cell? ⟨gb372, 3, none⟩ = some (.int .i64 t368) := (blk_cell BK372.out 3).trans rfl
                have hcz33_4 : w21.cell? ⟨gb372, 4, none⟩ = some (.int .i64 t369) := (blk_cell BK372.out 4).trans rfl
                have hcz33_5 : w21.cell? ⟨gb372, 5, none⟩ = some (.int .i64 t370) := (blk_cell BK372.out 5).trans rfl
                have hcz33_6 : w21.cell? ⟨gb372, 6, none⟩ = some (.string t371) := (blk_cell BK372.out 6).trans rfl
                have hfz33_0 := blk_frozen BK372.out 0
                have hfz33_1 := blk_frozen BK372.out 1
                have hfz33_2 := blk_frozen BK372.out 2
                have hfz33_3 := blk_frozen BK372.out 3
                have hfz33_4 := blk_frozen BK372.out 4
                have hfz33_5 := blk_frozen BK372.out 5
                have hfz33_6 := blk_frozen BK372.out 6
                go_wp2_with (first | ((with_reducible refine gate_callee (f := 29) rfl ?_); refine goesL_ (some 27) rfl rfl Tryd.func29 (by kernel_rfl) rfl #[.agg #[.int .i64 t365, .int .i64 t366, .int .i64 t367, .int .i64 t368, .int .i64 t369, .int .i64 t370, .string t371]] rfl (by (try simp only [List.map_toArray, List.map_cons, List.map_nil]); first | done | rfl | (simp only [List.length_drop, List.length_take]; rfl)) ?_; (with_reducible refine (spec_PktText.calls kj2 t365 t366 t367 t368 t369 t370 t371 t383 _ A22.out).mono ?_); rintro e w34 ⟨rfl, hb⟩; refine ⟨_, rfl, ?_⟩; have n0_ := Aside0.mk (blk_below (g := gb372) (o := .cells #[.int .i64 t365, .int .i64 t366, .int .i64 t367, .int .i64 t368, .int .i64 t369, .int .i64 t370, .string t371] 35 (0, 0)) (by (with_reducible repeat (first | refine blk_drewN ?_ _ | refine blk_drew ?_ | refine blk_alloc ?_ _)); exact BK372.out) hb); have n1_ := Aside0.mk (blk_below (g := gb380) (o := .cells #[.int .i64 t373, .int .i64 t374, .int .i64 t375, .int .i64 t376, .int .i64 t377, .int .i64 t378, .string t379] 35 (0, 0)) (by (with_reducible repeat (first | refine blk_drewN ?_ _ | refine blk_drew ?_ | refine blk_alloc ?_ _)); exact BK380.out) hb); have n2_ := Aside0.mk (below_step (by repeat (first | (with_reducible first | exact HB.out | apply below_alloc | apply pw_below_drewN | apply below_drew1 | refine below_set ?_ GE372.out | refine below_set ?_ GE380.out) | exact HB.out)) hb); clear BK372; clear BK380; clear HB; have BK372 := n0_; have BK380 := n1_; have HB := n2_; clear n0_ n1_ n2_; (try clear hb); (try clear hb2); (try clear hk); (try clear hi); have hcz35_0 : w34.cell? ⟨gb380, 0, none⟩ = some (.int .i64 t373) := (blk_cell BK380.out 0).trans rfl; have hcz35_1 : w34.cell? ⟨gb380, 1, none⟩ = some (.int .i64 t374) := (blk_cell BK380.out 1).trans rfl; have hcz35_2 : w34.cell? ⟨gb380, 2, none⟩ = some (.int .i64 t375) := (blk_cell BK380.out 2).trans rfl; have hcz35_3 : w34.cell? ⟨gb380, 3, none⟩ = some (.int .i64 t376) := (blk_cell BK380.out 3).trans rfl; have hcz35_4 : w34.cell? ⟨gb380, 4, none⟩ = some (.int .i64 t377) := (blk_cell BK380.out 4).trans rfl; have hcz35_5 : w34.cell? ⟨gb380, 5, none⟩ = some (.int .i64 t378) := (blk_cell BK380.out 5).trans rfl; have hcz35_6 : w34.cell? ⟨gb380, 6, none⟩ = some (.string t379) := (blk_cell BK380.out 6).trans rfl; have hfz35_0 := blk_frozen BK380.out 0; have hfz35_1 := blk_frozen BK380.out 1; have hfz35_2 := blk_frozen BK380.out 2; have hfz35_3 := blk_frozen BK380.out 3; have hfz35_4 := blk_frozen BK380.out 4; have hfz35_5 := blk_frozen BK380.out 5; have hfz35_6 := blk_frozen BK380.out 6) | (go_at_call 29; (with_reducible refine (spec_PktText.calls kj2 t373 t374 t375 t376 t377 t378 t379 t384 _ A24.out).mono ?_); rintro e w36 ⟨rfl, hb⟩; have n0_ := Aside0.mk (blk_below (g := gb372) (o := .cells #[.int .i64 t365, .int .i64 t366, .int .i64 t367, .int .i64 t368, .int .i64 t369, .int .i64 t370, .string t371] 35 (0, 0)) (by (with_reducible repeat (first | refine blk_drewN ?_ _ | refine blk_drew ?_ | refine blk_alloc ?_ _)); exact BK372.out) hb); have n1_ := Aside0.mk (blk_below (g := gb380) (o := .cells #[.int .i64 t373, .int .i64 t374, .int .i64 t375, .int .i64 t376, .int .i64 t377, .int .i64 t378, .string t379] 35 (0, 0)) (by (with_reducible repeat (first | refine blk_drewN ?_ _ | refine blk_drew ?_ | refine blk_alloc ?_ _)); exact BK380.out) hb); have n2_ := Aside0.mk (below_step (by repeat (first | (with_reducible first | exact HB.out | apply below_alloc | apply pw_below_drewN | apply below_drew1 | refine below_set ?_ GE372.out | refine below_set ?_ GE380.out) | exact HB.out)) hb); clear BK372; clear BK380; clear HB; have BK372 := n0_; have BK380 := n1_; have HB := n2_; clear n0_ n1_ n2_; (try clear hb); (try clear hb2); (try clear hk); (try clear hi)))
                go_meet
                case rel => exact ⟨_, (t382.toList.isEmpty), (by first | rfl | (simp; done) | (simp [*]; done)), H', ⟨by have := HJ2.out; first | omega | exact Nat.le_refl _⟩, ⟨by (with_reducible repeat (first | refine blk_drewN ?_ _ | refine blk_drew ?_ | refine blk_alloc ?_ _)); exact BK372.out⟩, ⟨by (with_reducible repeat (first | refine blk_drewN ?_ _ | refine blk_drew ?_ | refine blk_alloc ?_ _)); exact BK380.out⟩, ⟨by repeat (first | (with_reducible first | exact HB.out | apply below_alloc | apply pw_below_drewN | apply below_drew1 | refine below_set ?_ GE372.out | refine below_set ?_ GE380.out) | exact HB.out)⟩⟩
            · rw [if_neg c25] at H
              have c25b0 : (t382.toList == t384.toList) = false := beq_eq_false_iff_ne.mpr c25
              have c25b1 : (t382.toList != t384.toList) = true := bne_iff_ne.mpr c25
              have H' := Aside0.mk H
              clear H
              have hnb37 := NB372_380.out
              have hnc37 := NB380_372.out
              have hcz38_0 : w21.cell? ⟨gb372, 0, none⟩ = some (.int .i64 t365) := (blk_cell BK372.out 0).trans rfl
              have hcz38_1 : w21.cell? ⟨gb372, 1, none⟩ = some (.int .i64 t366) := (blk_cell BK372.out 1).trans rfl
              have hcz38_2 : w21.cell? ⟨gb372, 2, none⟩ = some (.int .i64 t367) := (blk_cell BK372.out 2).trans rfl
              have hcz38_3 : w21.cell? ⟨gb372, 3, none⟩ = some (.int .i64 t368) := (blk_cell BK372.out 3).trans rfl
              have hcz38_4 : w21.cell? ⟨gb372, 4, none⟩ = some (.int .i64 t369) := (blk_cell BK372.out 4).trans rfl
              have hcz38_5 : w21.cell? ⟨gb372, 5, none⟩ = some (.int .i64 t370) := (blk_cell BK372.out 5).trans rfl
              have hcz38_6 : w21.cell? ⟨gb372, 6, none⟩ = some (.string t371) := (blk_cell BK372.out 6).trans rfl
              have hfz38_0 := blk_frozen BK372.out 0
              have hfz38_1 := blk_frozen BK372.out 1
              have hfz38_2 := blk_frozen BK372.out 2
              have hfz38_3 := blk_frozen BK372.out 3
              have hfz38_4 := blk_frozen BK372.out 4
              have hfz38_5 := blk_frozen BK372.out 5
              have hfz38_6 := blk_frozen BK372.out 6
              go_wp2_with (first | ((with_reducible refine gate_callee (f := 29) rfl ?_); refine goesL_ (some 27) rfl rfl Tryd.func29 (by kernel_rfl) rfl #[.agg #[.int .i64 t365, .int .i64 t366, .int .i64 t367, .int .i64 t368, .int .i64 t369, .int .i64 t370, .string t371]] rfl (by (try simp only [List.map_toArray, List.map_cons, List.map_nil]); first | done | rfl | (simp only [List.length_drop, List.length_take]; rfl)) ?_; (with_reducible refine (spec_PktText.calls kj2 t365 t366 t367 t368 t369 t370 t371 t383 _ A22.out).mono ?_); rintro e w39 ⟨rfl, hb⟩; refine ⟨_, rfl, ?_⟩; have n0_ := Aside0.mk (blk_below (g := gb372) (o := .cells #[.int .i64 t365, .int .i64 t366, .int .i64 t367, .int .i64 t368, .int .i64 t369, .int .i64 t370, .string t371] 35 (0, 0)) (by (with_reducible repeat (first | refine blk_drewN ?_ _ | refine blk_drew ?_ | refine blk_alloc ?_ _)); exact BK372.out) hb); have n1_ := Aside0.mk (blk_below (g := gb380) (o := .cells #[.int .i64 t373, .int .i64 t374, .int .i64 t375, .int .i64 t376, .int .i64 t377, .int .i64 t378, .string t379] 35 (0, 0)) (by (with_reducible repeat (first | refine blk_drewN ?_ _ | refine blk_drew ?_ | refine blk_alloc ?_ _)); exact BK380.out) hb); have n2_ := Aside0.mk (below_step (by repeat (first | (with_reducible first | exact HB.out | apply below_alloc | apply pw_below_drewN | apply below_drew1 | refine below_set ?_ GE372.out | refine below_set ?_ GE380.out) | exact HB.out)) hb); clear BK372; clear BK380; clear HB; have BK372 := n0_; have BK380 := n1_; have HB := n2_; clear n0_ n1_ n2_; (try clear hb); (try clear hb2); (try clear hk); (try clear hi); have hcz40_0 : w39.cell? ⟨gb380, 0, none⟩ = some (.int .i64 t373) := (blk_cell BK380.out 0).trans rfl; have hcz40_1 : w39.cell? ⟨gb380, 1, none⟩ = some (.int .i64 t374) := (blk_cell BK380.out 1).trans rfl; have hcz40_2 : w39.cell? ⟨gb380, 2, none⟩ = some (.int .i64 t375) := (blk_cell BK380.out 2).trans rfl; have hcz40_3 : w39.cell? ⟨gb380, 3, none⟩ = some (.int .i64 t376) := (blk_cell BK380.out 3).trans rfl; have hcz40_4 : w39.cell? ⟨gb380, 4, none⟩ = some (.int .i64 t377) := (blk_cell BK380.out 4).trans rfl; have hcz40_5 : w39.cell? ⟨gb380, 5, none⟩ = some (.int .i64 t378) := (blk_cell BK380.out 5).trans rfl; have hcz40_6 : w39.cell? ⟨gb380, 6, none⟩ = some (.string t379) := (blk_cell BK380.out 6).trans rfl; have hfz40_0 := blk_frozen BK380.out 0; have hfz40_1 := blk_frozen BK380.out 1; have hfz40_2 := blk_frozen BK380.out 2; have hfz40_3 := blk_frozen BK380.out 3; have hfz40_4 := blk_frozen BK380.out 4; have hfz40_5 := blk_frozen BK380.out 5; have hfz40_6 := blk_frozen BK380.out 6) | (go_at_call 29; (with_reducible refine (spec_PktText.calls kj2 t373 t374 t375 t376 t377 t378 t379 t384 _ A24.out).mono ?_); rintro e w41 ⟨rfl, hb⟩; have n0_ := Aside0.mk (blk_below (g := gb372) (o := .cells #[.int .i64 t365, .int .i64 t366, .int .i64 t367, .int .i64 t368, .int .i64 t369, .int .i64 t370, .string t371] 35 (0, 0)) (by (with_reducible repeat (first | refine blk_drewN ?_ _ | refine blk_drew ?_ | refine blk_alloc ?_ _)); exact BK372.out) hb); have n1_ := Aside0.mk (blk_below (g := gb380) (o := .cells #[.int .i64 t373, .int .i64 t374, .int .i64 t375, .int .i64 t376, .int .i64 t377, .int .i64 t378, .string t379] 35 (0, 0)) (by (with_reducible repeat (first | refine blk_drewN ?_ _ | refine blk_drew ?_ | refine blk_alloc ?_ _)); exact BK380.out) hb); have n2_ := Aside0.mk (below_step (by repeat (first | (with_reducible first | exact HB.out | apply below_alloc | apply pw_below_drewN | apply below_drew1 | refine below_set ?_ GE372.out | refine below_set ?_ GE380.out) | exact HB.out)) hb); clear BK372; clear BK380; clear HB; have BK372 := n0_; have BK380 := n1_; have HB := n2_; clear n0_ n1_ n2_; (try clear hb); (try clear hb2); (try clear hk); (try clear hi)))
              go_meet
              case rel => exact ⟨_, (true), (by first | rfl | (simp; done) | (simp [*]; done)), H', ⟨by have := HJ2.out; first | omega | exact Nat.le_refl _⟩, ⟨by (with_reducible repeat (first | refine blk_drewN ?_ _ | refine blk_drew ?_ | refine blk_alloc ?_ _)); exact BK372.out⟩, ⟨by (with_reducible repeat (first | refine blk_drewN ?_ _ | refine blk_drew ?_ | refine blk_alloc ?_ _)); exact BK380.out⟩, ⟨by repeat (first | (with_reducible first | exact HB.out | apply below_alloc | apply pw_below_drewN | apply below_drew1 | refine below_set ?_ GE372.out | refine below_set ?_ GE380.out) | exact HB.out)⟩⟩
          · rw [if_neg c23] at H
            have c23b0 : (t381.toList == t383.toList) = false := beq_eq_false_iff_ne.mpr c23
            have c23b1 : (t381.toList != t383.toList) = true := bne_iff_ne.mpr c23
            (first | rw [c23b0] | (simp only [i64_w, i32_w]; rw [c23b0]) | skip)
            have H' := Aside0.mk H
            clear H
            have hnb42 := NB372_380.out
            have hnc42 := NB380_372.out
            have hcz43_0 : w21.cell? ⟨gb372, 0, none⟩ = some (.int .i64 t365) := (blk_cell BK372.out 0).trans rfl
            have hcz43_1 : w21.cell? ⟨gb372, 1, none⟩ = some (.int .i64 t366) := (blk_cell BK372.out 1).trans rfl
            have hcz43_2 : w21.cell? ⟨gb372, 2, none⟩ = some (.int .i64 t367) := (blk_cell BK372.out 2).trans rfl
            have hcz43_3 : w21.cell? ⟨gb372, 3, none⟩ = some (.int .i64 t368) := (blk_cell BK372.out 3).trans rfl
            have hcz43_4 : w21.cell? ⟨gb372, 4, none⟩ = some (.int .i64 t369) := (blk_cell BK372.out 4).trans rfl
            have hcz43_5 : w21.cell? ⟨gb372, 5, none⟩ = some (.int .i64 t370) := (blk_cell BK372.out 5).trans rfl
            have hcz43_6 : w21.cell? ⟨gb372, 6, none⟩ = some (.string t371) := (blk_cell BK372.out 6).trans rfl
            have hfz43_0 := blk_frozen BK372.out 0
            have hfz43_1 := blk_frozen BK372.out 1
            have hfz43_2 := blk_frozen BK372.out 2
            have hfz43_3 := blk_frozen BK372.out 3
            have hfz43_4 := blk_frozen BK372.out 4
            have hfz43_5 := blk_frozen BK372.out 5
            have hfz43_6 := blk_frozen BK372.out 6
            go_wp2_with (first | ((with_reducible refine gate_callee (f := 29) rfl ?_); refine goesL_ (some 27) rfl rfl Tryd.func29 (by kernel_rfl) rfl #[.agg #[.int .i64 t365, .int .i64 t366, .int .i64 t367, .int .i64 t368, .int .i64 t369, .int .i64 t370, .string t371]] rfl (by (try simp only [List.map_toArray, List.map_cons, List.map_nil]); first | done | rfl | (simp only [List.length_drop, List.length_take]; rfl)) ?_; (with_reducible refine (spec_PktText.calls kj2 t365 t366 t367 t368 t369 t370 t371 t383 _ A22.out).mono ?_); rintro e w44 ⟨rfl, hb⟩; refine ⟨_, rfl, ?_⟩; have n0_ := Aside0.mk (blk_below (g := gb372) (o := .cells #[.int .i64 t365, .int .i64 t366, .int .i64 t367, .int .i64 t368, .int .i64 t369, .int .i64 t370, .string t371] 35 (0, 0)) (by (with_reducible repeat (first | refine blk_drewN ?_ _ | refine blk_drew ?_ | refine blk_alloc ?_ _)); exact BK372.out) hb); have n1_ := Aside0.mk (blk_below (g := gb380) (o := .cells #[.int .i64 t373, .int .i64 t374, .int .i64 t375, .int .i64 t376, .int .i64 t377, .int .i64 t378, .string t379] 35 (0, 0)) (by (with_reducible repeat (first | refine blk_drewN ?_ _ | refine blk_drew ?_ | refine blk_alloc ?_ _)); exact BK380.out) hb); have n2_ := Aside0.mk (below_step (by repeat (first | (with_reducible first | exact HB.out | apply below_alloc | apply pw_below_drewN | apply below_drew1 | refine below_set ?_ GE372.out | refine below_set ?_ GE380.out) | exact HB.out)) hb); clear BK372; clear BK380; clear HB; have BK372 := n0_; have BK380 := n1_; have HB := n2_; clear n0_ n1_ n2_; (try clear hb); (try clear hb2); (try clear hk); (try clear hi)))
            go_meet
            case rel => exact ⟨_, (true), (by first | rfl | (simp; done) | (simp [*]; done)), H', ⟨by have := HJ2.out; first | omega | exact Nat.le_refl _⟩, ⟨by (with_reducible repeat (first | refine blk_drewN ?_ _ | refine blk_drew ?_ | refine blk_alloc ?_ _)); exact BK372.out⟩, ⟨by (with_reducible repeat (first | refine blk_drewN ?_ _ | refine blk_drew ?_ | refine blk_alloc ?_ _)); exact BK380.out⟩, ⟨by repeat (first | (with_reducible first | exact HB.out | apply below_alloc | apply pw_below_drewN | apply below_drew1 | refine below_set ?_ GE372.out | refine below_set ?_ GE380.out) | exact HB.out)⟩⟩
        case rest =>
          clear HC10
          try clear c1
          try clear c2
          try clear p2
          try clear c3
          try clear c4
          try clear c4b0
          try clear c4b1
          try clear c5
          try clear c8
          try clear c16
          try clear c23
          try clear c23b0
          try clear c23b1
          try clear c25
          try clear c25b0
          try clear c25b1
          try clear c26
          try clear c26b0
          try clear c26b1
          try clear c26b2
          try clear c27
          try clear c29
          try clear c31
          try clear c32
          try clear c37
          try clear c42
          try clear hcz13_0
          try clear hcz13_1
          try clear hcz13_2
          try clear hcz13_3
          try clear hcz13_4
          try clear hcz13_5
          try clear hcz13_6
          try clear hcz17_0
          try clear hcz17_1
          try clear hcz17_2
          try clear hcz17_3
          try clear hcz17_4
          try clear hcz17_5
          try clear hcz17_6
          try clear hcz18_0
          try clear hcz18_1
          try clear hcz18_2
          try clear hcz18_3
          try clear hcz18_4
          try clear hcz18_5
          try clear hcz18_6
          try clear hcz20_0
          try clear hcz20_1
          try clear hcz20_2
          try clear hcz20_3
          try clear hcz20_4
          try clear hcz20_5
          try clear hcz20_6
          try clear hcz28_0
          try clear hcz28_1
          try clear hcz28_2
          try clear hcz28_3
          try clear hcz28_4
          try clear hcz28_5
          try clear hcz28_6
          try clear hcz30_0
          try clear hcz30_1
          try clear hcz30_2
          try clear hcz30_3
          try clear hcz30_4
          try clear hcz30_5
          try clear hcz30_6
          try clear hcz33_0
          try clear hcz33_1
          try clear hcz33_2
          try clear hcz33_3
          try clear hcz33_4
          try clear hcz33_5
          try clear hcz33_6
          try clear hcz35_0
          try clear hcz35_1
          try clear hcz35_2
          try clear hcz35_3
          try clear hcz35_4
          try clear hcz35_5
          try clear hcz35_6
          try clear hcz38_0
          try clear hcz38_1
          try clear hcz38_2
          try clear hcz38_3
          try clear hcz38_4
          try clear hcz38_5
          try clear hcz38_6
          try clear hcz40_0
          try clear hcz40_1
          try clear hcz40_2
          try clear hcz40_3
          try clear hcz40_4
          try clear hcz40_5
          try clear hcz40_6
          try clear hcz43_0
          try clear hcz43_1
          try clear hcz43_2
          try clear hcz43_3
          try clear hcz43_4
          try clear hcz43_5
          try clear hcz43_6
          try clear hfz13_0
          try clear hfz13_1
          try clear hfz13_2
          try clear hfz13_3
          try clear hfz13_4
          try clear hfz13_5
          try clear hfz13_6
          try clear hfz17_0
          try clear hfz17_1
          try clear hfz17_2
          try clear hfz17_3
          try clear hfz17_4
          try clear hfz17_5
          try clear hfz17_6
          try clear hfz18_0
          try clear hfz18_1
          try clear hfz18_2
          try clear hfz18_3
          try clear hfz18_4
          try clear hfz18_5
          try clear hfz18_6
          try clear hfz20_0
          try clear hfz20_1
          try clear hfz20_2
          try clear hfz20_3
          try clear hfz20_4
          try clear hfz20_5
          try clear hfz20_6
          try clear hfz28_0
          try clear hfz28_1
          try clear hfz28_2
          try clear hfz28_3
          try clear hfz28_4
          try clear hfz28_5
          try clear hfz28_6
          try clear hfz30_0
          try clear hfz30_1
          try clear hfz30_2
          try clear hfz30_3
          try clear hfz30_4
          try clear hfz30_5
          try clear hfz30_6
          try clear hfz33_0
          try clear hfz33_1
          try clear hfz33_2
          try clear hfz33_3
          try clear hfz33_4
          try clear hfz33_5
          try clear hfz33_6
          try clear hfz35_0
          try clear hfz35_1
          try clear hfz35_2
          try clear hfz35_3
          try clear hfz35_4
          try clear hfz35_5
          try clear hfz35_6
          try clear hfz38_0
          try clear hfz38_1
          try clear hfz38_2
          try clear hfz38_3
          try clear hfz38_4
          try clear hfz38_5
          try clear hfz38_6
          try clear hfz40_0
          try clear hfz40_1
          try clear hfz40_2
          try clear hfz40_3
          try clear hfz40_4
          try clear hfz40_5
          try clear hfz40_6
          try clear hfz43_0
          try clear hfz43_1
          try clear hfz43_2
          try clear hfz43_3
          try clear hfz43_4
          try clear hfz43_5
          try clear hfz43_6
          try clear p2
          obtain ⟨kq, x42_9, rfl, HA, HJ9, BK372, BK380, HB⟩ := hcut
          cases kq with
          | zero => exact absurd HA.out (by simp [laws_FnPktOne.j1])
          | succ kj9 =>
            have H := HA.out
            clear HA
            simp only [laws_FnPktOne.j1] at H
            by_cases c45 : x42_9 = true
            · subst c45
              have H1 : ((spec_PktText.f kj9 t365 t366 t367 t368 t369 t370 t371).bind fun t385 => (if t381.toList = t385.toList then ((spec_PktText.f kj9 t373 t374 t375 t376 t377 t378 t379).bind fun t386 => (some (t382.toList == t386.toList))) else (some false))) = some r := by rw [if_pos rfl] at H; exact H
              clear H
              have H := H1
              clear H1
              replace H := Option.bind_eq_some_iff.mp H
              obtain ⟨t385, A460, H⟩ := H
              replace H : (if t381.toList = t385.toList then ((spec_PktText.f kj9 t373 t374 t375 t376 t377 t378 t379).bind fun t386 => (some (t382.toList == t386.toList))) else (some false)) = some r := H
              have A46 := Aside0.mk A460
              clear A460
              by_cases c47 : t381.toList = t385.toList
              · rw [if_pos c47] at H
                have c47b0 : (t381.toList == t385.toList) = true := beq_iff_eq.mpr c47
                have c47b1 : (t381.toList != t385.toList) = false := bne_eq_false_iff_eq.mpr c47
                clear c47
                replace H := Option.bind_eq_some_iff.mp H
                obtain ⟨t386, A480, H⟩ := H
                replace H : (some (t382.toList == t386.toList)) = some r := H
                have A48 := Aside0.mk A480
                clear A480
                obtain rfl := Option.some.inj H
                have hnb49 := NB372_380.out
                have hnc49 := NB380_372.out
                have hcz50_0 : wc.cell? ⟨gb372, 0, none⟩ = some (.int .i64 t365) := (blk_cell BK372.out 0).trans rfl
                have hcz50_1 : wc.cell? ⟨gb372, 1, none⟩ = some (.int .i64 t366) := (blk_cell BK372.out 1).trans rfl
                have hcz50_2 : wc.cell? ⟨gb372, 2, none⟩ = some (.int .i64 t367) := (blk_cell BK372.out 2).trans rfl
                have hcz50_3 : wc.cell? ⟨gb372, 3, none⟩ = some (.int .i64 t368) := (blk_cell BK372.out 3).trans rfl
                have hcz50_4 : wc.cell? ⟨gb372, 4, none⟩ = some (.int .i64 t369) := (blk_cell BK372.out 4).trans rfl
                have hcz50_5 : wc.cell? ⟨gb372, 5, none⟩ = some (.int .i64 t370) := (blk_cell BK372.out 5).trans rfl
                have hcz50_6 : wc.cell? ⟨gb372, 6, none⟩ = some (.string t371) := (blk_cell BK372.out 6).trans rfl
                have hfz50_0 := blk_frozen BK372.out 0
                have hfz50_1 := blk_frozen BK372.out 1
                have hfz50_2 := blk_frozen BK372.out 2
                have hfz50_3 := blk_frozen BK372.out 3
                have hfz50_4 := blk_frozen BK372.out 4
                have hfz50_5 := blk_frozen BK372.out 5
                have hfz50_6 := blk_frozen BK372.out 6
                go_wp2_with (first | ((with_reducible refine gate_callee (f := 29) rfl ?_); refine goesL_ (some 45) rfl rfl Tryd.func29 (by kernel_rfl) rfl #[.agg #[.int .i64 t365, .int .i64 t366, .int .i64 t367, .int .i64 t368, .int .i64 t369, .int .i64 t370, .string t371]] rfl (by (try simp only [List.map_toArray, List.map_cons, List.map_nil]); first | done | rfl | (simp only [List.length_drop, List.length_take]; rfl)) ?_; (with_reducible refine (spec_PktText.calls kj9 t365 t366 t367 t368 t369 t370 t371 t385 _ A46.out).mono ?_); rintro e w51 ⟨rfl, hb⟩; refine ⟨_, rfl, ?_⟩; have n0_ := Aside0.mk (blk_below (g := gb372) (o := .cells #[.int .i64 t365, .int .i64 t366, .int .i64 t367, .int .i64 t368, .int .i64 t369, .int .i64 t370, .string t371] 35 (0, 0)) (by (with_reducible repeat (first | refine blk_drewN ?_ _ | refine blk_drew ?_ | refine blk_alloc ?_ _)); exact BK372.out) hb); have n1_ := Aside0.mk (blk_below (g := gb380) (o := .cells #[.int .i64 t373, .int .i64 t374, .int .i64 t375, .int .i64 t376, .int .i64 t377, .int .i64 t378, .string t379] 35 (0, 0)) (by (with_reducible repeat (first | refine blk_drewN ?_ _ | refine blk_drew ?_ | refine blk_alloc ?_ _)); exact BK380.out) hb); have n2_ := Aside0.mk (below_step (by repeat (first | (with_reducible first | exact HB.out | apply below_alloc | apply pw_below_drewN | apply below_drew1 | refine below_set ?_ GE372.out | refine below_set ?_ GE380.out) | exact HB.out)) hb); clear BK372; clear BK380; clear HB; have BK372 := n0_; have BK380 := n1_; have HB := n2_; clear n0_ n1_ n2_; (try clear hb); (try clear hb2); (try clear hk); (try clear hi); have hcz52_0 : w51.cell? ⟨gb380, 0, none⟩ = some (.int .i64 t373) := (blk_cell BK380.out 0).trans rfl; have hcz52_1 : w51.cell? ⟨gb380, 1, none⟩ = some (.int .i64 t374) := (blk_cell BK380.out 1).trans rfl; have hcz52_2 : w51.cell? ⟨gb380, 2, none⟩ = some (.int .i64 t375) := (blk_cell BK380.out 2).trans rfl; have hcz52_3 : w51.cell? ⟨gb380, 3, none⟩ = some (.int .i64 t376) := (blk_cell BK380.out 3).trans rfl; have hcz52_4 : w51.cell? ⟨gb380, 4, none⟩ = some (.int .i64 t377) := (blk_cell BK380.out 4).trans rfl; have hcz52_5 : w51.cell? ⟨gb380, 5, none⟩ = some (.int .i64 t378) := (blk_cell BK380.out 5).trans rfl; have hcz52_6 : w51.cell? ⟨gb380, 6, none⟩ = some (.string t379) := (blk_cell BK380.out 6).trans rfl; have hfz52_0 := blk_frozen BK380.out 0; have hfz52_1 := blk_frozen BK380.out 1; have hfz52_2 := blk_frozen BK380.out 2; have hfz52_3 := blk_frozen BK380.out 3; have hfz52_4 := blk_frozen BK380.out 4; have hfz52_5 := blk_frozen BK380.out 5; have hfz52_6 := blk_frozen BK380.out 6) | (go_at_call 29; (with_reducible refine (spec_PktText.calls kj9 t373 t374 t375 t376 t377 t378 t379 t386 _ A48.out).mono ?_); rintro e w53 ⟨rfl, hb⟩; have n0_ := Aside0.mk (blk_below (g := gb372) (o := .cells #[.int .i64 t365, .int .i64 t366, .int .i64 t367, .int .i64 t368, .int .i64 t369, .int .i64 t370, .string t371] 35 (0, 0)) (by (with_reducible repeat (first | refine blk_drewN ?_ _ | refine blk_drew ?_ | refine blk_alloc ?_ _)); exact BK372.out) hb); have n1_ := Aside0.mk (blk_below (g := gb380) (o := .cells #[.int .i64 t373, .int .i64 t374, .int .i64 t375, .int .i64 t376, .int .i64 t377, .int .i64 t378, .string t379] 35 (0, 0)) (by (with_reducible repeat (first | refine blk_drewN ?_ _ | refine blk_drew ?_ | refine blk_alloc ?_ _)); exact BK380.out) hb); have n2_ := Aside0.mk (below_step (by repeat (first | (with_reducible first | exact HB.out | apply below_alloc | apply pw_below_drewN | apply below_drew1 | refine below_set ?_ GE372.out | refine below_set ?_ GE380.out) | exact HB.out)) hb); clear BK372; clear BK380; clear HB; have BK372 := n0_; have BK380 := n1_; have HB := n2_; clear n0_ n1_ n2_; (try clear hb); (try clear hb2); (try clear hk); (try clear hi)))
                go_ret
                exact ⟨by first | rfl | (simp [errW_none, errW_some] <;> rfl) | (simp [*, errW_none, errW_some] <;> rfl) | (simp [errW_none, errW_some, pk_empty1, pk_empty2]; done) | (simp [*, errW_none, errW_some, pk_empty1, pk_empty2]; done), by repeat (first | (with_reducible first | exact HB.out | apply below_alloc | apply pw_below_drewN | apply below_drew1 | refine below_set ?_ GE372.out | refine below_set ?_ GE380.out) | exact HB.out)⟩
              · rw [if_neg c47] at H
                have c47b0 : (t381.toList == t385.toList) = false := beq_eq_false_iff_ne.mpr c47
                have c47b1 : (t381.toList != t385.toList) = true := bne_iff_ne.mpr c47
                obtain rfl := Option.some.inj H
                have hnb54 := NB372_380.out
                have hnc54 := NB380_372.out
                have hcz55_0 : wc.cell? ⟨gb372, 0, none⟩ = some (.int .i64 t365) := (blk_cell BK372.out 0).trans rfl
                have hcz55_1 : wc.cell? ⟨gb372, 1, none⟩ = some (.int .i64 t366) := (blk_cell BK372.out 1).trans rfl
                have hcz55_2 : wc.cell? ⟨gb372, 2, none⟩ = some (.int .i64 t367) := (blk_cell BK372.out 2).trans rfl
                have hcz55_3 : wc.cell? ⟨gb372, 3, none⟩ = some (.int .i64 t368) := (blk_cell BK372.out 3).trans rfl
                have hcz55_4 : wc.cell? ⟨gb372, 4, none⟩ = some (.int .i64 t369) := (blk_cell BK372.out 4).trans rfl
                have hcz55_5 : wc.cell? ⟨gb372, 5, none⟩ = some (.int .i64 t370) := (blk_cell BK372.out 5).trans rfl
                have hcz55_6 : wc.cell? ⟨gb372, 6, none⟩ = some (.string t371) := (blk_cell BK372.out 6).trans rfl
                have hfz55_0 := blk_frozen BK372.out 0
                have hfz55_1 := blk_frozen BK372.out 1
                have hfz55_2 := blk_frozen BK372.out 2
                have hfz55_3 := blk_frozen BK372.out 3
                have hfz55_4 := blk_frozen BK372.out 4
                have hfz55_5 := blk_frozen BK372.out 5
                have hfz55_6 := blk_frozen BK372.out 6
                go_wp2_with (first | ((with_reducible refine gate_callee (f := 29) rfl ?_); refine goesL_ (some 45) rfl rfl Tryd.func29 (by kernel_rfl) rfl #[.agg #[.int .i64 t365, .int .i64 t366, .int .i64 t367, .int .i64 t368, .int .i64 t369, .int .i64 t370, .string t371]] rfl (by (try simp only [List.map_toArray, List.map_cons, List.map_nil]); first | done | rfl | (simp only [List.length_drop, List.length_take]; rfl)) ?_; (with_reducible refine (spec_PktText.calls kj9 t365 t366 t367 t368 t369 t370 t371 t385 _ A46.out).mono ?_); rintro e w56 ⟨rfl, hb⟩; refine ⟨_, rfl, ?_⟩; have n0_ := Aside0.mk (blk_below (g := gb372) (o := .cells #[.int .i64 t365, .int .i64 t366, .int .i64 t367, .int .i64 t368, .int .i64 t369, .int .i64 t370, .string t371] 35 (0, 0)) (by (with_reducible repeat (first | refine blk_drewN ?_ _ | refine blk_drew ?_ | refine blk_alloc ?_ _)); exact BK372.out) hb); have n1_ := Aside0.mk (blk_below (g := gb380) (o := .cells #[.int .i64 t373, .int .i64 t374, .int .i64 t375, .int .i64 t376, .int .i64 t377, .int .i64 t378, .string t379] 35 (0, 0)) (by (with_reducible repeat (first | refine blk_drewN ?_ _ | refine blk_drew ?_ | refine blk_alloc ?_ _)); exact BK380.out) hb); have n2_ := Aside0.mk (below_step (by repeat (first | (with_reducible first | exact HB.out | apply below_alloc | apply pw_below_drewN | apply below_drew1 | refine below_set ?_ GE372.out | refine below_set ?_ GE380.out) | exact HB.out)) hb); clear BK372; clear BK380; clear HB; have BK372 := n0_; have BK380 := n1_; have HB := n2_; clear n0_ n1_ n2_; (try clear hb); (try clear hb2); (try clear hk); (try clear hi)))
                go_ret
                exact ⟨by first | rfl | (simp [errW_none, errW_some] <;> rfl) | (simp [*, errW_none, errW_some] <;> rfl) | (simp [errW_none, errW_some, pk_empty1, pk_empty2]; done) | (simp [*, errW_none, errW_some, pk_empty1, pk_empty2]; done), by repeat (first | (with_reducible first | exact HB.out | apply below_alloc | apply pw_below_drewN | apply below_drew1 | refine below_set ?_ GE372.out | refine below_set ?_ GE380.out) | exact HB.out)⟩
            · replace c45 := Bool.eq_false_iff.mpr c45
              subst c45
              have H1 : (some ((t381.toList == t382.toList) == (t365 == t373 && ((t366 == t374 && (t367 == t375)) && ((t368 == t376 && (t369 == t377)) && (t370 == t378 && (t371.toList == t379.toList))))))) = some r := by rw [if_neg (show ¬ (false = true) by decide)] at H; exact H
              clear H
              have H := H1
              clear H1
              obtain rfl := Option.some.inj H
              have hnb57 := NB372_380.out
              have hnc57 := NB380_372.out
              have hcz58_0 : wc.cell? ⟨gb372, 0, none⟩ = some (.int .i64 t365) := (blk_cell BK372.out 0).trans rfl
              have hcz58_1 : wc.cell? ⟨gb372, 1, none⟩ = some (.int .i64 t366) := (blk_cell BK372.out 1).trans rfl
              have hcz58_2 : wc.cell? ⟨gb372, 2, none⟩ = some (.int .i64 t367) := (blk_cell BK372.out 2).trans rfl
              have hcz58_3 : wc.cell? ⟨gb372, 3, none⟩ = some (.int .i64 t368) := (blk_cell BK372.out 3).trans rfl
              have hcz58_4 : wc.cell? ⟨gb372, 4, none⟩ = some (.int .i64 t369) := (blk_cell BK372.out 4).trans rfl
              have hcz58_5 : wc.cell? ⟨gb372, 5, none⟩ = some (.int .i64 t370) := (blk_cell BK372.out 5).trans rfl
              have hcz58_6 : wc.cell? ⟨gb372, 6, none⟩ = some (.string t371) := (blk_cell BK372.out 6).trans rfl
              have hfz58_0 := blk_frozen BK372.out 0
              have hfz58_1 := blk_frozen BK372.out 1
              have hfz58_2 := blk_frozen BK372.out 2
              have hfz58_3 := blk_frozen BK372.out 3
              have hfz58_4 := blk_frozen BK372.out 4
              have hfz58_5 := blk_frozen BK372.out 5
              have hfz58_6 := blk_frozen BK372.out 6
              have hcz59_0 : wc.cell? ⟨gb380, 0, none⟩ = some (.int .i64 t373) := (blk_cell BK380.out 0).trans rfl
              have hcz59_1 : wc.cell? ⟨gb380, 1, none⟩ = some (.int .i64 t374) := (blk_cell BK380.out 1).trans rfl
              have hcz59_2 : wc.cell? ⟨gb380, 2, none⟩ = some (.int .i64 t375) := (blk_cell BK380.out 2).trans rfl
              have hcz59_3 : wc.cell? ⟨gb380, 3, none⟩ = some (.int .i64 t376) := (blk_cell BK380.out 3).trans rfl
              have hcz59_4 : wc.cell? ⟨gb380, 4, none⟩ = some (.int .i64 t377) := (blk_cell BK380.out 4).trans rfl
              have hcz59_5 : wc.cell? ⟨gb380, 5, none⟩ = some (.int .i64 t378) := (blk_cell BK380.out 5).trans rfl
              have hcz59_6 : wc.cell? ⟨gb380, 6, none⟩ = some (.string t379) := (blk_cell BK380.out 6).trans rfl
              have hfz59_0 := blk_frozen BK380.out 0
              have hfz59_1 := blk_frozen BK380.out 1
              have hfz59_2 := blk_frozen BK380.out 2
              have hfz59_3 := blk_frozen BK380.out 3
              have hfz59_4 := blk_frozen BK380.out 4
              have hfz59_5 := blk_frozen BK380.out 5
              have hfz59_6 := blk_frozen BK380.out 6
              go_wp2
              go_ret
              exact ⟨by first | rfl | (simp [errW_none, errW_some] <;> rfl) | (simp [*, errW_none, errW_some] <;> rfl) | (simp [errW_none, errW_some, pk_empty1, pk_empty2]; done) | (simp [*, errW_none, errW_some, pk_empty1, pk_empty2]; done), by repeat (first | (with_reducible first | exact HB.out | apply below_alloc | apply pw_below_drewN | apply below_drew1 | refine below_set ?_ GE372.out | refine below_set ?_ GE380.out) | exact HB.out)⟩

/-- THE ONE PURE STATEMENT of laws_FnPktOne: yours. -/
def laws_FnPktOne.Pure : Prop := ∀ (l0 : List Int) (l1 : List Int), l0.length ≤ maxLen → l0.length * 1 ≤ 140737488351232 → (∀ x ∈ l0, (Lit.int .u8 x).wf = true) → l1.length ≤ maxLen → l1.length * 1 ≤ 140737488351232 → (∀ x ∈ l1, (Lit.int .u8 x).wf = true) → ∃ k, laws_FnPktOne.f k l0 l1 = some true
theorem laws_FnPktOne.walk (P : laws_FnPktOne.Pure) (a0 : Option Addr) (len0 cap0 : Nat) (z0 : List Int) (a1 : Option Addr) (len1 cap1 : Nat) (z1 : List Int) (w : World) (w0 : (a0 = none ∧ len0 = 0 ∧ cap0 = 0 ∧ z0 = []) ∨ ∃ x, a0 = some x ∧ len0 ≤ cap0 ∧ cap0 ≤ maxLen ∧ z0.length = cap0 ∧ (∀ i, i < z0.length → w.cell? (x.add i) = some (.int .u8 (z0.getD i 0))) ∧ ∀ n ∈ z0, (Lit.int .u8 n).wf = true) (y0 : len0 * 1 ≤ 140737488351232) (w1 : (a1 = none ∧ len1 = 0 ∧ cap1 = 0 ∧ z1 = []) ∨ ∃ x, a1 = some x ∧ len1 ≤ cap1 ∧ cap1 ≤ maxLen ∧ z1.length = cap1 ∧ (∀ i, i < z1.length → w.cell? (x.add i) = some (.int .u8 (z1.getD i 0))) ∧ ∀ n ∈ z1, (Lit.int .u8 n).wf = true) (y1 : len1 * 1 ≤ 140737488351232) :
    Calls Tryd.prog 8 #[.slice a0 len0 cap0, .slice a1 len1 cap1] w fun e w' => e = .returned (.bool true) ∧ Below w.heap.size w w' := by
  obtain ⟨l0, rfl, hr0, hm0, hw0, hc0⟩ := ReadsInt.ofRowC w0
  obtain ⟨l1, rfl, hr1, hm1, hw1, hc1⟩ := ReadsInt.ofRowC w1
  obtain ⟨k, h⟩ := P l0 l1 hm0 y0 hw0 hm1 y1 hw1
  refine (laws_FnPktOne.calls k _ _ l0 _ _ l1 true w (Kd.C_of_reads (d := (0 : Int)) (h1 := fun _ => rfl) hr0) hc0 (Kd.C_of_reads (d := (0 : Int)) (h1 := fun _ => rfl) hr1) hc1 h).mono ?_
  rintro e w' ⟨rfl, hd⟩
  exact ⟨rfl, hd⟩

end Go.Proofs.YtdphdheodloofaaDoor.A
