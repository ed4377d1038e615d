-- Printed by myprint.py (wip/tools) out of the translation. Not trusted: Lean checks it.
import Derived.Test.YtclhmoghkcnkmaaDoorAx0
import Derived.Test.YtclhmoghkcnkmaaDoorAx4
namespace Go.Proofs.YtclhmoghkcnkmaaDoor.A
open Go.RowKit Go.Proofs.YtclhmoghkcnkmaaDoorW.PrintWords Go.Proofs.YtclhmoghkcnkmaaDoorW.PrintLast Go.Proofs.YtclhmoghkcnkmaaDoorW.PrintMore
attribute [local go_sem] max2_int min2_int max_two min_two max_three min_three max_four min_four   -- for this text's walks alone
set_option linter.unusedVariables false
set_option linter.unusedSimpArgs false

/-! ### impl_Conv_say: function 68 -/
def impl_Conv_say.j0 : Nat → Bool → Int → Int → ByteArray → Int → Int → Int → Int → Int → Int → ByteArray → Option (Int × Int × Int × Int × Int × Int × ByteArray × Bool)
 | 0, _, _, _, _, _, _, _, _, _, _, _ => none
 | k + 1, x1, x3, x4, x13, x460000, x460001, x460002, x460003, x460004, x460005, x460006 => (impl_within.f x3 0 (wrap64 ((x13.size : Int) - 1))).bind fun t460 => (if t460 = true then (if x4 < 1 then (some (0, 0, 0, 0, 0, 0, (⟨#[]⟩ : ByteArray), false)) else (if x1 = true then (if 0 ≤ x3 then (if x3 ≤ (wrap64 (x3 + (mn x4 (wrap64 ((x13.size : Int) - x3))))) then (if (wrap64 (x3 + (mn x4 (wrap64 ((x13.size : Int) - x3))))) ≤ (x13.size : Int) then (some (x460000, x460001, x460002, x460003, x460004, x460005, x13.extract (x3 : Int).toNat ((wrap64 (x3 + (mn x4 (wrap64 ((x13.size : Int) - x3))))) : Int).toNat, true)) else (none)) else (none)) else (none)) else ((impl_EndDoor.f x460003 x460004).bind fun t461 => (if t461 = true then (if 0 ≤ x3 then (if x3 ≤ (wrap64 (x3 + (mn x4 (wrap64 ((x13.size : Int) - x3))))) then (if (wrap64 (x3 + (mn x4 (wrap64 ((x13.size : Int) - x3))))) ≤ (x13.size : Int) then (some (x460000, x460001, x460002, x460003, x460004, x460005, x13.extract (x3 : Int).toNat ((wrap64 (x3 + (mn x4 (wrap64 ((x13.size : Int) - x3))))) : Int).toNat, true)) else (none)) else (none)) else (none)) else (some (0, 0, 0, 0, 0, 0, (⟨#[]⟩ : ByteArray), false)))))) else (some (0, 0, 0, 0, 0, 0, (⟨#[]⟩ : ByteArray), false)))
def impl_Conv_say.f (k : Nat) (a0_0 : Int) (a0_1 : Int) (a0_2 : Int) (a0_3 : Int) (a0_4 : ByteArray) (a0_5 : ByteArray) (a0_6 : Int) (a0_7 : Int) (a0_8 : ByteArray) (a0_9 : ByteArray) (a1 : Bool) (a2 : Int) (a3 : Int) (a4 : Int) : Option (Int × Int × Int × Int × Int × Int × ByteArray × Bool) := if a1 = true then (impl_Conv_say.j0 k a1 a3 a4 a0_4 1 a0_0 a0_1 a0_2 a0_3 a3 (⟨#[]⟩ : ByteArray)) else (impl_Conv_say.j0 k a1 a3 a4 a0_5 1 a0_2 a0_3 9 a2 a3 (⟨#[]⟩ : ByteArray))
theorem impl_Conv_say.mono_l : ∀ k, (∀ y0 y1 y2 y3 y4 y5 y6 y7 y8 y9 y10, LeO (impl_Conv_say.j0 k y0 y1 y2 y3 y4 y5 y6 y7 y8 y9 y10) (impl_Conv_say.j0 (k + 1) y0 y1 y2 y3 y4 y5 y6 y7 y8 y9 y10))
 | 0 => fun _ _ _ _ _ _ _ _ _ _ _ r h => by simp [impl_Conv_say.j0] at h
 | k + 1 => by
  have ih0:=impl_Conv_say.mono_l k
  ·intro y0 y1 y2 y3 y4 y5 y6 y7 y8 y9 y10
   unfold impl_Conv_say.j0
   repeat' first
   | (with_reducible exact ih0 _ _ _ _ _ _ _ _ _ _ _)
   | (with_reducible exact LeO.refl _)
   | (with_reducible exact LeO.none _)
   | (with_reducible refine LeO.ite ?_ ?_)
   | (with_reducible refine LeO.bind ?_ (fun _ => ?_))
   | exact ih0 _ _ _ _ _ _ _ _ _ _ _
   | exact LeO.none _
   | refine LeO.ite ?_ ?_
   | refine LeO.bind ?_ (fun _ => ?_)
theorem impl_Conv_say.mono : ∀ a0 a1 a2 a3 a4 a5 a6 a7 a8 a9 a10 a11 a12 a13 k, LeO (impl_Conv_say.f k a0 a1 a2 a3 a4 a5 a6 a7 a8 a9 a10 a11 a12 a13) (impl_Conv_say.f (k + 1) a0 a1 a2 a3 a4 a5 a6 a7 a8 a9 a10 a11 a12 a13) := by
 intro a0 a1 a2 a3 a4 a5 a6 a7 a8 a9 a10 a11 a12 a13 k
 have ih0:=impl_Conv_say.mono_l k
 unfold impl_Conv_say.f
 repeat' first
   | (with_reducible exact ih0 _ _ _ _ _ _ _ _ _ _ _)
   | (with_reducible exact LeO.refl _)
   | (with_reducible exact LeO.none _)
   | (with_reducible refine LeO.ite ?_ ?_)
   | (with_reducible refine LeO.bind ?_ (fun _ => ?_))
   | exact ih0 _ _ _ _ _ _ _ _ _ _ _
   | exact LeO.none _
   | refine LeO.ite ?_ ?_
   | refine LeO.bind ?_ (fun _ => ?_)
set_option maxHeartbeats 8000000 in
set_option maxRecDepth 100000 in
theorem impl_Conv_say.calls (k : Nat) (a0_0 : Int) (a0_1 : Int) (a0_2 : Int) (a0_3 : Int) (a0_4 : ByteArray) (a0_5 : ByteArray) (a0_6 : Int) (a0_7 : Int) (a0_8 : ByteArray) (a0_9 : ByteArray) (a1 : Bool) (a2 : Int) (a3 : Int) (a4 : Int) (r1 : Int) (r2 : Int) (r3 : Int) (r4 : Int) (r5 : Int) (r6 : Int) (r7 : ByteArray) (r8 : Bool) (w : World) (h : impl_Conv_say.f k a0_0 a0_1 a0_2 a0_3 a0_4 a0_5 a0_6 a0_7 a0_8 a0_9 a1 a2 a3 a4 = some (r1, r2, r3, r4, r5, r6, r7, r8)) :
  Calls Tryd.prog 68 #[.agg #[.int .i64 a0_0,.int .i64 a0_1,.int .i64 a0_2,.int .i64 a0_3,.string a0_4,.string a0_5,.int .i64 a0_6,.int .i64 a0_7,.string a0_8,.string a0_9],.bool a1,.int .i64 a2,.int .i64 a3,.int .i64 a4] w fun e w'=>e = .returned (.tuple #[.agg #[.int .i64 r1,.int .i64 r2,.int .i64 r3,.int .i64 r4,.int .i64 r5,.int .i64 r6,.string r7],.bool r8]) ∧ Below w.heap.size w w':=by
 have hu42:=Tryd.underlying42
 have hu57:=Tryd.underlying57
 have hu32:=Tryd.underlying32
 have HB:=m_ (Below.refl w.heap.size w)
 have H : (if a1 = true then (impl_Conv_say.j0 k a1 a3 a4 a0_4 1 a0_0 a0_1 a0_2 a0_3 a3 (⟨#[]⟩ : ByteArray)) else (impl_Conv_say.j0 k a1 a3 a4 a0_5 1 a0_2 a0_3 9 a2 a3 (⟨#[]⟩ : ByteArray))) = some (r1,r2,r3,r4,r5,r6,r7,r8):=h
 clear h
 have HC6:=m_ H
 clear H
 go_enter Tryd.func68,Tryd.ntmps68
 go_upto_if 23 with (first|((with_reducible refine gate_dst (N:=5) rfl ?_);refine box_event ?hg (N:=5) ?hd (cs:=#[.int .i64 a0_0,.int .i64 a0_1,.int .i64 a0_2,.int .i64 a0_3,.string a0_4,.string a0_5,.int .i64 a0_6,.int .i64 a0_7,.string a0_8,.string a0_9]) (t:=42) ?hr ?_;(case hd=>rfl);(case hg=>rfl);(case hr=>first|(go_simp;done)|(go_simp;rfl));intro gb457 hg w7 hbox hb;have n0_:=m_ (l5_ (by repeat (first|(with_reducible first|exact HB.out|apply l1_|apply l2_|apply l3_)|exact HB.out)) hb);have n1_:=m_ (hbox);have n2_:=m_ ((by rw [hg];exact (l6_ (by repeat (first|(with_reducible first|exact HB.out|apply l1_|apply l2_|apply l3_)|exact HB.out))) : w.heap.size ≤ gb457));have n3_:=m_ ((by rw [hg];exact (l6_ (by repeat (first|(with_reducible first|exact HB.out|apply l1_|apply l2_|apply l3_)|exact HB.out))) : w.heap.size ≤ gb457));clear HB;have HB:=n0_;have BK457:=n1_;have GW457:=n2_;have GE457:=n3_;clear n0_ n1_ n2_ n3_;clear hb hbox hg)|((with_reducible refine gate_dst (N:=10) rfl ?_);refine box_event ?hg (N:=10) ?hd (cs:=#[.int .i64 0,.int .i64 0,.int .i64 0,.int .i64 0,.int .i64 0,.int .i64 0,.string (⟨#[]⟩ : ByteArray)]) (t:=57) ?hr ?_;(case hd=>rfl);(case hg=>rfl);(case hr=>first|(go_simp;done)|(go_simp;rfl));intro gb458 hg w8 hbox hb;have n0_:=m_ (blk_below (g:=gb457) (o:=.cells #[.int .i64 a0_0,.int .i64 a0_1,.int .i64 a0_2,.int .i64 a0_3,.string a0_4,.string a0_5,.int .i64 a0_6,.int .i64 a0_7,.string a0_8,.string a0_9] 42 (0,0)) (by (with_reducible repeat first|apply b1_|apply b2_|apply b3_);exact BK457.out) hb);have n1_:=m_ (l5_ (by repeat (first|(with_reducible first|exact HB.out|apply l1_|apply l2_|apply l3_|refine l4_ ?_ GE457.out)|exact HB.out)) hb);have n2_:=m_ (hbox);have n3_:=m_ ((by rw [hg];exact (l6_ (by repeat (first|(with_reducible first|exact HB.out|apply l1_|apply l2_|apply l3_|refine l4_ ?_ GE457.out)|exact HB.out))) : w.heap.size ≤ gb458));have n4_:=n3_;have n5_:=m_ ((by rw [hg];exact Nat.ne_of_lt (blk_lt (g:=gb457) (o:=.cells #[.int .i64 a0_0,.int .i64 a0_1,.int .i64 a0_2,.int .i64 a0_3,.string a0_4,.string a0_5,.int .i64 a0_6,.int .i64 a0_7,.string a0_8,.string a0_9] 42 (0,0)) (by (with_reducible repeat first|apply b1_|apply b2_|apply b3_);exact BK457.out)) : gb457 ≠ gb458));have n6_:=m_ ((by rw [hg];exact Nat.ne_of_gt (blk_lt (g:=gb457) (o:=.cells #[.int .i64 a0_0,.int .i64 a0_1,.int .i64 a0_2,.int .i64 a0_3,.string a0_4,.string a0_5,.int .i64 a0_6,.int .i64 a0_7,.string a0_8,.string a0_9] 42 (0,0)) (by (with_reducible repeat first|apply b1_|apply b2_|apply b3_);exact BK457.out)) : gb458 ≠ gb457));clear BK457;clear HB;have BK457:=n0_;have HB:=n1_;have BK458:=n2_;have GW458:=n3_;have GE458:=n4_;have NB457_458:=n5_;have NB458_457:=n6_;clear n0_ n1_ n2_ n3_ n4_ n5_ n6_;clear hb hbox hg;have hnb9:=NB457_458.out;have hnc9:=NB458_457.out;have hcz10_0 : w8.cell? ⟨gb457,0,none⟩ = some (.int .i64 a0_0):=(c_ BK457.out 0).trans rfl;have hcz10_1 : w8.cell? ⟨gb457,1,none⟩ = some (.int .i64 a0_1):=(c_ BK457.out 1).trans rfl;have hcz10_2 : w8.cell? ⟨gb457,2,none⟩ = some (.int .i64 a0_2):=(c_ BK457.out 2).trans rfl;have hcz10_3 : w8.cell? ⟨gb457,3,none⟩ = some (.int .i64 a0_3):=(c_ BK457.out 3).trans rfl;have hcz10_4 : w8.cell? ⟨gb457,4,none⟩ = some (.string a0_4):=(c_ BK457.out 4).trans rfl;have hcz10_5 : w8.cell? ⟨gb457,5,none⟩ = some (.string a0_5):=(c_ BK457.out 5).trans rfl;have hcz10_6 : w8.cell? ⟨gb457,6,none⟩ = some (.int .i64 a0_6):=(c_ BK457.out 6).trans rfl;have hcz10_7 : w8.cell? ⟨gb457,7,none⟩ = some (.int .i64 a0_7):=(c_ BK457.out 7).trans rfl;have hcz10_8 : w8.cell? ⟨gb457,8,none⟩ = some (.string a0_8):=(c_ BK457.out 8).trans rfl;have hcz10_9 : w8.cell? ⟨gb457,9,none⟩ = some (.string a0_9):=(c_ BK457.out 9).trans rfl;have hfz10_0:=f_ BK457.out 0;have hfz10_1:=f_ BK457.out 1;have hfz10_2:=f_ BK457.out 2;have hfz10_3:=f_ BK457.out 3;have hfz10_4:=f_ BK457.out 4;have hfz10_5:=f_ BK457.out 5;have hfz10_6:=f_ BK457.out 6;have hfz10_7:=f_ BK457.out 7;have hfz10_8:=f_ BK457.out 8;have hfz10_9:=f_ BK457.out 9)|((with_reducible refine gate_dst (N:=12) rfl ?_);refine box_event ?hg (N:=12) ?hd (cs:=#[.int .i64 0,.int .i64 0,.int .i64 0,.int .i64 0,.int .i64 0,.int .i64 0,.string (⟨#[]⟩ : ByteArray)]) (t:=57) ?hr ?_;(case hd=>rfl);(case hg=>rfl);(case hr=>first|(go_simp;done)|(go_simp;rfl));intro gb459 hg w11 hbox hb;have n0_:=m_ (blk_below (g:=gb457) (o:=.cells #[.int .i64 a0_0,.int .i64 a0_1,.int .i64 a0_2,.int .i64 a0_3,.string a0_4,.string a0_5,.int .i64 a0_6,.int .i64 a0_7,.string a0_8,.string a0_9] 42 (0,0)) (by (with_reducible repeat first|apply b1_|apply b2_|apply b3_);exact BK457.out) hb);have n1_:=m_ (blk_below (g:=gb458) (o:=.cells #[.int .i64 0,.int .i64 0,.int .i64 0,.int .i64 0,.int .i64 0,.int .i64 0,.string (⟨#[]⟩ : ByteArray)] 57 (0,0)) (by (with_reducible repeat first|apply b1_|apply b2_|apply b3_);exact BK458.out) hb);have n2_:=m_ (l5_ (by repeat (first|(with_reducible first|exact HB.out|apply l1_|apply l2_|apply l3_|refine l4_ ?_ GE457.out|refine l4_ ?_ GE458.out)|exact HB.out)) hb);have n3_:=m_ (hbox);have n4_:=m_ ((by rw [hg];exact (l6_ (by repeat (first|(with_reducible first|exact HB.out|apply l1_|apply l2_|apply l3_|refine l4_ ?_ GE457.out|refine l4_ ?_ GE458.out)|exact HB.out))) : w.heap.size ≤ gb459));have n5_:=n4_;have n6_:=m_ ((by rw [hg];exact Nat.ne_of_lt (blk_lt (g:=gb457) (o:=.cells #[.int .i64 a0_0,.int .i64 a0_1,.int .i64 a0_2,.int .i64 a0_3,.string a0_4,.string a0_5,.int .i64 a0_6,.int .i64 a0_7,.string a0_8,.string a0_9] 42 (0,0)) (by (with_reducible repeat first|apply b1_|apply b2_|apply b3_);exact BK457.out)) : gb457 ≠ gb459));have n7_:=m_ n6_.out.symm;have n8_:=m_ ((by rw [hg];exact Nat.ne_of_lt (blk_lt (g:=gb458) (o:=.cells #[.int .i64 0,.int .i64 0,.int .i64 0,.int .i64 0,.int .i64 0,.int .i64 0,.string (⟨#[]⟩ : ByteArray)] 57 (0,0)) (by (with_reducible repeat first|apply b1_|apply b2_|apply b3_);exact BK458.out)) : gb458 ≠ gb459));have n9_:=m_ n8_.out.symm;clear BK457;clear BK458;clear HB;have BK457:=n0_;have BK458:=n1_;have HB:=n2_;have BK459:=n3_;have GW459:=n4_;have GE459:=n5_;have NB457_459:=n6_;have NB459_457:=n7_;have NB458_459:=n8_;have NB459_458:=n9_;clear n0_ n1_ n2_ n3_ n4_ n5_ n6_ n7_ n8_ n9_;clear hb hbox hg;have hnb12:=NB459_457.out;have hnc12:=NB457_459.out;have hnb13:=NB459_458.out;have hnc13:=NB458_459.out;have hcz14_0 : w11.cell? ⟨gb459,0,none⟩ = some (.int .i64 0):=(c_ BK459.out 0).trans rfl;have hcz14_1 : w11.cell? ⟨gb459,1,none⟩ = some (.int .i64 0):=(c_ BK459.out 1).trans rfl;have hcz14_2 : w11.cell? ⟨gb459,2,none⟩ = some (.int .i64 0):=(c_ BK459.out 2).trans rfl;have hcz14_3 : w11.cell? ⟨gb459,3,none⟩ = some (.int .i64 0):=(c_ BK459.out 3).trans rfl;have hcz14_4 : w11.cell? ⟨gb459,4,none⟩ = some (.int .i64 0):=(c_ BK459.out 4).trans rfl;have hcz14_5 : w11.cell? ⟨gb459,5,none⟩ = some (.int .i64 0):=(c_ BK459.out 5).trans rfl;have hcz14_6 : w11.cell? ⟨gb459,6,none⟩ = some (.string (⟨#[]⟩ : ByteArray)):=(c_ BK459.out 6).trans rfl;have hfz14_0:=f_ BK459.out 0;have hfz14_1:=f_ BK459.out 1;have hfz14_2:=f_ BK459.out 2;have hfz14_3:=f_ BK459.out 3;have hfz14_4:=f_ BK459.out 4;have hfz14_5:=f_ BK459.out 5;have hfz14_6:=f_ BK459.out 6;have hcz15_0 : w11.cell? ⟨gb457,0,none⟩ = some (.int .i64 a0_0):=(c_ BK457.out 0).trans rfl;have hcz15_1 : w11.cell? ⟨gb457,1,none⟩ = some (.int .i64 a0_1):=(c_ BK457.out 1).trans rfl;have hcz15_2 : w11.cell? ⟨gb457,2,none⟩ = some (.int .i64 a0_2):=(c_ BK457.out 2).trans rfl;have hcz15_3 : w11.cell? ⟨gb457,3,none⟩ = some (.int .i64 a0_3):=(c_ BK457.out 3).trans rfl;have hcz15_4 : w11.cell? ⟨gb457,4,none⟩ = some (.string a0_4):=(c_ BK457.out 4).trans rfl;have hcz15_5 : w11.cell? ⟨gb457,5,none⟩ = some (.string a0_5):=(c_ BK457.out 5).trans rfl;have hcz15_6 : w11.cell? ⟨gb457,6,none⟩ = some (.int .i64 a0_6):=(c_ BK457.out 6).trans rfl;have hcz15_7 : w11.cell? ⟨gb457,7,none⟩ = some (.int .i64 a0_7):=(c_ BK457.out 7).trans rfl;have hcz15_8 : w11.cell? ⟨gb457,8,none⟩ = some (.string a0_8):=(c_ BK457.out 8).trans rfl;have hcz15_9 : w11.cell? ⟨gb457,9,none⟩ = some (.string a0_9):=(c_ BK457.out 9).trans rfl;have hfz15_0:=f_ BK457.out 0;have hfz15_1:=f_ BK457.out 1;have hfz15_2:=f_ BK457.out 2;have hfz15_3:=f_ BK457.out 3;have hfz15_4:=f_ BK457.out 4;have hfz15_5:=f_ BK457.out 5;have hfz15_6:=f_ BK457.out 6;have hfz15_7:=f_ BK457.out 7;have hfz15_8:=f_ BK457.out 8;have hfz15_9:=f_ BK457.out 9))
 (try simp only [Act.put,s1_,s2_,s3_])
 go_cut [13] (fun v13 wc=>∃ (kq : Nat) (x13_5 : ByteArray) (x460001_5 : Int) (x460002_5 : Int) (x460003_5 : Int) (x460004_5 : Int),v13 = .string x13_5 ∧ Aside0 (impl_Conv_say.j0 kq a1 a3 a4 x13_5 1 x460001_5 x460002_5 x460003_5 x460004_5 a3 (⟨#[]⟩ : ByteArray) = some (r1,r2,r3,r4,r5,r6,r7,r8)) ∧ Aside0 (kq ≤ k) ∧ Aside0 (wc.heap[gb457]? = some (.cells #[.int .i64 a0_0,.int .i64 a0_1,.int .i64 a0_2,.int .i64 a0_3,.string a0_4,.string a0_5,.int .i64 a0_6,.int .i64 a0_7,.string a0_8,.string a0_9] 42 (0,0))) ∧ Aside0 (wc.heap[gb458]? = some (.cells #[.int .i64 0,.int .i64 0,.int .i64 0,.int .i64 0,.int .i64 0,.int .i64 0,.string (⟨#[]⟩ : ByteArray)] 57 (0,0))) ∧ Aside0 (wc.heap[gb459]? = some (.cells #[.int .i64 1,.int .i64 x460001_5,.int .i64 x460002_5,.int .i64 x460003_5,.int .i64 x460004_5,.int .i64 a3,.string (⟨#[]⟩ : ByteArray)] 57 (0,0))) ∧ Aside0 (Below w.heap.size w wc))
 case first =>
  have H:=HC6.out
  clear HC6
  by_cases c16 : a1 = true
  ·subst c16
   have H1 : (impl_Conv_say.j0 k true a3 a4 a0_4 1 a0_0 a0_1 a0_2 a0_3 a3 (⟨#[]⟩ : ByteArray)) = some (r1,r2,r3,r4,r5,r6,r7,r8):=by rw [if_pos rfl] at H;exact H
   clear H
   have H:=H1
   clear H1
   have H':=m_ H
   clear H
   go_wp2
   go_meet
   case rel=>exact ⟨_,(a0_4),(a0_0),(a0_1),(a0_2),(a0_3),(by first|rfl|(simp;done)|(simp [*];done)),H',⟨by first|omega|exact Nat.le_refl _⟩,⟨by (with_reducible repeat first|apply b1_|apply b2_|apply b3_);refine b4_ ?_ NB457_459.out _;(with_reducible repeat first|apply b1_|apply b2_|apply b3_);refine b4_ ?_ NB457_459.out _;(with_reducible repeat first|apply b1_|apply b2_|apply b3_);refine b4_ ?_ NB457_459.out _;(with_reducible repeat first|apply b1_|apply b2_|apply b3_);refine b4_ ?_ NB457_459.out _;(with_reducible repeat first|apply b1_|apply b2_|apply b3_);refine b4_ ?_ NB457_459.out _;(with_reducible repeat first|apply b1_|apply b2_|apply b3_);refine b4_ ?_ NB457_459.out _;(with_reducible repeat first|apply b1_|apply b2_|apply b3_);refine b4_ ?_ NB457_459.out _;(with_reducible repeat first|apply b1_|apply b2_|apply b3_);exact BK457.out⟩,⟨by (with_reducible repeat first|apply b1_|apply b2_|apply b3_);refine b4_ ?_ NB458_459.out _;(with_reducible repeat first|apply b1_|apply b2_|apply b3_);refine b4_ ?_ NB458_459.out _;(with_reducible repeat first|apply b1_|apply b2_|apply b3_);refine b4_ ?_ NB458_459.out _;(with_reducible repeat first|apply b1_|apply b2_|apply b3_);refine b4_ ?_ NB458_459.out _;(with_reducible repeat first|apply b1_|apply b2_|apply b3_);refine b4_ ?_ NB458_459.out _;(with_reducible repeat first|apply b1_|apply b2_|apply b3_);refine b4_ ?_ NB458_459.out _;(with_reducible repeat first|apply b1_|apply b2_|apply b3_);refine b4_ ?_ NB458_459.out _;(with_reducible repeat first|apply b1_|apply b2_|apply b3_);exact BK458.out⟩,⟨by (with_reducible repeat first|apply b1_|apply b2_|apply b3_);refine blk_put (cs:=#[.int .i64 1,.int .i64 a0_0,.int .i64 a0_1,.int .i64 a0_2,.int .i64 a0_3,.int .i64 a3,.string (⟨#[]⟩ : ByteArray)]) ?_ 6 _ rfl;(with_reducible repeat first|apply b1_|apply b2_|apply b3_);refine blk_put (cs:=#[.int .i64 1,.int .i64 a0_0,.int .i64 a0_1,.int .i64 a0_2,.int .i64 a0_3,.int .i64 0,.string (⟨#[]⟩ : ByteArray)]) ?_ 5 _ rfl;(with_reducible repeat first|apply b1_|apply b2_|apply b3_);refine blk_put (cs:=#[.int .i64 1,.int .i64 a0_0,.int .i64 a0_1,.int .i64 a0_2,.int .i64 0,.int .i64 0,.string (⟨#[]⟩ : ByteArray)]) ?_ 4 _ rfl;(with_reducible repeat first|apply b1_|apply b2_|apply b3_);refine blk_put (cs:=#[.int .i64 1,.int .i64 a0_0,.int .i64 a0_1,.int .i64 0,.int .i64 0,.int .i64 0,.string (⟨#[]⟩ : ByteArray)]) ?_ 3 _ rfl;(with_reducible repeat first|apply b1_|apply b2_|apply b3_);refine blk_put (cs:=#[.int .i64 1,.int .i64 a0_0,.int .i64 0,.int .i64 0,.int .i64 0,.int .i64 0,.string (⟨#[]⟩ : ByteArray)]) ?_ 2 _ rfl;(with_reducible repeat first|apply b1_|apply b2_|apply b3_);refine blk_put (cs:=#[.int .i64 1,.int .i64 0,.int .i64 0,.int .i64 0,.int .i64 0,.int .i64 0,.string (⟨#[]⟩ : ByteArray)]) ?_ 1 _ rfl;(with_reducible repeat first|apply b1_|apply b2_|apply b3_);refine blk_put (cs:=#[.int .i64 0,.int .i64 0,.int .i64 0,.int .i64 0,.int .i64 0,.int .i64 0,.string (⟨#[]⟩ : ByteArray)]) ?_ 0 _ rfl;(with_reducible repeat first|apply b1_|apply b2_|apply b3_);exact BK459.out⟩,⟨by repeat (first|(with_reducible first|exact HB.out|apply l1_|apply l2_|apply l3_|refine l4_ ?_ GE457.out|refine l4_ ?_ GE458.out|refine l4_ ?_ GE459.out)|exact HB.out)⟩⟩
  ·replace c16:=Bool.eq_false_iff.mpr c16
   subst c16
   have H1 : (impl_Conv_say.j0 k false a3 a4 a0_5 1 a0_2 a0_3 9 a2 a3 (⟨#[]⟩ : ByteArray)) = some (r1,r2,r3,r4,r5,r6,r7,r8):=by rw [if_neg (show ¬ (false = true) by decide)] at H;exact H
   clear H
   have H:=H1
   clear H1
   have H':=m_ H
   clear H
   have hnb17:=NB457_458.out
   have hnc17:=NB458_457.out
   have hnb18:=NB457_459.out
   have hnc18:=NB459_457.out
   have hcz19_0 : w11.cell? ⟨gb457,0,none⟩ = some (.int .i64 a0_0):=(c_ BK457.out 0).trans rfl
   have hcz19_1 : w11.cell? ⟨gb457,1,none⟩ = some (.int .i64 a0_1):=(c_ BK457.out 1).trans rfl
   have hcz19_2 : w11.cell? ⟨gb457,2,none⟩ = some (.int .i64 a0_2):=(c_ BK457.out 2).trans rfl
   have hcz19_3 : w11.cell? ⟨gb457,3,none⟩ = some (.int .i64 a0_3):=(c_ BK457.out 3).trans rfl
   have hcz19_4 : w11.cell? ⟨gb457,4,none⟩ = some (.string a0_4):=(c_ BK457.out 4).trans rfl
   have hcz19_5 : w11.cell? ⟨gb457,5,none⟩ = some (.string a0_5):=(c_ BK457.out 5).trans rfl
   have hcz19_6 : w11.cell? ⟨gb457,6,none⟩ = some (.int .i64 a0_6):=(c_ BK457.out 6).trans rfl
   have hcz19_7 : w11.cell? ⟨gb457,7,none⟩ = some (.int .i64 a0_7):=(c_ BK457.out 7).trans rfl
   have hcz19_8 : w11.cell? ⟨gb457,8,none⟩ = some (.string a0_8):=(c_ BK457.out 8).trans rfl
   have hcz19_9 : w11.cell? ⟨gb457,9,none⟩ = some (.string a0_9):=(c_ BK457.out 9).trans rfl
   have hfz19_0:=f_ BK457.out 0
   have hfz19_1:=f_ BK457.out 1
   have hfz19_2:=f_ BK457.out 2
   have hfz19_3:=f_ BK457.out 3
   have hfz19_4:=f_ BK457.out 4
   have hfz19_5:=f_ BK457.out 5
   have hfz19_6:=f_ BK457.out 6
   have hfz19_7:=f_ BK457.out 7
   have hfz19_8:=f_ BK457.out 8
   have hfz19_9:=f_ BK457.out 9
   have hnb20:=NB459_458.out
   have hnc20:=NB458_459.out
   have hcz21_0 : w11.cell? ⟨gb459,0,none⟩ = some (.int .i64 0):=(c_ BK459.out 0).trans rfl
   have hcz21_1 : w11.cell? ⟨gb459,1,none⟩ = some (.int .i64 0):=(c_ BK459.out 1).trans rfl
   have hcz21_2 : w11.cell? ⟨gb459,2,none⟩ = some (.int .i64 0):=(c_ BK459.out 2).trans rfl
   have hcz21_3 : w11.cell? ⟨gb459,3,none⟩ = some (.int .i64 0):=(c_ BK459.out 3).trans rfl
   have hcz21_4 : w11.cell? ⟨gb459,4,none⟩ = some (.int .i64 0):=(c_ BK459.out 4).trans rfl
   have hcz21_5 : w11.cell? ⟨gb459,5,none⟩ = some (.int .i64 0):=(c_ BK459.out 5).trans rfl
   have hcz21_6 : w11.cell? ⟨gb459,6,none⟩ = some (.string (⟨#[]⟩ : ByteArray)):=(c_ BK459.out 6).trans rfl
   have hfz21_0:=f_ BK459.out 0
   have hfz21_1:=f_ BK459.out 1
   have hfz21_2:=f_ BK459.out 2
   have hfz21_3:=f_ BK459.out 3
   have hfz21_4:=f_ BK459.out 4
   have hfz21_5:=f_ BK459.out 5
   have hfz21_6:=f_ BK459.out 6
   go_wp2
   go_meet
   case rel=>exact ⟨_,(a0_5),(a0_2),(a0_3),(9),(a2),(by first|rfl|(simp;done)|(simp [*];done)),H',⟨by first|omega|exact Nat.le_refl _⟩,⟨by (with_reducible repeat first|apply b1_|apply b2_|apply b3_);refine b4_ ?_ NB457_459.out _;(with_reducible repeat first|apply b1_|apply b2_|apply b3_);refine b4_ ?_ NB457_459.out _;(with_reducible repeat first|apply b1_|apply b2_|apply b3_);refine b4_ ?_ NB457_459.out _;(with_reducible repeat first|apply b1_|apply b2_|apply b3_);refine b4_ ?_ NB457_459.out _;(with_reducible repeat first|apply b1_|apply b2_|apply b3_);refine b4_ ?_ NB457_459.out _;(with_reducible repeat first|apply b1_|apply b2_|apply b3_);refine b4_ ?_ NB457_459.out _;(with_reducible repeat first|apply b1_|apply b2_|apply b3_);refine b4_ ?_ NB457_459.out _;(with_reducible repeat first|apply b1_|apply b2_|apply b3_);refine b4_ ?_ NB457_459.out _;(with_reducible repeat first|apply b1_|apply b2_|apply b3_);refine b4_ ?_ NB457_459.out _;(with_reducible repeat first|apply b1_|apply b2_|apply b3_);refine b4_ ?_ NB457_459.out _;(with_reducible repeat first|apply b1_|apply b2_|apply b3_);refine b4_ ?_ NB457_459.out _;(with_reducible repeat first|apply b1_|apply b2_|apply b3_);exact BK457.out⟩,⟨by (with_reducible repeat first|apply b1_|apply b2_|apply b3_);refine b4_ ?_ NB458_459.out _;(with_reducible repeat first|apply b1_|apply b2_|apply b3_);refine b4_ ?_ NB458_459.out _;(with_reducible repeat first|apply b1_|apply b2_|apply b3_);refine b4_ ?_ NB458_459.out _;(with_reducible repeat first|apply b1_|apply b2_|apply b3_);refine b4_ ?_ NB458_459.out _;(with_reducible repeat first|apply b1_|apply b2_|apply b3_);refine b4_ ?_ NB458_459.out _;(with_reducible repeat first|apply b1_|apply b2_|apply b3_);refine b4_ ?_ NB458_459.out _;(with_reducible repeat first|apply b1_|apply b2_|apply b3_);refine b4_ ?_ NB458_459.out _;(with_reducible repeat first|apply b1_|apply b2_|apply b3_);refine b4_ ?_ NB458_459.out _;(with_reducible repeat first|apply b1_|apply b2_|apply b3_);refine b4_ ?_ NB458_459.out _;(with_reducible repeat first|apply b1_|apply b2_|apply b3_);refine b4_ ?_ NB458_459.out _;(with_reducible repeat first|apply b1_|apply b2_|apply b3_);refine b4_ ?_ NB458_459.out _;(with_reducible repeat first|apply b1_|apply b2_|apply b3_);exact BK458.out⟩,⟨by (with_reducible repeat first|apply b1_|apply b2_|apply b3_);refine blk_put (cs:=#[.int .i64 1,.int .i64 a0_2,.int .i64 a0_3,.int .i64 9,.int .i64 a0_3,.int .i64 a3,.string (⟨#[]⟩ : ByteArray)]) ?_ 4 _ rfl;(with_reducible repeat first|apply b1_|apply b2_|apply b3_);refine blk_put (cs:=#[.int .i64 1,.int .i64 a0_2,.int .i64 a0_3,.int .i64 a0_2,.int .i64 a0_3,.int .i64 a3,.string (⟨#[]⟩ : ByteArray)]) ?_ 3 _ rfl;(with_reducible repeat first|apply b1_|apply b2_|apply b3_);refine blk_put (cs:=#[.int .i64 1,.int .i64 a0_2,.int .i64 a0_1,.int .i64 a0_2,.int .i64 a0_3,.int .i64 a3,.string (⟨#[]⟩ : ByteArray)]) ?_ 2 _ rfl;(with_reducible repeat first|apply b1_|apply b2_|apply b3_);refine blk_put (cs:=#[.int .i64 1,.int .i64 a0_0,.int .i64 a0_1,.int .i64 a0_2,.int .i64 a0_3,.int .i64 a3,.string (⟨#[]⟩ : ByteArray)]) ?_ 1 _ rfl;(with_reducible repeat first|apply b1_|apply b2_|apply b3_);refine blk_put (cs:=#[.int .i64 1,.int .i64 a0_0,.int .i64 a0_1,.int .i64 a0_2,.int .i64 a0_3,.int .i64 a3,.string (⟨#[]⟩ : ByteArray)]) ?_ 6 _ rfl;(with_reducible repeat first|apply b1_|apply b2_|apply b3_);refine blk_put (cs:=#[.int .i64 1,.int .i64 a0_0,.int .i64 a0_1,.int .i64 a0_2,.int .i64 a0_3,.int .i64 0,.string (⟨#[]⟩ : ByteArray)]) ?_ 5 _ rfl;(with_reducible repeat first|apply b1_|apply b2_|apply b3_);refine blk_put (cs:=#[.int .i64 1,.int .i64 a0_0,.int .i64 a0_1,.int .i64 a0_2,.int .i64 0,.int .i64 0,.string (⟨#[]⟩ : ByteArray)]) ?_ 4 _ rfl;(with_reducible repeat first|apply b1_|apply b2_|apply b3_);refine blk_put (cs:=#[.int .i64 1,.int .i64 a0_0,.int .i64 a0_1,.int .i64 0,.int .i64 0,.int .i64 0,.string (⟨#[]⟩ : ByteArray)]) ?_ 3 _ rfl;(with_reducible repeat first|apply b1_|apply b2_|apply b3_);refine blk_put (cs:=#[.int .i64 1,.int .i64 a0_0,.int .i64 0,.int .i64 0,.int .i64 0,.int .i64 0,.string (⟨#[]⟩ : ByteArray)]) ?_ 2 _ rfl;(with_reducible repeat first|apply b1_|apply b2_|apply b3_);refine blk_put (cs:=#[.int .i64 1,.int .i64 0,.int .i64 0,.int .i64 0,.int .i64 0,.int .i64 0,.string (⟨#[]⟩ : ByteArray)]) ?_ 1 _ rfl;(with_reducible repeat first|apply b1_|apply b2_|apply b3_);refine blk_put (cs:=#[.int .i64 0,.int .i64 0,.int .i64 0,.int .i64 0,.int .i64 0,.int .i64 0,.string (⟨#[]⟩ : ByteArray)]) ?_ 0 _ rfl;(with_reducible repeat first|apply b1_|apply b2_|apply b3_);exact BK459.out⟩,⟨by repeat (first|(with_reducible first|exact HB.out|apply l1_|apply l2_|apply l3_|refine l4_ ?_ GE457.out|refine l4_ ?_ GE458.out|refine l4_ ?_ GE459.out)|exact HB.out)⟩⟩
 case rest =>
  clear HC6
  try clear c1
  try clear c2
  try clear p2
  try clear c6
  try clear c9
  try clear c12
  try clear c13
  try clear c16
  try clear c17
  try clear c18
  try clear c20
  try clear hcz10_0
  try clear hcz10_1
  try clear hcz10_2
  try clear hcz10_3
  try clear hcz10_4
  try clear hcz10_5
  try clear hcz10_6
  try clear hcz10_7
  try clear hcz10_8
  try clear hcz10_9
  try clear hcz14_0
  try clear hcz14_1
  try clear hcz14_2
  try clear hcz14_3
  try clear hcz14_4
  try clear hcz14_5
  try clear hcz14_6
  try clear hcz15_0
  try clear hcz15_1
  try clear hcz15_2
  try clear hcz15_3
  try clear hcz15_4
  try clear hcz15_5
  try clear hcz15_6
  try clear hcz15_7
  try clear hcz15_8
  try clear hcz15_9
  try clear hcz19_0
  try clear hcz19_1
  try clear hcz19_2
  try clear hcz19_3
  try clear hcz19_4
  try clear hcz19_5
  try clear hcz19_6
  try clear hcz19_7
  try clear hcz19_8
  try clear hcz19_9
  try clear hcz21_0
  try clear hcz21_1
  try clear hcz21_2
  try clear hcz21_3
  try clear hcz21_4
  try clear hcz21_5
  try clear hcz21_6
  try clear hfz10_0
  try clear hfz10_1
  try clear hfz10_2
  try clear hfz10_3
  try clear hfz10_4
  try clear hfz10_5
  try clear hfz10_6
  try clear hfz10_7
  try clear hfz10_8
  try clear hfz10_9
  try clear hfz14_0
  try clear hfz14_1
  try clear hfz14_2
  try clear hfz14_3
  try clear hfz14_4
  try clear hfz14_5
  try clear hfz14_6
  try clear hfz15_0
  try clear hfz15_1
  try clear hfz15_2
  try clear hfz15_3
  try clear hfz15_4
  try clear hfz15_5
  try clear hfz15_6
  try clear hfz15_7
  try clear hfz15_8
  try clear hfz15_9
  try clear hfz19_0
  try clear hfz19_1
  try clear hfz19_2
  try clear hfz19_3
  try clear hfz19_4
  try clear hfz19_5
  try clear hfz19_6
  try clear hfz19_7
  try clear hfz19_8
  try clear hfz19_9
  try clear hfz21_0
  try clear hfz21_1
  try clear hfz21_2
  try clear hfz21_3
  try clear hfz21_4
  try clear hfz21_5
  try clear hfz21_6
  obtain ⟨kq,x13_5,x460001_5,x460002_5,x460003_5,x460004_5,rfl,HA,HJ5,BK457,BK458,BK459,HB⟩:=hcut
  cases kq with
  | zero => exact absurd HA.out (by simp [impl_Conv_say.j0])
  | succ kj5 =>
   have H:=HA.out
   clear HA
   simp only [impl_Conv_say.j0] at H
   replace H:=Option.bind_eq_some_iff.mp H
   obtain ⟨t460,A220,H⟩:=H
   replace H : (if t460 = true then (if a4 < 1 then (some (0,0,0,0,0,0,(⟨#[]⟩ : ByteArray),false)) else (if a1 = true then (if 0 ≤ a3 then (if a3 ≤ (wrap64 (a3 + (mn a4 (wrap64 ((x13_5.size : Int) - a3))))) then (if (wrap64 (a3 + (mn a4 (wrap64 ((x13_5.size : Int) - a3))))) ≤ (x13_5.size : Int) then (some (1,x460001_5,x460002_5,x460003_5,x460004_5,a3,x13_5.extract (a3 : Int).toNat ((wrap64 (a3 + (mn a4 (wrap64 ((x13_5.size : Int) - a3))))) : Int).toNat,true)) else (none)) else (none)) else (none)) else ((impl_EndDoor.f x460003_5 x460004_5).bind fun t461=>(if t461 = true then (if 0 ≤ a3 then (if a3 ≤ (wrap64 (a3 + (mn a4 (wrap64 ((x13_5.size : Int) - a3))))) then (if (wrap64 (a3 + (mn a4 (wrap64 ((x13_5.size : Int) - a3))))) ≤ (x13_5.size : Int) then (some (1,x460001_5,x460002_5,x460003_5,x460004_5,a3,x13_5.extract (a3 : Int).toNat ((wrap64 (a3 + (mn a4 (wrap64 ((x13_5.size : Int) - a3))))) : Int).toNat,true)) else (none)) else (none)) else (none)) else (some (0,0,0,0,0,0,(⟨#[]⟩ : ByteArray),false)))))) else (some (0,0,0,0,0,0,(⟨#[]⟩ : ByteArray),false))) = some (r1,r2,r3,r4,r5,r6,r7,r8):=H
   have A22:=m_ A220
   clear A220
   by_cases c23 : t460 = true
   ·subst c23
    have H1 : (if a4 < 1 then (some (0,0,0,0,0,0,(⟨#[]⟩ : ByteArray),false)) else (if a1 = true then (if 0 ≤ a3 then (if a3 ≤ (wrap64 (a3 + (mn a4 (wrap64 ((x13_5.size : Int) - a3))))) then (if (wrap64 (a3 + (mn a4 (wrap64 ((x13_5.size : Int) - a3))))) ≤ (x13_5.size : Int) then (some (1,x460001_5,x460002_5,x460003_5,x460004_5,a3,x13_5.extract (a3 : Int).toNat ((wrap64 (a3 + (mn a4 (wrap64 ((x13_5.size : Int) - a3))))) : Int).toNat,true)) else (none)) else (none)) else (none)) else ((impl_EndDoor.f x460003_5 x460004_5).bind fun t461=>(if t461 = true then (if 0 ≤ a3 then (if a3 ≤ (wrap64 (a3 + (mn a4 (wrap64 ((x13_5.size : Int) - a3))))) then (if (wrap64 (a3 + (mn a4 (wrap64 ((x13_5.size : Int) - a3))))) ≤ (x13_5.size : Int) then (some (1,x460001_5,x460002_5,x460003_5,x460004_5,a3,x13_5.extract (a3 : Int).toNat ((wrap64 (a3 + (mn a4 (wrap64 ((x13_5.size : Int) - a3))))) : Int).toNat,true)) else (none)) else (none)) else (none)) else (some (0,0,0,0,0,0,(⟨#[]⟩ : ByteArray),false)))))) = some (r1,r2,r3,r4,r5,r6,r7,r8):=by rw [if_pos rfl] at H;exact H
    clear H
    have H:=H1
    clear H1
    by_cases c24 : a4 < 1
    ·rw [if_pos c24] at H
     have c24b0 : decide (a4 < 1) = true:=decide_eq_true c24
     clear c24
     simp only [Option.some.injEq,Prod.mk.injEq] at H
     obtain ⟨rfl,rfl,rfl,rfl,rfl,rfl,rfl,rfl⟩:=H
     go_wp2_with (first|((with_reducible refine gate_callee (f:=51) rfl ?_);refine goesL_ (some 36) rfl rfl Tryd.func51 (by kernel_rfl) rfl #[.int .i64 a3,.int .i64 0,.int .i64 (wrap64 ((x13_5.size : Int) - 1))] rfl (by (try simp only [List.map_toArray,List.map_cons,List.map_nil]);first|done|rfl|(simp only [List.length_drop,List.length_take];rfl)) ?_;(with_reducible refine (impl_within.calls a3 0 (wrap64 ((x13_5.size : Int) - 1)) true _ A22.out).mono ?_);rintro e w' ⟨rfl,⟨nd,rfl⟩⟩;refine ⟨_,rfl,?_⟩;(try (rw [drewN_self wc];generalize hq_ : World.drewN wc _ = wc;have n0_ : Aside0 (wc.heap[gb457]? = some (.cells #[.int .i64 a0_0,.int .i64 a0_1,.int .i64 a0_2,.int .i64 a0_3,.string a0_4,.string a0_5,.int .i64 a0_6,.int .i64 a0_7,.string a0_8,.string a0_9] 42 (0,0))):=⟨by rw [← hq_];exact (by (with_reducible repeat first|apply b1_|apply b2_|apply b3_);exact BK457.out)⟩;have n1_ : Aside0 (wc.heap[gb458]? = some (.cells #[.int .i64 0,.int .i64 0,.int .i64 0,.int .i64 0,.int .i64 0,.int .i64 0,.string (⟨#[]⟩ : ByteArray)] 57 (0,0))):=⟨by rw [← hq_];exact (by (with_reducible repeat first|apply b1_|apply b2_|apply b3_);exact BK458.out)⟩;have n2_ : Aside0 (wc.heap[gb459]? = some (.cells #[.int .i64 1,.int .i64 x460001_5,.int .i64 x460002_5,.int .i64 x460003_5,.int .i64 x460004_5,.int .i64 a3,.string (⟨#[]⟩ : ByteArray)] 57 (0,0))):=⟨by rw [← hq_];exact (by (with_reducible repeat first|apply b1_|apply b2_|apply b3_);exact BK459.out)⟩;have n3_ : Aside0 (Below w.heap.size w wc):=⟨by rw [← hq_];exact (by repeat (first|(with_reducible first|exact HB.out|apply l1_|apply l2_|apply l3_|refine l4_ ?_ GE457.out|refine l4_ ?_ GE458.out|refine l4_ ?_ GE459.out)|exact HB.out))⟩;clear BK457 BK458 BK459 HB hq_;have BK457:=n0_;have BK458:=n1_;have BK459:=n2_;have HB:=n3_;clear n0_ n1_ n2_ n3_));have hnb25:=NB458_457.out;have hnc25:=NB457_458.out;have hnb26:=NB458_459.out;have hnc26:=NB459_458.out;have hcz27_0 : wc.cell? ⟨gb458,0,none⟩ = some (.int .i64 0):=(c_ BK458.out 0).trans rfl;have hcz27_1 : wc.cell? ⟨gb458,1,none⟩ = some (.int .i64 0):=(c_ BK458.out 1).trans rfl;have hcz27_2 : wc.cell? ⟨gb458,2,none⟩ = some (.int .i64 0):=(c_ BK458.out 2).trans rfl;have hcz27_3 : wc.cell? ⟨gb458,3,none⟩ = some (.int .i64 0):=(c_ BK458.out 3).trans rfl;have hcz27_4 : wc.cell? ⟨gb458,4,none⟩ = some (.int .i64 0):=(c_ BK458.out 4).trans rfl;have hcz27_5 : wc.cell? ⟨gb458,5,none⟩ = some (.int .i64 0):=(c_ BK458.out 5).trans rfl;have hcz27_6 : wc.cell? ⟨gb458,6,none⟩ = some (.string (⟨#[]⟩ : ByteArray)):=(c_ BK458.out 6).trans rfl;have hfz27_0:=f_ BK458.out 0;have hfz27_1:=f_ BK458.out 1;have hfz27_2:=f_ BK458.out 2;have hfz27_3:=f_ BK458.out 3;have hfz27_4:=f_ BK458.out 4;have hfz27_5:=f_ BK458.out 5;have hfz27_6:=f_ BK458.out 6))
     refine bodyPost_ret (results_ct rfl _ _ gb458 57 #[.int .i64 0,.int .i64 0,.int .i64 0,.int .i64 0,.int .i64 0,.int .i64 0,.string (⟨#[]⟩ : ByteArray)] (0,0) _ rfl (by (with_reducible repeat first|apply b1_|apply b2_|apply b3_);refine blk_put (cs:=#[.int .i64 0,.int .i64 0,.int .i64 0,.int .i64 0,.int .i64 0,.int .i64 0,.string (⟨#[]⟩ : ByteArray)]) ?_ 6 _ rfl;(with_reducible repeat first|apply b1_|apply b2_|apply b3_);refine blk_put (cs:=#[.int .i64 0,.int .i64 0,.int .i64 0,.int .i64 0,.int .i64 0,.int .i64 0,.string (⟨#[]⟩ : ByteArray)]) ?_ 5 _ rfl;(with_reducible repeat first|apply b1_|apply b2_|apply b3_);refine blk_put (cs:=#[.int .i64 0,.int .i64 0,.int .i64 0,.int .i64 0,.int .i64 0,.int .i64 0,.string (⟨#[]⟩ : ByteArray)]) ?_ 4 _ rfl;(with_reducible repeat first|apply b1_|apply b2_|apply b3_);refine blk_put (cs:=#[.int .i64 0,.int .i64 0,.int .i64 0,.int .i64 0,.int .i64 0,.int .i64 0,.string (⟨#[]⟩ : ByteArray)]) ?_ 3 _ rfl;(with_reducible repeat first|apply b1_|apply b2_|apply b3_);refine blk_put (cs:=#[.int .i64 0,.int .i64 0,.int .i64 0,.int .i64 0,.int .i64 0,.int .i64 0,.string (⟨#[]⟩ : ByteArray)]) ?_ 2 _ rfl;(with_reducible repeat first|apply b1_|apply b2_|apply b3_);refine blk_put (cs:=#[.int .i64 0,.int .i64 0,.int .i64 0,.int .i64 0,.int .i64 0,.int .i64 0,.string (⟨#[]⟩ : ByteArray)]) ?_ 1 _ rfl;(with_reducible repeat first|apply b1_|apply b2_|apply b3_);refine blk_put (cs:=#[.int .i64 0,.int .i64 0,.int .i64 0,.int .i64 0,.int .i64 0,.int .i64 0,.string (⟨#[]⟩ : ByteArray)]) ?_ 0 _ rfl;(with_reducible repeat first|apply b1_|apply b2_|apply b3_);exact BK458.out) Tryd.underlying57 rfl (by kernel_rfl)) rfl ?_
     exact ⟨by first|rfl|(simp [e1_,e2_] <;> rfl)|(simp [*,e1_,e2_] <;> rfl)|(simp [e1_,e2_,pk_empty1,pk_empty2];done)|(simp [*,e1_,e2_,pk_empty1,pk_empty2];done),by repeat (first|(with_reducible first|exact HB.out|apply l1_|apply l2_|apply l3_|refine l4_ ?_ GE457.out|refine l4_ ?_ GE458.out|refine l4_ ?_ GE459.out)|exact HB.out)⟩
    ·rw [if_neg c24] at H
     have c24b0 : decide (a4 < 1) = false:=decide_eq_false c24
     clear c24
     by_cases c28 : a1 = true
     ·subst c28
      have H1 : (if 0 ≤ a3 then (if a3 ≤ (wrap64 (a3 + (mn a4 (wrap64 ((x13_5.size : Int) - a3))))) then (if (wrap64 (a3 + (mn a4 (wrap64 ((x13_5.size : Int) - a3))))) ≤ (x13_5.size : Int) then (some (1,x460001_5,x460002_5,x460003_5,x460004_5,a3,x13_5.extract (a3 : Int).toNat ((wrap64 (a3 + (mn a4 (wrap64 ((x13_5.size : Int) - a3))))) : Int).toNat,true)) else (none)) else (none)) else (none)) = some (r1,r2,r3,r4,r5,r6,r7,r8):=by rw [if_pos rfl] at H;exact H
      clear H
      have H:=H1
      clear H1
      obtain ⟨ji29,hji29⟩ : ∃ j_ : Int,(mn a4 (wrap64 ((x13_5.size : Int) - a3))) = j_:=⟨_,rfl⟩
      replace H : (if 0 ≤ a3 then (if a3 ≤ (wrap64 (a3 + (ji29))) then (if (wrap64 (a3 + (ji29))) ≤ (x13_5.size : Int) then (some (1,x460001_5,x460002_5,x460003_5,x460004_5,a3,x13_5.extract (a3 : Int).toNat ((wrap64 (a3 + (ji29))) : Int).toNat,true)) else (none)) else (none)) else (none)) = some (r1,r2,r3,r4,r5,r6,r7,r8):=by first|(rw [hji29] at H;exact H)|(simp only [hji29] at H ⊢;exact H)
      (try rw [hji29] at A22)
      have hji29_ : (if (wrap64 ((x13_5.size : Int) - a3)) < a4 then (wrap64 ((x13_5.size : Int) - a3)) else a4) = ji29:=hji29
      by_cases c30 : 0 ≤ a3
      ·rw [if_pos c30] at H
       have c30b0:=eq_true c30
       have c30b1 : decide (0 ≤ a3) = true:=decide_eq_true c30
       clear c30
       by_cases c31 : a3 ≤ (wrap64 (a3 + (ji29)))
       ·rw [if_pos c31] at H
        have c31b0:=eq_true c31
        have c31b1 : decide (a3 ≤ (wrap64 (a3 + (ji29)))) = true:=decide_eq_true c31
        by_cases c32 : (wrap64 (a3 + (ji29))) ≤ (x13_5.size : Int)
        ·rw [if_pos c32] at H
         have c32b0:=eq_true c32
         have c32b1 : decide ((wrap64 (a3 + (ji29))) ≤ (x13_5.size : Int)) = true:=decide_eq_true c32
         clear c32
         simp only [Option.some.injEq,Prod.mk.injEq] at H
         obtain ⟨rfl,rfl,rfl,rfl,rfl,rfl,rfl,rfl⟩:=H
         go_wp2_with (first|((with_reducible refine gate_callee (f:=51) rfl ?_);refine goesL_ (some 36) rfl rfl Tryd.func51 (by kernel_rfl) rfl #[.int .i64 a3,.int .i64 0,.int .i64 (wrap64 ((x13_5.size : Int) - 1))] rfl (by (try simp only [List.map_toArray,List.map_cons,List.map_nil]);first|done|rfl|(simp only [List.length_drop,List.length_take];rfl)) ?_;(with_reducible refine (impl_within.calls a3 0 (wrap64 ((x13_5.size : Int) - 1)) true _ A22.out).mono ?_);rintro e w' ⟨rfl,⟨nd,rfl⟩⟩;refine ⟨_,rfl,?_⟩;(try (rw [drewN_self wc];generalize hq_ : World.drewN wc _ = wc;have n0_ : Aside0 (wc.heap[gb457]? = some (.cells #[.int .i64 a0_0,.int .i64 a0_1,.int .i64 a0_2,.int .i64 a0_3,.string a0_4,.string a0_5,.int .i64 a0_6,.int .i64 a0_7,.string a0_8,.string a0_9] 42 (0,0))):=⟨by rw [← hq_];exact (by (with_reducible repeat first|apply b1_|apply b2_|apply b3_);exact BK457.out)⟩;have n1_ : Aside0 (wc.heap[gb458]? = some (.cells #[.int .i64 0,.int .i64 0,.int .i64 0,.int .i64 0,.int .i64 0,.int .i64 0,.string (⟨#[]⟩ : ByteArray)] 57 (0,0))):=⟨by rw [← hq_];exact (by (with_reducible repeat first|apply b1_|apply b2_|apply b3_);exact BK458.out)⟩;have n2_ : Aside0 (wc.heap[gb459]? = some (.cells #[.int .i64 1,.int .i64 x460001_5,.int .i64 x460002_5,.int .i64 x460003_5,.int .i64 x460004_5,.int .i64 a3,.string (⟨#[]⟩ : ByteArray)] 57 (0,0))):=⟨by rw [← hq_];exact (by (with_reducible repeat first|apply b1_|apply b2_|apply b3_);exact BK459.out)⟩;have n3_ : Aside0 (Below w.heap.size w wc):=⟨by rw [← hq_];exact (by repeat (first|(with_reducible first|exact HB.out|apply l1_|apply l2_|apply l3_|refine l4_ ?_ GE457.out|refine l4_ ?_ GE458.out|refine l4_ ?_ GE459.out)|exact HB.out))⟩;clear BK457 BK458 BK459 HB hq_;have BK457:=n0_;have BK458:=n1_;have BK459:=n2_;have HB:=n3_;clear n0_ n1_ n2_ n3_));have hnb33:=NB459_457.out;have hnc33:=NB457_459.out;have hnb34:=NB459_458.out;have hnc34:=NB458_459.out;have hcz35_0 : wc.cell? ⟨gb459,0,none⟩ = some (.int .i64 1):=(c_ BK459.out 0).trans rfl;have hcz35_1 : wc.cell? ⟨gb459,1,none⟩ = some (.int .i64 x460001_5):=(c_ BK459.out 1).trans rfl;have hcz35_2 : wc.cell? ⟨gb459,2,none⟩ = some (.int .i64 x460002_5):=(c_ BK459.out 2).trans rfl;have hcz35_3 : wc.cell? ⟨gb459,3,none⟩ = some (.int .i64 x460003_5):=(c_ BK459.out 3).trans rfl;have hcz35_4 : wc.cell? ⟨gb459,4,none⟩ = some (.int .i64 x460004_5):=(c_ BK459.out 4).trans rfl;have hcz35_5 : wc.cell? ⟨gb459,5,none⟩ = some (.int .i64 a3):=(c_ BK459.out 5).trans rfl;have hcz35_6 : wc.cell? ⟨gb459,6,none⟩ = some (.string (⟨#[]⟩ : ByteArray)):=(c_ BK459.out 6).trans rfl;have hfz35_0:=f_ BK459.out 0;have hfz35_1:=f_ BK459.out 1;have hfz35_2:=f_ BK459.out 2;have hfz35_3:=f_ BK459.out 3;have hfz35_4:=f_ BK459.out 4;have hfz35_5:=f_ BK459.out 5;have hfz35_6:=f_ BK459.out 6;have hnb36:=NB458_457.out;have hnc36:=NB457_458.out;have hcz37_0 : wc.cell? ⟨gb458,0,none⟩ = some (.int .i64 0):=(c_ BK458.out 0).trans rfl;have hcz37_1 : wc.cell? ⟨gb458,1,none⟩ = some (.int .i64 0):=(c_ BK458.out 1).trans rfl;have hcz37_2 : wc.cell? ⟨gb458,2,none⟩ = some (.int .i64 0):=(c_ BK458.out 2).trans rfl;have hcz37_3 : wc.cell? ⟨gb458,3,none⟩ = some (.int .i64 0):=(c_ BK458.out 3).trans rfl;have hcz37_4 : wc.cell? ⟨gb458,4,none⟩ = some (.int .i64 0):=(c_ BK458.out 4).trans rfl;have hcz37_5 : wc.cell? ⟨gb458,5,none⟩ = some (.int .i64 0):=(c_ BK458.out 5).trans rfl;have hcz37_6 : wc.cell? ⟨gb458,6,none⟩ = some (.string (⟨#[]⟩ : ByteArray)):=(c_ BK458.out 6).trans rfl;have hfz37_0:=f_ BK458.out 0;have hfz37_1:=f_ BK458.out 1;have hfz37_2:=f_ BK458.out 2;have hfz37_3:=f_ BK458.out 3;have hfz37_4:=f_ BK458.out 4;have hfz37_5:=f_ BK458.out 5;have hfz37_6:=f_ BK458.out 6))
         refine bodyPost_ret (results_ct rfl _ _ gb458 57 #[.int .i64 1,.int .i64 x460001_5,.int .i64 x460002_5,.int .i64 x460003_5,.int .i64 x460004_5,.int .i64 a3,.string (x13_5.extract (a3 : Int).toNat ((wrap64 (a3 + (ji29))) : Int).toNat)] (0,0) _ rfl (by (with_reducible repeat first|apply b1_|apply b2_|apply b3_);refine blk_put (cs:=#[.int .i64 1,.int .i64 x460001_5,.int .i64 x460002_5,.int .i64 x460003_5,.int .i64 x460004_5,.int .i64 a3,.string (⟨#[]⟩ : ByteArray)]) ?_ 6 _ rfl;(with_reducible repeat first|apply b1_|apply b2_|apply b3_);refine blk_put (cs:=#[.int .i64 1,.int .i64 x460001_5,.int .i64 x460002_5,.int .i64 x460003_5,.int .i64 x460004_5,.int .i64 0,.string (⟨#[]⟩ : ByteArray)]) ?_ 5 _ rfl;(with_reducible repeat first|apply b1_|apply b2_|apply b3_);refine blk_put (cs:=#[.int .i64 1,.int .i64 x460001_5,.int .i64 x460002_5,.int .i64 x460003_5,.int .i64 0,.int .i64 0,.string (⟨#[]⟩ : ByteArray)]) ?_ 4 _ rfl;(with_reducible repeat first|apply b1_|apply b2_|apply b3_);refine blk_put (cs:=#[.int .i64 1,.int .i64 x460001_5,.int .i64 x460002_5,.int .i64 0,.int .i64 0,.int .i64 0,.string (⟨#[]⟩ : ByteArray)]) ?_ 3 _ rfl;(with_reducible repeat first|apply b1_|apply b2_|apply b3_);refine blk_put (cs:=#[.int .i64 1,.int .i64 x460001_5,.int .i64 0,.int .i64 0,.int .i64 0,.int .i64 0,.string (⟨#[]⟩ : ByteArray)]) ?_ 2 _ rfl;(with_reducible repeat first|apply b1_|apply b2_|apply b3_);refine blk_put (cs:=#[.int .i64 1,.int .i64 0,.int .i64 0,.int .i64 0,.int .i64 0,.int .i64 0,.string (⟨#[]⟩ : ByteArray)]) ?_ 1 _ rfl;(with_reducible repeat first|apply b1_|apply b2_|apply b3_);refine blk_put (cs:=#[.int .i64 0,.int .i64 0,.int .i64 0,.int .i64 0,.int .i64 0,.int .i64 0,.string (⟨#[]⟩ : ByteArray)]) ?_ 0 _ rfl;(with_reducible repeat first|apply b1_|apply b2_|apply b3_);refine b4_ ?_ NB458_459.out _;(with_reducible repeat first|apply b1_|apply b2_|apply b3_);exact BK458.out) Tryd.underlying57 rfl (by kernel_rfl)) rfl ?_
         exact ⟨by first|rfl|(simp [e1_,e2_] <;> rfl)|(simp only [← hji29];first|rfl|(simp [e1_,e2_] <;> rfl))|(simp [*,e1_,e2_] <;> rfl)|(simp [e1_,e2_,pk_empty1,pk_empty2];done)|(simp [*,e1_,e2_,pk_empty1,pk_empty2];done),by repeat (first|(with_reducible first|exact HB.out|apply l1_|apply l2_|apply l3_|refine l4_ ?_ GE457.out|refine l4_ ?_ GE458.out|refine l4_ ?_ GE459.out)|exact HB.out)⟩
        ·rw [if_neg c32] at H
         exact absurd H (by simp)
       ·rw [if_neg c31] at H
        exact absurd H (by simp)
      ·rw [if_neg c30] at H
       exact absurd H (by simp)
     ·replace c28:=Bool.eq_false_iff.mpr c28
      subst c28
      have H1 : ((impl_EndDoor.f x460003_5 x460004_5).bind fun t461=>(if t461 = true then (if 0 ≤ a3 then (if a3 ≤ (wrap64 (a3 + (mn a4 (wrap64 ((x13_5.size : Int) - a3))))) then (if (wrap64 (a3 + (mn a4 (wrap64 ((x13_5.size : Int) - a3))))) ≤ (x13_5.size : Int) then (some (1,x460001_5,x460002_5,x460003_5,x460004_5,a3,x13_5.extract (a3 : Int).toNat ((wrap64 (a3 + (mn a4 (wrap64 ((x13_5.size : Int) - a3))))) : Int).toNat,true)) else (none)) else (none)) else (none)) else (some (0,0,0,0,0,0,(⟨#[]⟩ : ByteArray),false)))) = some (r1,r2,r3,r4,r5,r6,r7,r8):=by rw [if_neg (show ¬ (false = true) by decide)] at H;exact H
      clear H
      have H:=H1
      clear H1
      replace H:=Option.bind_eq_some_iff.mp H
      obtain ⟨t461,A380,H⟩:=H
      replace H : (if t461 = true then (if 0 ≤ a3 then (if a3 ≤ (wrap64 (a3 + (mn a4 (wrap64 ((x13_5.size : Int) - a3))))) then (if (wrap64 (a3 + (mn a4 (wrap64 ((x13_5.size : Int) - a3))))) ≤ (x13_5.size : Int) then (some (1,x460001_5,x460002_5,x460003_5,x460004_5,a3,x13_5.extract (a3 : Int).toNat ((wrap64 (a3 + (mn a4 (wrap64 ((x13_5.size : Int) - a3))))) : Int).toNat,true)) else (none)) else (none)) else (none)) else (some (0,0,0,0,0,0,(⟨#[]⟩ : ByteArray),false))) = some (r1,r2,r3,r4,r5,r6,r7,r8):=H
      have A38:=m_ A380
      clear A380
      by_cases c39 : t461 = true
      ·subst c39
       have H1 : (if 0 ≤ a3 then (if a3 ≤ (wrap64 (a3 + (mn a4 (wrap64 ((x13_5.size : Int) - a3))))) then (if (wrap64 (a3 + (mn a4 (wrap64 ((x13_5.size : Int) - a3))))) ≤ (x13_5.size : Int) then (some (1,x460001_5,x460002_5,x460003_5,x460004_5,a3,x13_5.extract (a3 : Int).toNat ((wrap64 (a3 + (mn a4 (wrap64 ((x13_5.size : Int) - a3))))) : Int).toNat,true)) else (none)) else (none)) else (none)) = some (r1,r2,r3,r4,r5,r6,r7,r8):=by rw [if_pos rfl] at H;exact H
       clear H
       have H:=H1
       clear H1
       obtain ⟨ji40,hji40⟩ : ∃ j_ : Int,(mn a4 (wrap64 ((x13_5.size : Int) - a3))) = j_:=⟨_,rfl⟩
       replace H : (if 0 ≤ a3 then (if a3 ≤ (wrap64 (a3 + (ji40))) then (if (wrap64 (a3 + (ji40))) ≤ (x13_5.size : Int) then (some (1,x460001_5,x460002_5,x460003_5,x460004_5,a3,x13_5.extract (a3 : Int).toNat ((wrap64 (a3 + (ji40))) : Int).toNat,true)) else (none)) else (none)) else (none)) = some (r1,r2,r3,r4,r5,r6,r7,r8):=by first|(rw [hji40] at H;exact H)|(simp only [hji40] at H ⊢;exact H)
       (try rw [hji40] at A22)
       (try rw [hji40] at A38)
       have hji40_ : (if (wrap64 ((x13_5.size : Int) - a3)) < a4 then (wrap64 ((x13_5.size : Int) - a3)) else a4) = ji40:=hji40
       by_cases c41 : 0 ≤ a3
       ·rw [if_pos c41] at H
        have c41b0:=eq_true c41
        have c41b1 : decide (0 ≤ a3) = true:=decide_eq_true c41
        clear c41
        by_cases c42 : a3 ≤ (wrap64 (a3 + (ji40)))
        ·rw [if_pos c42] at H
         have c42b0:=eq_true c42
         have c42b1 : decide (a3 ≤ (wrap64 (a3 + (ji40)))) = true:=decide_eq_true c42
         by_cases c43 : (wrap64 (a3 + (ji40))) ≤ (x13_5.size : Int)
         ·rw [if_pos c43] at H
          have c43b0:=eq_true c43
          have c43b1 : decide ((wrap64 (a3 + (ji40))) ≤ (x13_5.size : Int)) = true:=decide_eq_true c43
          clear c43
          simp only [Option.some.injEq,Prod.mk.injEq] at H
          obtain ⟨rfl,rfl,rfl,rfl,rfl,rfl,rfl,rfl⟩:=H
          go_wp2_with (first|((with_reducible refine gate_callee (f:=51) rfl ?_);refine goesL_ (some 36) rfl rfl Tryd.func51 (by kernel_rfl) rfl #[.int .i64 a3,.int .i64 0,.int .i64 (wrap64 ((x13_5.size : Int) - 1))] rfl (by (try simp only [List.map_toArray,List.map_cons,List.map_nil]);first|done|rfl|(simp only [List.length_drop,List.length_take];rfl)) ?_;(with_reducible refine (impl_within.calls a3 0 (wrap64 ((x13_5.size : Int) - 1)) true _ A22.out).mono ?_);rintro e w' ⟨rfl,⟨nd,rfl⟩⟩;refine ⟨_,rfl,?_⟩;(try (rw [drewN_self wc];generalize hq_ : World.drewN wc _ = wc;have n0_ : Aside0 (wc.heap[gb457]? = some (.cells #[.int .i64 a0_0,.int .i64 a0_1,.int .i64 a0_2,.int .i64 a0_3,.string a0_4,.string a0_5,.int .i64 a0_6,.int .i64 a0_7,.string a0_8,.string a0_9] 42 (0,0))):=⟨by rw [← hq_];exact (by (with_reducible repeat first|apply b1_|apply b2_|apply b3_);exact BK457.out)⟩;have n1_ : Aside0 (wc.heap[gb458]? = some (.cells #[.int .i64 0,.int .i64 0,.int .i64 0,.int .i64 0,.int .i64 0,.int .i64 0,.string (⟨#[]⟩ : ByteArray)] 57 (0,0))):=⟨by rw [← hq_];exact (by (with_reducible repeat first|apply b1_|apply b2_|apply b3_);exact BK458.out)⟩;have n2_ : Aside0 (wc.heap[gb459]? = some (.cells #[.int .i64 1,.int .i64 x460001_5,.int .i64 x460002_5,.int .i64 x460003_5,.int .i64 x460004_5,.int .i64 a3,.string (⟨#[]⟩ : ByteArray)] 57 (0,0))):=⟨by rw [← hq_];exact (by (with_reducible repeat first|apply b1_|apply b2_|apply b3_);exact BK459.out)⟩;have n3_ : Aside0 (Below w.heap.size w wc):=⟨by rw [← hq_];exact (by repeat (first|(with_reducible first|exact HB.out|apply l1_|apply l2_|apply l3_|refine l4_ ?_ GE457.out|refine l4_ ?_ GE458.out|refine l4_ ?_ GE459.out)|exact HB.out))⟩;clear BK457 BK458 BK459 HB hq_;have BK457:=n0_;have BK458:=n1_;have BK459:=n2_;have HB:=n3_;clear n0_ n1_ n2_ n3_));have hnb44:=NB459_457.out;have hnc44:=NB457_459.out;have hnb45:=NB459_458.out;have hnc45:=NB458_459.out;have hcz46_0 : wc.cell? ⟨gb459,0,none⟩ = some (.int .i64 1):=(c_ BK459.out 0).trans rfl;have hcz46_1 : wc.cell? ⟨gb459,1,none⟩ = some (.int .i64 x460001_5):=(c_ BK459.out 1).trans rfl;have hcz46_2 : wc.cell? ⟨gb459,2,none⟩ = some (.int .i64 x460002_5):=(c_ BK459.out 2).trans rfl;have hcz46_3 : wc.cell? ⟨gb459,3,none⟩ = some (.int .i64 x460003_5):=(c_ BK459.out 3).trans rfl;have hcz46_4 : wc.cell? ⟨gb459,4,none⟩ = some (.int .i64 x460004_5):=(c_ BK459.out 4).trans rfl;have hcz46_5 : wc.cell? ⟨gb459,5,none⟩ = some (.int .i64 a3):=(c_ BK459.out 5).trans rfl;have hcz46_6 : wc.cell? ⟨gb459,6,none⟩ = some (.string (⟨#[]⟩ : ByteArray)):=(c_ BK459.out 6).trans rfl;have hfz46_0:=f_ BK459.out 0;have hfz46_1:=f_ BK459.out 1;have hfz46_2:=f_ BK459.out 2;have hfz46_3:=f_ BK459.out 3;have hfz46_4:=f_ BK459.out 4;have hfz46_5:=f_ BK459.out 5;have hfz46_6:=f_ BK459.out 6)|(go_at_call 25;(with_reducible refine (impl_EndDoor.calls x460003_5 x460004_5 true _ A38.out).mono ?_);rintro e w47 ⟨rfl,hb⟩;have n0_:=m_ (blk_below (g:=gb457) (o:=.cells #[.int .i64 a0_0,.int .i64 a0_1,.int .i64 a0_2,.int .i64 a0_3,.string a0_4,.string a0_5,.int .i64 a0_6,.int .i64 a0_7,.string a0_8,.string a0_9] 42 (0,0)) (by (with_reducible repeat first|apply b1_|apply b2_|apply b3_);exact BK457.out) hb);have n1_:=m_ (blk_below (g:=gb458) (o:=.cells #[.int .i64 0,.int .i64 0,.int .i64 0,.int .i64 0,.int .i64 0,.int .i64 0,.string (⟨#[]⟩ : ByteArray)] 57 (0,0)) (by (with_reducible repeat first|apply b1_|apply b2_|apply b3_);exact BK458.out) hb);have n2_:=m_ (blk_below (g:=gb459) (o:=.cells #[.int .i64 1,.int .i64 x460001_5,.int .i64 x460002_5,.int .i64 x460003_5,.int .i64 x460004_5,.int .i64 a3,.string (⟨#[]⟩ : ByteArray)] 57 (0,0)) (by (with_reducible repeat first|apply b1_|apply b2_|apply b3_);exact BK459.out) hb);have n3_:=m_ (l5_ (by repeat (first|(with_reducible first|exact HB.out|apply l1_|apply l2_|apply l3_|refine l4_ ?_ GE457.out|refine l4_ ?_ GE458.out|refine l4_ ?_ GE459.out)|exact HB.out)) hb);clear BK457;clear BK458;clear BK459;clear HB;have BK457:=n0_;have BK458:=n1_;have BK459:=n2_;have HB:=n3_;clear n0_ n1_ n2_ n3_;(try clear hb);(try clear hb2);(try clear hk);(try clear hi);have hcz48_0 : w47.cell? ⟨gb459,0,none⟩ = some (.int .i64 1):=(c_ BK459.out 0).trans rfl;have hcz48_1 : w47.cell? ⟨gb459,1,none⟩ = some (.int .i64 x460001_5):=(c_ BK459.out 1).trans rfl;have hcz48_2 : w47.cell? ⟨gb459,2,none⟩ = some (.int .i64 x460002_5):=(c_ BK459.out 2).trans rfl;have hcz48_3 : w47.cell? ⟨gb459,3,none⟩ = some (.int .i64 x460003_5):=(c_ BK459.out 3).trans rfl;have hcz48_4 : w47.cell? ⟨gb459,4,none⟩ = some (.int .i64 x460004_5):=(c_ BK459.out 4).trans rfl;have hcz48_5 : w47.cell? ⟨gb459,5,none⟩ = some (.int .i64 a3):=(c_ BK459.out 5).trans rfl;have hcz48_6 : w47.cell? ⟨gb459,6,none⟩ = some (.string (⟨#[]⟩ : ByteArray)):=(c_ BK459.out 6).trans rfl;have hfz48_0:=f_ BK459.out 0;have hfz48_1:=f_ BK459.out 1;have hfz48_2:=f_ BK459.out 2;have hfz48_3:=f_ BK459.out 3;have hfz48_4:=f_ BK459.out 4;have hfz48_5:=f_ BK459.out 5;have hfz48_6:=f_ BK459.out 6;have hnb49:=NB458_457.out;have hnc49:=NB457_458.out;have hcz50_0 : w47.cell? ⟨gb458,0,none⟩ = some (.int .i64 0):=(c_ BK458.out 0).trans rfl;have hcz50_1 : w47.cell? ⟨gb458,1,none⟩ = some (.int .i64 0):=(c_ BK458.out 1).trans rfl;have hcz50_2 : w47.cell? ⟨gb458,2,none⟩ = some (.int .i64 0):=(c_ BK458.out 2).trans rfl;have hcz50_3 : w47.cell? ⟨gb458,3,none⟩ = some (.int .i64 0):=(c_ BK458.out 3).trans rfl;have hcz50_4 : w47.cell? ⟨gb458,4,none⟩ = some (.int .i64 0):=(c_ BK458.out 4).trans rfl;have hcz50_5 : w47.cell? ⟨gb458,5,none⟩ = some (.int .i64 0):=(c_ BK458.out 5).trans rfl;have hcz50_6 : w47.cell? ⟨gb458,6,none⟩ = some (.string (⟨#[]⟩ : ByteArray)):=(c_ BK458.out 6).trans rfl;have hfz50_0:=f_ BK458.out 0;have hfz50_1:=f_ BK458.out 1;have hfz50_2:=f_ BK458.out 2;have hfz50_3:=f_ BK458.out 3;have hfz50_4:=f_ BK458.out 4;have hfz50_5:=f_ BK458.out 5;have hfz50_6:=f_ BK458.out 6))
          refine bodyPost_ret (results_ct rfl _ _ gb458 57 #[.int .i64 1,.int .i64 x460001_5,.int .i64 x460002_5,.int .i64 x460003_5,.int .i64 x460004_5,.int .i64 a3,.string (x13_5.extract (a3 : Int).toNat ((wrap64 (a3 + (ji40))) : Int).toNat)] (0,0) _ rfl (by (with_reducible repeat first|apply b1_|apply b2_|apply b3_);refine blk_put (cs:=#[.int .i64 1,.int .i64 x460001_5,.int .i64 x460002_5,.int .i64 x460003_5,.int .i64 x460004_5,.int .i64 a3,.string (⟨#[]⟩ : ByteArray)]) ?_ 6 _ rfl;(with_reducible repeat first|apply b1_|apply b2_|apply b3_);refine blk_put (cs:=#[.int .i64 1,.int .i64 x460001_5,.int .i64 x460002_5,.int .i64 x460003_5,.int .i64 x460004_5,.int .i64 0,.string (⟨#[]⟩ : ByteArray)]) ?_ 5 _ rfl;(with_reducible repeat first|apply b1_|apply b2_|apply b3_);refine blk_put (cs:=#[.int .i64 1,.int .i64 x460001_5,.int .i64 x460002_5,.int .i64 x460003_5,.int .i64 0,.int .i64 0,.string (⟨#[]⟩ : ByteArray)]) ?_ 4 _ rfl;(with_reducible repeat first|apply b1_|apply b2_|apply b3_);refine blk_put (cs:=#[.int .i64 1,.int .i64 x460001_5,.int .i64 x460002_5,.int .i64 0,.int .i64 0,.int .i64 0,.string (⟨#[]⟩ : ByteArray)]) ?_ 3 _ rfl;(with_reducible repeat first|apply b1_|apply b2_|apply b3_);refine blk_put (cs:=#[.int .i64 1,.int .i64 x460001_5,.int .i64 0,.int .i64 0,.int .i64 0,.int .i64 0,.string (⟨#[]⟩ : ByteArray)]) ?_ 2 _ rfl;(with_reducible repeat first|apply b1_|apply b2_|apply b3_);refine blk_put (cs:=#[.int .i64 1,.int .i64 0,.int .i64 0,.int .i64 0,.int .i64 0,.int .i64 0,.string (⟨#[]⟩ : ByteArray)]) ?_ 1 _ rfl;(with_reducible repeat first|apply b1_|apply b2_|apply b3_);refine blk_put (cs:=#[.int .i64 0,.int .i64 0,.int .i64 0,.int .i64 0,.int .i64 0,.int .i64 0,.string (⟨#[]⟩ : ByteArray)]) ?_ 0 _ rfl;(with_reducible repeat first|apply b1_|apply b2_|apply b3_);refine b4_ ?_ NB458_459.out _;(with_reducible repeat first|apply b1_|apply b2_|apply b3_);exact BK458.out) Tryd.underlying57 rfl (by kernel_rfl)) rfl ?_
          exact ⟨by first|rfl|(simp [e1_,e2_] <;> rfl)|(simp only [← hji40];first|rfl|(simp [e1_,e2_] <;> rfl))|(simp [*,e1_,e2_] <;> rfl)|(simp [e1_,e2_,pk_empty1,pk_empty2];done)|(simp [*,e1_,e2_,pk_empty1,pk_empty2];done),by repeat (first|(with_reducible first|exact HB.out|apply l1_|apply l2_|apply l3_|refine l4_ ?_ GE457.out|refine l4_ ?_ GE458.out|refine l4_ ?_ GE459.out)|exact HB.out)⟩
         ·rw [if_neg c43] at H
          exact absurd H (by simp)
        ·rw [if_neg c42] at H
         exact absurd H (by simp)
       ·rw [if_neg c41] at H
        exact absurd H (by simp)
      ·replace c39:=Bool.eq_false_iff.mpr c39
       subst c39
       have H1 : (some (0,0,0,0,0,0,(⟨#[]⟩ : ByteArray),false)) = some (r1,r2,r3,r4,r5,r6,r7,r8):=by rw [if_neg (show ¬ (false = true) by decide)] at H;exact H
       clear H
       have H:=H1
       clear H1
       simp only [Option.some.injEq,Prod.mk.injEq] at H
       obtain ⟨rfl,rfl,rfl,rfl,rfl,rfl,rfl,rfl⟩:=H
       go_wp2_with (first|((with_reducible refine gate_callee (f:=51) rfl ?_);refine goesL_ (some 36) rfl rfl Tryd.func51 (by kernel_rfl) rfl #[.int .i64 a3,.int .i64 0,.int .i64 (wrap64 ((x13_5.size : Int) - 1))] rfl (by (try simp only [List.map_toArray,List.map_cons,List.map_nil]);first|done|rfl|(simp only [List.length_drop,List.length_take];rfl)) ?_;(with_reducible refine (impl_within.calls a3 0 (wrap64 ((x13_5.size : Int) - 1)) true _ A22.out).mono ?_);rintro e w' ⟨rfl,⟨nd,rfl⟩⟩;refine ⟨_,rfl,?_⟩;(try (rw [drewN_self wc];generalize hq_ : World.drewN wc _ = wc;have n0_ : Aside0 (wc.heap[gb457]? = some (.cells #[.int .i64 a0_0,.int .i64 a0_1,.int .i64 a0_2,.int .i64 a0_3,.string a0_4,.string a0_5,.int .i64 a0_6,.int .i64 a0_7,.string a0_8,.string a0_9] 42 (0,0))):=⟨by rw [← hq_];exact (by (with_reducible repeat first|apply b1_|apply b2_|apply b3_);exact BK457.out)⟩;have n1_ : Aside0 (wc.heap[gb458]? = some (.cells #[.int .i64 0,.int .i64 0,.int .i64 0,.int .i64 0,.int .i64 0,.int .i64 0,.string (⟨#[]⟩ : ByteArray)] 57 (0,0))):=⟨by rw [← hq_];exact (by (with_reducible repeat first|apply b1_|apply b2_|apply b3_);exact BK458.out)⟩;have n2_ : Aside0 (wc.heap[gb459]? = some (.cells #[.int .i64 1,.int .i64 x460001_5,.int .i64 x460002_5,.int .i64 x460003_5,.int .i64 x460004_5,.int .i64 a3,.string (⟨#[]⟩ : ByteArray)] 57 (0,0))):=⟨by rw [← hq_];exact (by (with_reducible repeat first|apply b1_|apply b2_|apply b3_);exact BK459.out)⟩;have n3_ : Aside0 (Below w.heap.size w wc):=⟨by rw [← hq_];exact (by repeat (first|(with_reducible first|exact HB.out|apply l1_|apply l2_|apply l3_|refine l4_ ?_ GE457.out|refine l4_ ?_ GE458.out|refine l4_ ?_ GE459.out)|exact HB.out))⟩;clear BK457 BK458 BK459 HB hq_;have BK457:=n0_;have BK458:=n1_;have BK459:=n2_;have HB:=n3_;clear n0_ n1_ n2_ n3_));have hnb51:=NB459_457.out;have hnc51:=NB457_459.out;have hnb52:=NB459_458.out;have hnc52:=NB458_459.out;have hcz53_0 : wc.cell? ⟨gb459,0,none⟩ = some (.int .i64 1):=(c_ BK459.out 0).trans rfl;have hcz53_1 : wc.cell? ⟨gb459,1,none⟩ = some (.int .i64 x460001_5):=(c_ BK459.out 1).trans rfl;have hcz53_2 : wc.cell? ⟨gb459,2,none⟩ = some (.int .i64 x460002_5):=(c_ BK459.out 2).trans rfl;have hcz53_3 : wc.cell? ⟨gb459,3,none⟩ = some (.int .i64 x460003_5):=(c_ BK459.out 3).trans rfl;have hcz53_4 : wc.cell? ⟨gb459,4,none⟩ = some (.int .i64 x460004_5):=(c_ BK459.out 4).trans rfl;have hcz53_5 : wc.cell? ⟨gb459,5,none⟩ = some (.int .i64 a3):=(c_ BK459.out 5).trans rfl;have hcz53_6 : wc.cell? ⟨gb459,6,none⟩ = some (.string (⟨#[]⟩ : ByteArray)):=(c_ BK459.out 6).trans rfl;have hfz53_0:=f_ BK459.out 0;have hfz53_1:=f_ BK459.out 1;have hfz53_2:=f_ BK459.out 2;have hfz53_3:=f_ BK459.out 3;have hfz53_4:=f_ BK459.out 4;have hfz53_5:=f_ BK459.out 5;have hfz53_6:=f_ BK459.out 6)|(go_at_call 25;(with_reducible refine (impl_EndDoor.calls x460003_5 x460004_5 false _ A38.out).mono ?_);rintro e w54 ⟨rfl,hb⟩;have n0_:=m_ (blk_below (g:=gb457) (o:=.cells #[.int .i64 a0_0,.int .i64 a0_1,.int .i64 a0_2,.int .i64 a0_3,.string a0_4,.string a0_5,.int .i64 a0_6,.int .i64 a0_7,.string a0_8,.string a0_9] 42 (0,0)) (by (with_reducible repeat first|apply b1_|apply b2_|apply b3_);exact BK457.out) hb);have n1_:=m_ (blk_below (g:=gb458) (o:=.cells #[.int .i64 0,.int .i64 0,.int .i64 0,.int .i64 0,.int .i64 0,.int .i64 0,.string (⟨#[]⟩ : ByteArray)] 57 (0,0)) (by (with_reducible repeat first|apply b1_|apply b2_|apply b3_);exact BK458.out) hb);have n2_:=m_ (blk_below (g:=gb459) (o:=.cells #[.int .i64 1,.int .i64 x460001_5,.int .i64 x460002_5,.int .i64 x460003_5,.int .i64 x460004_5,.int .i64 a3,.string (⟨#[]⟩ : ByteArray)] 57 (0,0)) (by (with_reducible repeat first|apply b1_|apply b2_|apply b3_);exact BK459.out) hb);have n3_:=m_ (l5_ (by repeat (first|(with_reducible first|exact HB.out|apply l1_|apply l2_|apply l3_|refine l4_ ?_ GE457.out|refine l4_ ?_ GE458.out|refine l4_ ?_ GE459.out)|exact HB.out)) hb);clear BK457;clear BK458;clear BK459;clear HB;have BK457:=n0_;have BK458:=n1_;have BK459:=n2_;have HB:=n3_;clear n0_ n1_ n2_ n3_;(try clear hb);(try clear hb2);(try clear hk);(try clear hi);have hnb55:=NB458_457.out;have hnc55:=NB457_458.out;have hcz56_0 : w54.cell? ⟨gb458,0,none⟩ = some (.int .i64 0):=(c_ BK458.out 0).trans rfl;have hcz56_1 : w54.cell? ⟨gb458,1,none⟩ = some (.int .i64 0):=(c_ BK458.out 1).trans rfl;have hcz56_2 : w54.cell? ⟨gb458,2,none⟩ = some (.int .i64 0):=(c_ BK458.out 2).trans rfl;have hcz56_3 : w54.cell? ⟨gb458,3,none⟩ = some (.int .i64 0):=(c_ BK458.out 3).trans rfl;have hcz56_4 : w54.cell? ⟨gb458,4,none⟩ = some (.int .i64 0):=(c_ BK458.out 4).trans rfl;have hcz56_5 : w54.cell? ⟨gb458,5,none⟩ = some (.int .i64 0):=(c_ BK458.out 5).trans rfl;have hcz56_6 : w54.cell? ⟨gb458,6,none⟩ = some (.string (⟨#[]⟩ : ByteArray)):=(c_ BK458.out 6).trans rfl;have hfz56_0:=f_ BK458.out 0;have hfz56_1:=f_ BK458.out 1;have hfz56_2:=f_ BK458.out 2;have hfz56_3:=f_ BK458.out 3;have hfz56_4:=f_ BK458.out 4;have hfz56_5:=f_ BK458.out 5;have hfz56_6:=f_ BK458.out 6))
       refine bodyPost_ret (results_ct rfl _ _ gb458 57 #[.int .i64 0,.int .i64 0,.int .i64 0,.int .i64 0,.int .i64 0,.int .i64 0,.string (⟨#[]⟩ : ByteArray)] (0,0) _ rfl (by (with_reducible repeat first|apply b1_|apply b2_|apply b3_);refine blk_put (cs:=#[.int .i64 0,.int .i64 0,.int .i64 0,.int .i64 0,.int .i64 0,.int .i64 0,.string (⟨#[]⟩ : ByteArray)]) ?_ 6 _ rfl;(with_reducible repeat first|apply b1_|apply b2_|apply b3_);refine blk_put (cs:=#[.int .i64 0,.int .i64 0,.int .i64 0,.int .i64 0,.int .i64 0,.int .i64 0,.string (⟨#[]⟩ : ByteArray)]) ?_ 5 _ rfl;(with_reducible repeat first|apply b1_|apply b2_|apply b3_);refine blk_put (cs:=#[.int .i64 0,.int .i64 0,.int .i64 0,.int .i64 0,.int .i64 0,.int .i64 0,.string (⟨#[]⟩ : ByteArray)]) ?_ 4 _ rfl;(with_reducible repeat first|apply b1_|apply b2_|apply b3_);refine blk_put (cs:=#[.int .i64 0,.int .i64 0,.int .i64 0,.int .i64 0,.int .i64 0,.int .i64 0,.string (⟨#[]⟩ : ByteArray)]) ?_ 3 _ rfl;(with_reducible repeat first|apply b1_|apply b2_|apply b3_);refine blk_put (cs:=#[.int .i64 0,.int .i64 0,.int .i64 0,.int .i64 0,.int .i64 0,.int .i64 0,.string (⟨#[]⟩ : ByteArray)]) ?_ 2 _ rfl;(with_reducible repeat first|apply b1_|apply b2_|apply b3_);refine blk_put (cs:=#[.int .i64 0,.int .i64 0,.int .i64 0,.int .i64 0,.int .i64 0,.int .i64 0,.string (⟨#[]⟩ : ByteArray)]) ?_ 1 _ rfl;(with_reducible repeat first|apply b1_|apply b2_|apply b3_);refine blk_put (cs:=#[.int .i64 0,.int .i64 0,.int .i64 0,.int .i64 0,.int .i64 0,.int .i64 0,.string (⟨#[]⟩ : ByteArray)]) ?_ 0 _ rfl;(with_reducible repeat first|apply b1_|apply b2_|apply b3_);exact BK458.out) Tryd.underlying57 rfl (by kernel_rfl)) rfl ?_
       exact ⟨by first|rfl|(simp [e1_,e2_] <;> rfl)|(simp [*,e1_,e2_] <;> rfl)|(simp [e1_,e2_,pk_empty1,pk_empty2];done)|(simp [*,e1_,e2_,pk_empty1,pk_empty2];done),by repeat (first|(with_reducible first|exact HB.out|apply l1_|apply l2_|apply l3_|refine l4_ ?_ GE457.out|refine l4_ ?_ GE458.out|refine l4_ ?_ GE459.out)|exact HB.out)⟩
   ·replace c23:=Bool.eq_false_iff.mpr c23
    subst c23
    have H1 : (some (0,0,0,0,0,0,(⟨#[]⟩ : ByteArray),false)) = some (r1,r2,r3,r4,r5,r6,r7,r8):=by rw [if_neg (show ¬ (false = true) by decide)] at H;exact H
    clear H
    have H:=H1
    clear H1
    simp only [Option.some.injEq,Prod.mk.injEq] at H
    obtain ⟨rfl,rfl,rfl,rfl,rfl,rfl,rfl,rfl⟩:=H
    go_wp2_with (first|((with_reducible refine gate_callee (f:=51) rfl ?_);refine goesL_ (some 36) rfl rfl Tryd.func51 (by kernel_rfl) rfl #[.int .i64 a3,.int .i64 0,.int .i64 (wrap64 ((x13_5.size : Int) - 1))] rfl (by (try simp only [List.map_toArray,List.map_cons,List.map_nil]);first|done|rfl|(simp only [List.length_drop,List.length_take];rfl)) ?_;(with_reducible refine (impl_within.calls a3 0 (wrap64 ((x13_5.size : Int) - 1)) false _ A22.out).mono ?_);rintro e w' ⟨rfl,⟨nd,rfl⟩⟩;refine ⟨_,rfl,?_⟩;(try (rw [drewN_self wc];generalize hq_ : World.drewN wc _ = wc;have n0_ : Aside0 (wc.heap[gb457]? = some (.cells #[.int .i64 a0_0,.int .i64 a0_1,.int .i64 a0_2,.int .i64 a0_3,.string a0_4,.string a0_5,.int .i64 a0_6,.int .i64 a0_7,.string a0_8,.string a0_9] 42 (0,0))):=⟨by rw [← hq_];exact (by (with_reducible repeat first|apply b1_|apply b2_|apply b3_);exact BK457.out)⟩;have n1_ : Aside0 (wc.heap[gb458]? = some (.cells #[.int .i64 0,.int .i64 0,.int .i64 0,.int .i64 0,.int .i64 0,.int .i64 0,.string (⟨#[]⟩ : ByteArray)] 57 (0,0))):=⟨by rw [← hq_];exact (by (with_reducible repeat first|apply b1_|apply b2_|apply b3_);exact BK458.out)⟩;have n2_ : Aside0 (wc.heap[gb459]? = some (.cells #[.int .i64 1,.int .i64 x460001_5,.int .i64 x460002_5,.int .i64 x460003_5,.int .i64 x460004_5,.int .i64 a3,.string (⟨#[]⟩ : ByteArray)] 57 (0,0))):=⟨by rw [← hq_];exact (by (with_reducible repeat first|apply b1_|apply b2_|apply b3_);exact BK459.out)⟩;have n3_ : Aside0 (Below w.heap.size w wc):=⟨by rw [← hq_];exact (by repeat (first|(with_reducible first|exact HB.out|apply l1_|apply l2_|apply l3_|refine l4_ ?_ GE457.out|refine l4_ ?_ GE458.out|refine l4_ ?_ GE459.out)|exact HB.out))⟩;clear BK457 BK458 BK459 HB hq_;have BK457:=n0_;have BK458:=n1_;have BK459:=n2_;have HB:=n3_;clear n0_ n1_ n2_ n3_));have hnb57:=NB458_457.out;have hnc57:=NB457_458.out;have hnb58:=NB458_459.out;have hnc58:=NB459_458.out;have hcz59_0 : wc.cell? ⟨gb458,0,none⟩ = some (.int .i64 0):=(c_ BK458.out 0).trans rfl;have hcz59_1 : wc.cell? ⟨gb458,1,none⟩ = some (.int .i64 0):=(c_ BK458.out 1).trans rfl;have hcz59_2 : wc.cell? ⟨gb458,2,none⟩ = some (.int .i64 0):=(c_ BK458.out 2).trans rfl;have hcz59_3 : wc.cell? ⟨gb458,3,none⟩ = some (.int .i64 0):=(c_ BK458.out 3).trans rfl;have hcz59_4 : wc.cell? ⟨gb458,4,none⟩ = some (.int .i64 0):=(c_ BK458.out 4).trans rfl;have hcz59_5 : wc.cell? ⟨gb458,5,none⟩ = some (.int .i64 0):=(c_ BK458.out 5).trans rfl;have hcz59_6 : wc.cell? ⟨gb458,6,none⟩ = some (.string (⟨#[]⟩ : ByteArray)):=(c_ BK458.out 6).trans rfl;have hfz59_0:=f_ BK458.out 0;have hfz59_1:=f_ BK458.out 1;have hfz59_2:=f_ BK458.out 2;have hfz59_3:=f_ BK458.out 3;have hfz59_4:=f_ BK458.out 4;have hfz59_5:=f_ BK458.out 5;have hfz59_6:=f_ BK458.out 6))
    refine bodyPost_ret (results_ct rfl _ _ gb458 57 #[.int .i64 0,.int .i64 0,.int .i64 0,.int .i64 0,.int .i64 0,.int .i64 0,.string (⟨#[]⟩ : ByteArray)] (0,0) _ rfl (by (with_reducible repeat first|apply b1_|apply b2_|apply b3_);refine blk_put (cs:=#[.int .i64 0,.int .i64 0,.int .i64 0,.int .i64 0,.int .i64 0,.int .i64 0,.string (⟨#[]⟩ : ByteArray)]) ?_ 6 _ rfl;(with_reducible repeat first|apply b1_|apply b2_|apply b3_);refine blk_put (cs:=#[.int .i64 0,.int .i64 0,.int .i64 0,.int .i64 0,.int .i64 0,.int .i64 0,.string (⟨#[]⟩ : ByteArray)]) ?_ 5 _ rfl;(with_reducible repeat first|apply b1_|apply b2_|apply b3_);refine blk_put (cs:=#[.int .i64 0,.int .i64 0,.int .i64 0,.int .i64 0,.int .i64 0,.int .i64 0,.string (⟨#[]⟩ : ByteArray)]) ?_ 4 _ rfl;(with_reducible repeat first|apply b1_|apply b2_|apply b3_);refine blk_put (cs:=#[.int .i64 0,.int .i64 0,.int .i64 0,.int .i64 0,.int .i64 0,.int .i64 0,.string (⟨#[]⟩ : ByteArray)]) ?_ 3 _ rfl;(with_reducible repeat first|apply b1_|apply b2_|apply b3_);refine blk_put (cs:=#[.int .i64 0,.int .i64 0,.int .i64 0,.int .i64 0,.int .i64 0,.int .i64 0,.string (⟨#[]⟩ : ByteArray)]) ?_ 2 _ rfl;(with_reducible repeat first|apply b1_|apply b2_|apply b3_);refine blk_put (cs:=#[.int .i64 0,.int .i64 0,.int .i64 0,.int .i64 0,.int .i64 0,.int .i64 0,.string (⟨#[]⟩ : ByteArray)]) ?_ 1 _ rfl;(with_reducible repeat first|apply b1_|apply b2_|apply b3_);refine blk_put (cs:=#[.int .i64 0,.int .i64 0,.int .i64 0,.int .i64 0,.int .i64 0,.int .i64 0,.string (⟨#[]⟩ : ByteArray)]) ?_ 0 _ rfl;(with_reducible repeat first|apply b1_|apply b2_|apply b3_);exact BK458.out) Tryd.underlying57 rfl (by kernel_rfl)) rfl ?_
    exact ⟨by first|rfl|(simp [e1_,e2_] <;> rfl)|(simp [*,e1_,e2_] <;> rfl)|(simp [e1_,e2_,pk_empty1,pk_empty2];done)|(simp [*,e1_,e2_,pk_empty1,pk_empty2];done),by repeat (first|(with_reducible first|exact HB.out|apply l1_|apply l2_|apply l3_|refine l4_ ?_ GE457.out|refine l4_ ?_ GE458.out|refine l4_ ?_ GE459.out)|exact HB.out)⟩

end Go.Proofs.YtclhmoghkcnkmaaDoor.A
