-- Printed by myprint.py (wip/tools) out of the translation. Not trusted: Lean checks it.
import Derived.Test.YtkcjmmhleepjeaaGreatDoorAx0
import Derived.Test.YtkcjmmhleepjeaaGreatDoorAx2
import Derived.Test.YtkcjmmhleepjeaaGreatDoorAx4
import Derived.Test.YtkcjmmhleepjeaaGreatDoorAx6
import Derived.Test.YtkcjmmhleepjeaaGreatDoorAx10
namespace Go.Proofs.YtkcjmmhleepjeaaGreatDoor.A
open Go.RowKit Go.Proofs.YtkcjmmhleepjeaaGreatDoorW.PrintWords Go.Proofs.YtkcjmmhleepjeaaGreatDoorW.PrintLast Go.Proofs.YtkcjmmhleepjeaaGreatDoorW.PrintMore
attribute [local go_sem] max2_int min2_int max_two min_two max_three min_three max_four min_four
set_option linter.unusedVariables false
set_option linter.unusedSimpArgs false

/-! ### spec_l71Stream: function 23 -/
mutual
def spec_l71Stream.j0 : Nat → List (S79) → List Int → Int → Option ((List (S79)) × ByteArray × (List (S31)) × Int)
 | 0, _, _, _ => none
 | k + 1, x4, x1000, x1001 => (spec_l6Rd_pick.f k x1000 x1001 2).bind fun bt314 => ((spec_l71Text.f k x1000 bt314.2 30).bind fun bt316 => (spec_l71Stream.l0 k x4 (bt314.1 == 0) bt316.1 x1000 bt316.2 (⟨#[]⟩ : ByteArray) (([] : List (S31)))))
def spec_l71Stream.l0 : Nat → List (S79) → Bool → ByteArray → List Int → Int → ByteArray → List (S31) → Option ((List (S79)) × ByteArray × (List (S31)) × Int)
 | 0, _, _, _, _, _, _, _ => none
 | k + 1, x4, x6, x7, x1000, x1001, x314000, x314001 => if (x314000.size : Int) < (x7.size : Int) then ((spec_l6Rd_pick.f k x1000 x1001 8).bind fun bt318 => (if 0 ≤ (x314000.size : Int) then (if (x314000.size : Int) ≤ (mn (wrap64 ((x314000.size : Int) + (wrap64 (1 + bt318.1)))) (x7.size : Int)) then (if (mn (wrap64 ((x314000.size : Int) + (wrap64 (1 + bt318.1)))) (x7.size : Int)) ≤ (x7.size : Int) then ((spec_l11Put.f k x4 x314000 x314001 (x314000.size : Int) (x7.extract ((x314000.size : Int) : Int).toNat ((mn (wrap64 ((x314000.size : Int) + (wrap64 (1 + bt318.1)))) (x7.size : Int)) : Int).toNat) x6).bind fun bt320 => ((spec_l6Rd_pick.f k x1000 bt318.2 6).bind fun bt328 => (if bt328.1 = 0 then (if 0 ≤ (bt320.2.1.size : Int) then (if (bt320.2.1.size : Int) ≤ (x7.size : Int) then (spec_l71Stream.l0 k bt320.1 x6 (x7.extract 0 ((bt320.2.1.size : Int) : Int).toNat) x1000 bt328.2 bt320.2.1 bt320.2.2.1) else (none)) else (none)) else (spec_l71Stream.l0 k bt320.1 x6 x7 x1000 bt328.2 bt320.2.1 bt320.2.2.1)))) else (none)) else (none)) else (none))) else ((spec_l6Rd_pick.f k x1000 x1001 20).bind fun bt330 => (if bt330.1 = 0 then ((spec_l6Rd_of.f k x1000 bt330.2 (([(⟨#[120]⟩ : ByteArray), (⟨#[32]⟩ : ByteArray), (⟨#[64]⟩ : ByteArray)] : List ByteArray))).bind fun bt335 => (if x314000.size + bt335.1.size ≤ 9223372036854775807 then (some (x4, x314000 ++ bt335.1, x314001, bt335.2)) else (none))) else (if bt330.1 = 1 then (if (x314001.length : Int) > 0 then ((spec_l6Rd_of.f k x1000 bt330.2 (([(⟨#[]⟩ : ByteArray), (⟨#[97, 97, 97, 97, 97, 97, 97, 97]⟩ : ByteArray), (⟨#[64, 49, 58, 49, 59]⟩ : ByteArray), (⟨#[65]⟩ : ByteArray)] : List ByteArray))).bind fun bt340 => (if 0 < (x314001.length : Int) then (some (x4, x314000, (x314001.set (0 : Int).toNat (⟨(rd_T31 x314001 0).f0, bt340.1⟩ : S31)), bt340.2)) else (none))) else (some (x4, x314000, x314001, bt330.2))) else (some (x4, x314000, x314001, bt330.2)))))
end
def spec_l71Stream.f (k : Nat) (s0_0 : List Int) (s0_1 : Int) : Option ((List (S79)) × ByteArray × (List (S31)) × Int) := (spec_l71Map.f k s0_0 s0_1).bind fun bt302 => ((spec_MapOk.f k bt302.1).bind fun t306 => (if t306 = true then (spec_l71Stream.j0 k bt302.1 s0_0 bt302.2) else (spec_l71Stream.j0 k (([] : List (S79))) s0_0 bt302.2)))
theorem spec_l71Stream.mono_l : ∀ k, (∀ y0 y1 y2, LeO (spec_l71Stream.j0 k y0 y1 y2) (spec_l71Stream.j0 (k + 1) y0 y1 y2)) ∧ (∀ y0 y1 y2 y3 y4 y5 y6, LeO (spec_l71Stream.l0 k y0 y1 y2 y3 y4 y5 y6) (spec_l71Stream.l0 (k + 1) y0 y1 y2 y3 y4 y5 y6))
 | 0 => ⟨fun _ _ _ r h => by simp [spec_l71Stream.j0] at h, fun _ _ _ _ _ _ _ r h => by simp [spec_l71Stream.l0] at h⟩
 | k + 1 => by
  obtain ⟨ih0,ih1⟩:=spec_l71Stream.mono_l k
  refine ⟨?_,?_⟩
  ·intro y0 y1 y2
   unfold spec_l71Stream.j0
   exact leo8 ih0 ih1 spec_MapOk.mono spec_l11Put.mono spec_l6Rd_of.mono spec_l6Rd_pick.mono spec_l71Map.mono spec_l71Text.mono
  ·intro y0 y1 y2 y3 y4 y5 y6
   unfold spec_l71Stream.l0
   exact leo8 ih0 ih1 spec_MapOk.mono spec_l11Put.mono spec_l6Rd_of.mono spec_l6Rd_pick.mono spec_l71Map.mono spec_l71Text.mono
theorem spec_l71Stream.mono : ∀ a0 a1 k, LeO (spec_l71Stream.f k a0 a1) (spec_l71Stream.f (k + 1) a0 a1) := by
 intro a0 a1 k
 obtain ⟨ih0,ih1⟩:=spec_l71Stream.mono_l k
 unfold spec_l71Stream.f
 exact leo8 ih0 ih1 spec_MapOk.mono spec_l11Put.mono spec_l6Rd_of.mono spec_l6Rd_pick.mono spec_l71Map.mono spec_l71Text.mono
def spec_l71Stream.T9 : Bool × List (List Nat × List Nat) := (true, [([], []), ([], []), ([], []), ([2], [2]), ([3], [3]), ([], []), ([], []), ([6], [6]), ([7], [7]), ([], []), ([9], [9]), ([10], [10]), ([], []), ([11, 12], [11, 12]), ([], []), ([14], [14]), ([13, 15], [13, 15]), ([5, 8, 16], [5, 8, 16]), ([], []), ([0, 1, 4, 17, 18], [0, 1, 4, 17, 18]), ([19], [19]), ([20], [20]), ([20], [20]), ([20], [20]), ([21, 19, 0, 1, 2, 3, 4, 5, 6, 7, 8, 9, 10, 11, 12, 13, 14, 15, 16, 17, 18, 19, 20, 21], [0, 21]), ([22, 24, 0, 1, 2, 3, 4, 5, 6, 7, 8, 9, 10, 11, 12, 13, 14, 15, 16, 17, 18, 19, 20, 21, 22, 24], [22])])
def spec_l71Stream.B9 : List Nat := [0, 0, 0, 4, 12, 0, 0, 64, 192, 0, 512, 1536, 0, 7680, 0, 16384, 65024, 131040, 0, 524287, 1048575, 2097151, 2097151, 2097151, 4194303, 25165823]
theorem spec_l71Stream.tab9 : rtab .any (opsOf Tryz.f23 9) = spec_l71Stream.T9 := by kernel_rfl
theorem spec_l71Stream.bits9 : waitsOk spec_l71Stream.T9.2 spec_l71Stream.B9 = true := by kernel_rfl
def spec_l71Stream.T14 : Bool × List (List Nat × List Nat) := (true, [([], []), ([0], [0]), ([], []), ([], []), ([2, 3], [2, 3]), ([1, 4], [1, 4]), ([0, 1, 2, 3, 4, 5], []), ([6, 5, 4, 0, 1, 2, 3, 4, 5], [5, 6])])
def spec_l71Stream.B14 : List Nat := [0, 1, 0, 0, 12, 31, 63, 127]
theorem spec_l71Stream.tab14 : rtab .any (opsOf Tryz.f23 14) = spec_l71Stream.T14 := by kernel_rfl
theorem spec_l71Stream.bits14 : waitsOk spec_l71Stream.T14.2 spec_l71Stream.B14 = true := by kernel_rfl
def spec_l71Stream.T17 : Bool × List (List Nat × List Nat) := (true, [([], []), ([0], [0]), ([], []), ([], []), ([2, 3], [2, 3]), ([1, 0, 1, 2, 3, 4], [1]), ([5, 0, 1, 2, 3, 4], [5]), ([6, 4, 4, 0, 1, 2, 3, 4], [4, 6])])
def spec_l71Stream.B17 : List Nat := [0, 1, 0, 0, 12, 31, 63, 127]
theorem spec_l71Stream.tab17 : rtab .any (opsOf Tryz.f23 17) = spec_l71Stream.T17 := by kernel_rfl
theorem spec_l71Stream.bits17 : waitsOk spec_l71Stream.T17.2 spec_l71Stream.B17 = true := by kernel_rfl
set_option maxHeartbeats 8000000 in
set_option maxRecDepth 100000 in
theorem spec_l71Stream.calls (k : Nat) (g : Nat) (s0_0 : List Int) (s0_1 : Int) (r1 : List (S79)) (r2 : ByteArray) (r3 : List (S31)) (r4 : Int) (w0 w : World) (hI : IsS56 w0 w g s0_0 s0_1) (hB : Below w0.heap.size w0 w) (h : spec_l71Stream.f k s0_0 s0_1 = some (r1, r2, r3, r4)) :
  Calls Tryz.prog 23 #[.pointer (some ⟨g,0,none⟩)] w fun e w'=>∃ v0_ v2_ : Value,e = .returned (.tuple #[v0_,.agg #[.string r2,v2_]]) ∧ Kd.Q k79 79 w' w.heap.size (fun _=>True) v0_ r1 ∧ Kd.R k31 31 w' w.heap.size (fun _=>True) v2_ r3 ∧ IsS56 w0 w' g s0_0 r4 ∧ Below w0.heap.size w0 w' ∧ KeepBut w w' g none:=by
 have hu25:=Tryz.underlying25
 have HI0:=m_ hI
 have HK:=m_ (KeepBut.refl w g none)
 have HL:=m_ hB.size
 clear hI
 have HW0:=m_ hB.size
 have HB:=m_ hB
 clear hB
 have H : ((spec_l71Map.f k s0_0 s0_1).bind fun bt302=>((spec_MapOk.f k bt302.1).bind fun t306=>(if t306 = true then (spec_l71Stream.j0 k bt302.1 s0_0 bt302.2) else (spec_l71Stream.j0 k (([] : List (S79))) s0_0 bt302.2)))) = some (r1,r2,r3,r4):=h
 clear h
 replace H:=Option.bind_eq_some_iff.mp H
 obtain ⟨⟨t302,t305⟩,A20,H⟩:=H
 replace H : ((spec_MapOk.f k t302).bind fun t306=>(if t306 = true then (spec_l71Stream.j0 k t302 s0_0 t305) else (spec_l71Stream.j0 k (([] : List (S79))) s0_0 t305))) = some (r1,r2,r3,r4):=H
 have A2:=m_ A20
 clear A20
 replace H:=Option.bind_eq_some_iff.mp H
 obtain ⟨t306,A30,H⟩:=H
 have A3:=m_ A30
 clear A30
 have HC4:=m_ H
 clear H
 go_enter Tryz.func23,Tryz.ntmps23
 go_upto_if 13 with (first|((with_reducible refine gate_dst (N:=3) rfl ?_);refine box_event ?hg (N:=3) ?hd (cs:=#[.string (⟨#[]⟩ : ByteArray),.slice none 0 0]) (t:=25) ?hr ?_;(case hd=>rfl);(case hg=>rfl);(case hr=>first|(go_simp;done)|(go_simp;rfl));intro gb301 hg w5 hbox hb;have n0_:=m_ (IsS56.below (by repeat (first|(with_reducible first|exact HI0.out|apply IsS56.alloc|apply IsS56.drewN|apply IsS56.drew|apply IsS56.set_1)|exact HI0.out)) hb);have n1_:=m_ (KeepBut.trans (puK HK.out) (KeepBut.of_below hb g none) (.inl rfl));have n2_:=m_ (l5_ (puM HB.out (IsS56.ge HI0.out)) hb);have n3_:=m_ (hbox);have n4_:=m_ ((by rw [hg];exact (keep_size (w:=w) (g:=g) (row:=none) (puK HK.out)) : w.heap.size ≤ gb301));have n5_:=m_ ((Nat.le_trans HW0.out (by rw [hg];exact (keep_size (w:=w) (g:=g) (row:=none) (puK HK.out)) : w.heap.size ≤ gb301) : w0.heap.size ≤ gb301));have n6_:=m_ ((by rw [hg];exact Nat.ne_of_lt (IsS56.lt (show IsS56 w0 _ g s0_0 s0_1 from by repeat (first|(with_reducible first|exact HI0.out|apply IsS56.alloc|apply IsS56.drewN|apply IsS56.drew|apply IsS56.set_1)|exact HI0.out))) : g ≠ gb301));have n7_:=m_ ((by rw [hg];exact Nat.ne_of_gt (IsS56.lt (show IsS56 w0 _ g s0_0 s0_1 from by repeat (first|(with_reducible first|exact HI0.out|apply IsS56.alloc|apply IsS56.drewN|apply IsS56.drew|apply IsS56.set_1)|exact HI0.out))) : gb301 ≠ g));revert n0_ n1_ n2_ n3_ n4_ n5_ n6_ n7_;clear HI0 HK HB;intro HI0 HK HB BK301 GW301 GE301 NB0_301 NB301_0;clear hb hbox hg)|((with_reducible refine gate_callee (f:=41) rfl ?_);refine goesL_ (some 10) rfl rfl Tryz.func41 (by kernel_rfl) rfl #[.pointer (some ⟨g,0,none⟩)] rfl lens ?_;(with_reducible refine (spec_l71Map.calls k g s0_0 s0_1 t302 t305 w0 _ ?side1 ?side2 A2.out).mono ?_);(case side1=>repeat (first|(with_reducible first|exact HI0.out|apply IsS56.alloc|apply IsS56.drewN|apply IsS56.drew|apply IsS56.set_1|refine IsS56.far ?_ NB0_301.out _)|exact HI0.out));(case side2=>exact puN HB.out (IsS56.ge HI0.out) GE301.out);rintro e w6 ⟨v303,rfl,ho0,hi,hb,hk⟩;refine ⟨_,rfl,?_⟩;have n0_:=m_ (KeepBut.blk hk (g':=gb301) (o:=.cells #[.string (⟨#[]⟩ : ByteArray),.slice none 0 0] 25 (0,0)) (puB BK301.out) NB301_0.out (by simp));have n1_:=m_ (Kd.Q_lower ho0 (keep_size (w:=w) (g:=g) (row:=none) (puV HK.out GW301.out)));have n2_:=m_ (KeepBut.trans (puV HK.out GW301.out) hk (.inl rfl));have n3_:=m_ (hb);have n4_:=m_ (hi);revert n0_ n1_ n2_ n3_ n4_;clear BK301 HK HB HI0;intro BK301 HO304 HK HB HI0;(try clear hb);(try clear hb2);(try clear hk);(try clear hi);(try clear ho0);obtain ⟨Ao7,co7,eo7,_⟩:=Kd.Q_slice HO304.out;subst eo7)|((with_reducible refine gate_callee (f:=42) rfl ?_);refine goesL_ (some 12) rfl rfl Tryz.func42 (by kernel_rfl) rfl #[.slice Ao7 t302.length co7] rfl lens ?_;(with_reducible refine (spec_MapOk.calls k _ _ t302 t306 _ ?side1 ?side2 A3.out).mono ?_);(case side1=>repeat (first|exact (Kd.Q_reads' HO304.out).2.2|(with_reducible refine Kd.C_alloc ?_ _)|(with_reducible refine Kd.C_drewN ?_ _)|(with_reducible refine Kd.C_drew ?_)));(case side2=>exact (Kd.Q_reads' HO304.out).2.1);rintro e w8 ⟨rfl,hb⟩;refine ⟨_,rfl,?_⟩;have n0_:=m_ (Kd.Q_below (puQ HO304.out) hb);have n1_:=m_ (IsS56.below (by repeat (first|(with_reducible first|exact HI0.out|apply IsS56.alloc|apply IsS56.drewN|apply IsS56.drew|apply IsS56.set_1|refine IsS56.far ?_ NB0_301.out _)|exact HI0.out)) hb);have n2_:=m_ (blk_below (g:=gb301) (o:=.cells #[.string (⟨#[]⟩ : ByteArray),.slice none 0 0] 25 (0,0)) (puB BK301.out) hb);have n3_:=m_ (KeepBut.trans (puV HK.out GW301.out) (KeepBut.of_below hb g none) (.inl rfl));have n4_:=m_ (l5_ (puN HB.out (IsS56.ge HI0.out) GE301.out) hb);revert n0_ n1_ n2_ n3_ n4_;clear HO304 HI0 BK301 HK HB;intro HO304 HI0 BK301 HK HB;(try clear hb);(try clear hb2);(try clear hk);(try clear hi)))
 (try simp only [Act.put,s1_,s2_,s3_])
 go_cut [4] (fun v4 wc=>∃ (kq : Nat) (x4_3 : List (S79)),Aside0 (spec_l71Stream.j0 kq x4_3 s0_0 t305 = some (r1,r2,r3,r4)) ∧ Aside0 (kq ≤ k) ∧ Aside0 (Kd.Q k79 79 wc w.heap.size (fun _=>True) v4 x4_3) ∧ Aside0 (wc.heap[gb301]? = some (.cells #[.string (⟨#[]⟩ : ByteArray),(.slice none 0 0)] 25 (0,0))) ∧ Aside0 (IsS56 w0 wc g s0_0 t305) ∧ Aside0 (KeepBut w wc g none) ∧ Aside0 (Below w0.heap.size w0 wc))
 case first =>
  have H:=HC4.out
  clear HC4
  by_cases c9 : t306 = true
  ·subst c9
   replace H:=ifp H rfl
   have H':=m_ H
   clear H
   go_wp2
   go_meet
   case rel=>exact ⟨_,(t302),H',⟨by first|omega|exact Nat.le_refl _⟩,⟨by (with_reducible repeat (first|apply Kd.Q_alloc|apply Kd.Q_drewN|apply Kd.Q_drew));exact HO304.out⟩,⟨by (with_reducible repeat first|apply b1_|apply b2_|apply b3_);exact BK301.out⟩,⟨by repeat (first|(with_reducible first|exact HI0.out|apply IsS56.alloc|apply IsS56.drewN|apply IsS56.drew|apply IsS56.set_1|refine IsS56.far ?_ NB0_301.out _)|exact HI0.out)⟩,⟨puV HK.out GW301.out⟩,⟨puN HB.out (IsS56.ge HI0.out) GE301.out⟩⟩
  ·replace c9:=Bool.eq_false_iff.mpr c9
   subst c9
   replace H:=ifn H
   obtain ⟨y307,hy307⟩ : ∃ y_ : List (S79),y_ = (([] : List (S79))):=⟨_,rfl⟩
   replace H : (spec_l71Stream.j0 k y307 s0_0 t305) = some (r1,r2,r3,r4):=by first|(rw [hy307];with_reducible exact H)|(have H2_:=(Option.bind_some _ _).symm.trans H;rw [hy307];with_reducible exact H2_)|(have H2_:=(Option.bind_some _ _).symm.trans H;with_reducible exact H2_)|with_reducible exact H|(rw [hy307];exact H)|exact H
   have Ny307:=m_ hy307
   clear hy307
   have H':=m_ H
   clear H
   go_wp2_with (first|((with_reducible refine gate_dst (N:=14) rfl ?_);refine Kd.R_lit k79 _ 79 ?hg (N:=14) ?hd (xs:=([] : List (S79))) (inner:=[]) (ok:=fun _=>True) (okp:=fun _=>True) ?hr ?hp (fun _ hk=>hk) trivial (Below.refl _ _) (Nat.le_refl _) (by simp) ?_;(case hd=>rfl);(case hg=>rfl);(case hr=>first|(go_simp;done)|(go_simp;rfl));(case hp=>exact (Reps.none _ _));intro v308 w10 ho11 hb hg_ hnew_;clear hg_ hnew_;(first|rw [← Ny307.out] at ho11|(simp only [Int.reduceToNat] at ho11;rw [← Ny307.out] at ho11));have n0_:=m_ (Kd.Q_elder' (puQ HO304.out) (Kd.R_base ho11) hb);have n1_:=m_ (Kd.R_lower (Kd.R_new' ho11 (Kd.Q_lt (puQ HO304.out))) (keep_size (w:=w) (g:=g) (row:=none) (puV HK.out GW301.out)));have n2_:=m_ (IsS56.below (by repeat (first|(with_reducible first|exact HI0.out|apply IsS56.alloc|apply IsS56.drewN|apply IsS56.drew|apply IsS56.set_1|refine IsS56.far ?_ NB0_301.out _)|exact HI0.out)) hb);have n3_:=m_ (blk_below (g:=gb301) (o:=.cells #[.string (⟨#[]⟩ : ByteArray),.slice none 0 0] 25 (0,0)) (puB BK301.out) hb);have n4_:=m_ (KeepBut.trans (puV HK.out GW301.out) (KeepBut.of_below hb g none) (.inl rfl));have n5_:=m_ (l5_ (puN HB.out (IsS56.ge HI0.out) GE301.out) hb);revert n0_ n1_ n2_ n3_ n4_ n5_;clear HO304 HI0 BK301 HK HB;intro HO304 HO309 HI0 BK301 HK HB;clear hb ho11))
   go_meet
   case rel=>exact ⟨_,(y307),H',⟨by first|omega|exact Nat.le_refl _⟩,⟨Kd.Q_of_R (by (with_reducible repeat (first|apply Kd.R_alloc|apply Kd.R_drewN|apply Kd.R_drew));exact Kd.R_mono HO309.out (fun _ hk=>trivial))⟩,⟨by (with_reducible repeat first|apply b1_|apply b2_|apply b3_);exact BK301.out⟩,⟨by repeat (first|(with_reducible first|exact HI0.out|apply IsS56.alloc|apply IsS56.drewN|apply IsS56.drew|apply IsS56.set_1|refine IsS56.far ?_ NB0_301.out _)|exact HI0.out)⟩,⟨puV HK.out GW301.out⟩,⟨puN HB.out (IsS56.ge HI0.out) GE301.out⟩⟩
 case rest =>
  clear HC4
  try clear c2
  try clear p2
  try clear c4
  try clear c9
  obtain ⟨kq,x4_3,HA,HJ3,HO_4,BK301,HI0,HK,HB⟩:=hcut
  cases kq with
  | zero => exact absurd HA.out (by simp [spec_l71Stream.j0])
  | succ kj3 =>
   have H:=HA.out
   clear HA
   simp only [spec_l71Stream.j0] at H
   obtain ⟨y310,hy310⟩ : ∃ y_ : List (S31),y_ = (([] : List (S31))):=⟨_,rfl⟩
   replace H : ((spec_l6Rd_pick.f kj3 s0_0 t305 2).bind fun bt314=>((spec_l71Text.f kj3 s0_0 bt314.2 30).bind fun bt316=>(spec_l71Stream.l0 kj3 x4_3 (bt314.1 == 0) bt316.1 s0_0 bt316.2 (⟨#[]⟩ : ByteArray) y310))) = some (r1,r2,r3,r4):=by first|(rw [hy310];with_reducible exact H)|(have H2_:=(Option.bind_some _ _).symm.trans H;rw [hy310];with_reducible exact H2_)|(have H2_:=(Option.bind_some _ _).symm.trans H;with_reducible exact H2_)|with_reducible exact H|(rw [hy310];exact H)|exact H
   have Ny310:=m_ hy310
   clear hy310
   replace H:=Option.bind_eq_some_iff.mp H
   obtain ⟨⟨t314,t315⟩,A120,H⟩:=H
   replace H : ((spec_l71Text.f kj3 s0_0 t315 30).bind fun bt316=>(spec_l71Stream.l0 kj3 x4_3 (t314 == 0) bt316.1 s0_0 bt316.2 (⟨#[]⟩ : ByteArray) y310)) = some (r1,r2,r3,r4):=H
   have A12:=m_ A120
   clear A120
   replace H:=Option.bind_eq_some_iff.mp H
   obtain ⟨⟨t316,t317⟩,A130,H⟩:=H
   replace H : (spec_l71Stream.l0 kj3 x4_3 (t314 == 0) t316 s0_0 t317 (⟨#[]⟩ : ByteArray) y310) = some (r1,r2,r3,r4):=H
   have A13:=m_ A130
   clear A130
   have H':=m_ H
   clear H
   go_wp2_with (first|((with_reducible refine gate_dst (N:=15) rfl ?_);refine Kd.R_lit k31 _ 31 ?hg (N:=15) ?hd (xs:=([] : List (S31))) (inner:=[]) (ok:=fun _=>True) (okp:=fun _=>True) ?hr ?hp (fun _ hk=>hk) trivial (Below.refl _ _) (Nat.le_refl _) (by simp) ?_;(case hd=>rfl);(case hg=>rfl);(case hr=>first|(go_simp;done)|(go_simp;rfl));(case hp=>exact (Reps.none _ _));intro v311 w14 ho15 hb hg_ hnew_;clear hg_ hnew_;(first|rw [← Ny310.out] at ho15|(simp only [Int.reduceToNat] at ho15;rw [← Ny310.out] at ho15));have n0_:=m_ (Kd.Q_below (puQ HO_4.out) hb);have n1_:=m_ (Kd.R_lower ho15 (keep_size (w:=w) (g:=g) (row:=none) (puV HK.out GW301.out)));have n2_:=m_ (blk_below (g:=gb301) (o:=.cells #[.string (⟨#[]⟩ : ByteArray),.slice none 0 0] 25 (0,0)) (puB BK301.out) hb);have n3_:=m_ (IsS56.below (by repeat (first|(with_reducible first|exact HI0.out|apply IsS56.alloc|apply IsS56.drewN|apply IsS56.drew|apply IsS56.set_1|refine IsS56.far ?_ NB0_301.out _)|exact HI0.out)) hb);have n4_:=m_ (KeepBut.trans (puV HK.out GW301.out) (KeepBut.of_below hb g none) (.inl rfl));have n5_:=m_ (l5_ (puN HB.out (IsS56.ge HI0.out) GE301.out) hb);revert n0_ n1_ n2_ n3_ n4_ n5_;clear HO_4 BK301 HI0 HK HB;intro HO_4 HO312 BK301 HI0 HK HB;clear hb ho15;obtain ⟨Ao16,co16,eo16⟩:=Kd.R_slice HO312.out;subst eo16)|((with_reducible refine gate_dst (N:=5) rfl ?_);refine box_event ?hg (N:=5) ?hd (cs:=#[.string (⟨#[]⟩ : ByteArray),.slice none 0 0]) (t:=25) ?hr ?_;(case hd=>rfl);(case hg=>rfl);(case hr=>first|(go_simp;done)|(go_simp;rfl));intro gb313 hg w17 hbox hb;have n0_:=m_ (Kd.Q_below (puQ HO_4.out) hb);have n1_:=m_ (Kd.R_below (puR HO312.out) hb);have n2_:=m_ (blk_below (g:=gb301) (o:=.cells #[.string (⟨#[]⟩ : ByteArray),.slice none 0 0] 25 (0,0)) (puB BK301.out) hb);have n3_:=m_ (IsS56.below (by repeat (first|(with_reducible first|exact HI0.out|apply IsS56.alloc|apply IsS56.drewN|apply IsS56.drew|apply IsS56.set_1|refine IsS56.far ?_ NB0_301.out _)|exact HI0.out)) hb);have n4_:=m_ (KeepBut.trans (puV HK.out GW301.out) (KeepBut.of_below hb g none) (.inl rfl));have n5_:=m_ (l5_ (puN HB.out (IsS56.ge HI0.out) GE301.out) hb);have n6_:=m_ (hbox);have n7_:=m_ ((by rw [hg];exact (keep_size (w:=w) (g:=g) (row:=none) (puV HK.out GW301.out)) : w.heap.size ≤ gb313));have n8_:=m_ ((Nat.le_trans HW0.out (by rw [hg];exact (keep_size (w:=w) (g:=g) (row:=none) (puV HK.out GW301.out)) : w.heap.size ≤ gb313) : w0.heap.size ≤ gb313));have n9_:=m_ ((by rw [hg];exact Nat.ne_of_lt (blk_lt (g:=gb301) (o:=.cells #[.string (⟨#[]⟩ : ByteArray),.slice none 0 0] 25 (0,0)) (puB BK301.out)) : gb301 ≠ gb313));have n10_:=m_ n9_.out.symm;have n11_:=m_ ((by rw [hg];exact Nat.ne_of_lt (IsS56.lt (show IsS56 w0 _ g s0_0 t305 from by repeat (first|(with_reducible first|exact HI0.out|apply IsS56.alloc|apply IsS56.drewN|apply IsS56.drew|apply IsS56.set_1|refine IsS56.far ?_ NB0_301.out _)|exact HI0.out))) : g ≠ gb313));have n12_:=m_ ((by rw [hg];exact Nat.ne_of_gt (IsS56.lt (show IsS56 w0 _ g s0_0 t305 from by repeat (first|(with_reducible first|exact HI0.out|apply IsS56.alloc|apply IsS56.drewN|apply IsS56.drew|apply IsS56.set_1|refine IsS56.far ?_ NB0_301.out _)|exact HI0.out))) : gb313 ≠ g));revert n0_ n1_ n2_ n3_ n4_ n5_ n6_ n7_ n8_ n9_ n10_ n11_ n12_;clear HO_4 HO312 BK301 HI0 HK HB;intro HO_4 HO312 BK301 HI0 HK HB BK313 GW313 GE313 NB301_313 NB313_301 NB0_313 NB313_0;clear hb hbox hg;have hnb18:=NB313_301.out;have hnc18:=NB301_313.out;have hnb19:=NB313_0.out;have hnc19:=NB0_313.out;have hcz20_0 : w17.cell? ⟨gb313,0,none⟩ = some (.string (⟨#[]⟩ : ByteArray)):=(c_ BK313.out 0).trans rfl;have hcz20_1 : w17.cell? ⟨gb313,1,none⟩ = some (.slice none 0 0):=(c_ BK313.out 1).trans rfl;have hfz20_0:=f_ BK313.out 0;have hfz20_1:=f_ BK313.out 1)|((with_reducible refine gate_callee (f:=24) rfl ?_);refine goesL_ (some 18) rfl rfl Tryz.func24 (by kernel_rfl) rfl #[.pointer (some ⟨g,0,none⟩),.int .i64 2] rfl lens ?_;(with_reducible refine (spec_l6Rd_pick.calls kj3 g s0_0 t305 2 t314 t315 w0 _ ?side1 ?side2 A12.out).mono ?_);(case side1=>repeat (first|(with_reducible first|exact HI0.out|apply IsS56.alloc|apply IsS56.drewN|apply IsS56.drew|apply IsS56.set_1|refine IsS56.far ?_ NB0_301.out _|refine IsS56.far ?_ NB0_313.out _)|exact HI0.out));(case side2=>exact puO HB.out (IsS56.ge HI0.out) GE301.out GE313.out);rintro e w21 ⟨rfl,hi,hb,hk⟩;refine ⟨_,rfl,?_⟩;have n0_:=m_ (Kd.Q_mono (Kd.Q_keep (IsS56.apartQ (show IsS56 w0 _ g s0_0 t305 from by repeat (first|(with_reducible first|exact HI0.out|apply IsS56.alloc|apply IsS56.drewN|apply IsS56.drew|apply IsS56.set_1|refine IsS56.far ?_ NB0_301.out _|refine IsS56.far ?_ NB0_313.out _)|exact HI0.out)) (by (with_reducible repeat (first|apply Kd.Q_alloc|apply Kd.Q_drewN|apply Kd.Q_drew));exact (Kd.Q_mono (Kd.Q_far (p:=⟨gb313,1,none⟩) (Kd.Q_far (p:=⟨gb313,0,none⟩) (Kd.Q_types HO_4.out BK313.out (by decide)) (fun _ hk=>hk.2) (.string (⟨#[]⟩ : ByteArray))) (fun _ hk=>hk.2) (.slice Ao16 y310.length co16)) (fun _ h_=>h_.1))) (by decide)) hk (fun _ h=>h.2)) (fun _ h=>h.1));have n1_:=m_ (KeepBut.blk hk (g':=gb301) (o:=.cells #[.string (⟨#[]⟩ : ByteArray),.slice none 0 0] 25 (0,0)) (by (with_reducible repeat first|apply b1_|apply b2_|apply b3_);refine b4_ ?_ NB301_313.out _;(with_reducible repeat first|apply b1_|apply b2_|apply b3_);refine b4_ ?_ NB301_313.out _;(with_reducible repeat first|apply b1_|apply b2_|apply b3_);exact BK301.out) NB301_0.out (by simp));have n2_:=m_ (Kd.R_mono (Kd.R_keep (IsS56.apart (show IsS56 w0 _ g s0_0 t305 from by repeat (first|(with_reducible first|exact HI0.out|apply IsS56.alloc|apply IsS56.drewN|apply IsS56.drew|apply IsS56.set_1|refine IsS56.far ?_ NB0_301.out _|refine IsS56.far ?_ NB0_313.out _)|exact HI0.out)) (by (with_reducible repeat (first|apply Kd.R_alloc|apply Kd.R_drewN|apply Kd.R_drew));exact (Kd.R_mono (Kd.R_far (p:=⟨gb313,1,none⟩) (Kd.R_far (p:=⟨gb313,0,none⟩) (Kd.R_types HO312.out BK313.out (by decide)) (fun _ hk=>hk.2) (.string (⟨#[]⟩ : ByteArray))) (fun _ hk=>hk.2) (.slice Ao16 y310.length co16)) (fun _ h_=>h_.1))) (by decide)) hk (fun _ h=>h.2)) (fun _ h=>h.1));have n3_:=m_ (KeepBut.blk hk (g':=gb313) (o:=.cells #[.string (⟨#[]⟩ : ByteArray),.slice Ao16 y310.length co16] 25 (0,0)) (by (with_reducible repeat first|apply b1_|apply b2_|apply b3_);refine blk_put (cs:=#[.string (⟨#[]⟩ : ByteArray),.slice none 0 0]) ?_ 1 _ rfl;(with_reducible repeat first|apply b1_|apply b2_|apply b3_);refine blk_put (cs:=#[.string (⟨#[]⟩ : ByteArray),.slice none 0 0]) ?_ 0 _ rfl;(with_reducible repeat first|apply b1_|apply b2_|apply b3_);exact BK313.out) NB313_0.out (by simp));have n4_:=m_ (KeepBut.trans (puW HK.out GW301.out GW313.out) hk (.inl rfl));have n5_:=m_ (hb);have n6_:=m_ (hi);revert n0_ n1_ n2_ n3_ n4_ n5_ n6_;clear HO_4 BK301 HO312 BK313 HK HB HI0;intro HO_4 BK301 HO312 BK313 HK HB HI0;(try clear hb);(try clear hb2);(try clear hk);(try clear hi))|((with_reducible refine gate_callee (f:=43) rfl ?_);refine goesL_ (some 21) rfl rfl Tryz.func43 (by kernel_rfl) rfl #[.pointer (some ⟨g,0,none⟩),.int .i64 30] rfl lens ?_;(with_reducible refine (spec_l71Text.calls kj3 g s0_0 t315 30 t316 t317 w0 _ ?side1 ?side2 A13.out).mono ?_);(case side1=>repeat (first|(with_reducible first|exact HI0.out|apply IsS56.alloc|apply IsS56.drewN|apply IsS56.drew|apply IsS56.set_1|refine IsS56.far ?_ NB0_301.out _|refine IsS56.far ?_ NB0_313.out _)|exact HI0.out));(case side2=>exact puO HB.out (IsS56.ge HI0.out) GE301.out GE313.out);rintro e w22 ⟨rfl,hi,hb,hk⟩;refine ⟨_,rfl,?_⟩;have n0_:=m_ (Kd.Q_mono (Kd.Q_keep (IsS56.apartQ (show IsS56 w0 _ g s0_0 t315 from by repeat (first|(with_reducible first|exact HI0.out|apply IsS56.alloc|apply IsS56.drewN|apply IsS56.drew|apply IsS56.set_1|refine IsS56.far ?_ NB0_301.out _|refine IsS56.far ?_ NB0_313.out _)|exact HI0.out)) (puQ HO_4.out) (by decide)) hk (fun _ h=>h.2)) (fun _ h=>h.1));have n1_:=m_ (KeepBut.blk hk (g':=gb301) (o:=.cells #[.string (⟨#[]⟩ : ByteArray),.slice none 0 0] 25 (0,0)) (puB BK301.out) NB301_0.out (by simp));have n2_:=m_ (Kd.R_mono (Kd.R_keep (IsS56.apart (show IsS56 w0 _ g s0_0 t315 from by repeat (first|(with_reducible first|exact HI0.out|apply IsS56.alloc|apply IsS56.drewN|apply IsS56.drew|apply IsS56.set_1|refine IsS56.far ?_ NB0_301.out _|refine IsS56.far ?_ NB0_313.out _)|exact HI0.out)) (puR HO312.out) (by decide)) hk (fun _ h=>h.2)) (fun _ h=>h.1));have n3_:=m_ (KeepBut.blk hk (g':=gb313) (o:=.cells #[.string (⟨#[]⟩ : ByteArray),.slice Ao16 y310.length co16] 25 (0,0)) (puB BK313.out) NB313_0.out (by simp));have n4_:=m_ (KeepBut.trans (puW HK.out GW301.out GW313.out) hk (.inl rfl));have n5_:=m_ (hb);have n6_:=m_ (hi);revert n0_ n1_ n2_ n3_ n4_ n5_ n6_;clear HO_4 BK301 HO312 BK313 HK HB HI0;intro HO_4 BK301 HO312 BK313 HK HB HI0;(try clear hb);(try clear hb2);(try clear hk);(try clear hi)))
   go_loopg [4,7] kj3 (fun kq v4 v7 w'=>∃ (x4_2 : List (S79)) (x7_2 : ByteArray) (x1001_2 : Int) (x314000_2 : ByteArray) (x314001_2 : List (S31)) (u314001 : Value),v7 = .string x7_2 ∧ Aside0 (spec_l71Stream.l0 kq x4_2 (t314 == 0) x7_2 s0_0 x1001_2 x314000_2 x314001_2 = some (r1,r2,r3,r4)) ∧ Aside0 (kq ≤ kj3) ∧ Aside0 (Kd.Q k79 79 w' w.heap.size (fun _=>True) v4 x4_2) ∧ Aside0 (Kd.R k31 31 w' w.heap.size (fun _=>True) u314001 x314001_2) ∧ Aside0 (w'.heap[gb301]? = some (.cells #[.string (⟨#[]⟩ : ByteArray),(.slice none 0 0)] 25 (0,0))) ∧ Aside0 (w'.heap[gb313]? = some (.cells #[.string x314000_2,u314001] 25 (0,0))) ∧ Aside0 (IsS56 w0 w' g s0_0 x1001_2) ∧ Aside0 (KeepBut w w' g none) ∧ Aside0 (Below w0.heap.size w0 w'))
   case atStart=>exact ⟨(x4_3),(t316),(t317),((⟨#[]⟩ : ByteArray)),(y310),(.slice Ao16 y310.length co16),(by first|rfl|(simp;done)|(simp [*];done)),H',⟨Nat.le_refl _⟩,⟨by (with_reducible repeat (first|apply Kd.Q_alloc|apply Kd.Q_drewN|apply Kd.Q_drew));exact HO_4.out⟩,⟨by (with_reducible repeat (first|apply Kd.R_alloc|apply Kd.R_drewN|apply Kd.R_drew));exact HO312.out⟩,⟨by (with_reducible repeat first|apply b1_|apply b2_|apply b3_);exact BK301.out⟩,⟨by (with_reducible repeat first|apply b1_|apply b2_|apply b3_);exact BK313.out⟩,⟨by repeat (first|(with_reducible first|exact HI0.out|apply IsS56.alloc|apply IsS56.drewN|apply IsS56.drew|apply IsS56.set_1|refine IsS56.far ?_ NB0_301.out _|refine IsS56.far ?_ NB0_313.out _)|exact HI0.out)⟩,⟨puW HK.out GW301.out GW313.out⟩,⟨puO HB.out (IsS56.ge HI0.out) GE301.out GE313.out⟩⟩
   case round =>
    clear H'
    try clear c1
    try clear c2
    try clear p2
    try clear c4
    try clear c9
    try clear c18
    try clear c19
    try clear hcz20_0
    try clear hcz20_1
    try clear hfz20_0
    try clear hfz20_1
    try clear p2
    obtain ⟨x4_2,x7_2,x1001_2,x314000_2,x314001_2,u314001,rfl,HA,HK2,HO_4,HO_314001,BK301,BK313,HI0,HK,HB⟩:=hrel
    cases gk with
    | zero => exact absurd HA.out (by simp [spec_l71Stream.l0])
    | succ k2 =>
     have H:=HA.out
     clear HA
     simp only [spec_l71Stream.l0] at H
     by_cases c23 : (x314000_2.size : Int) < (x7_2.size : Int)
     ·rw [if_pos c23] at H
      have c23b0 : decide ((x314000_2.size : Int) < (x7_2.size : Int)) = true:=decide_eq_true c23
      have c23b1 : decide (x314000_2.size < x7_2.size) = true:=decide_eq_true (Int.ofNat_lt.mp c23)
      clear c23
      replace H:=Option.bind_eq_some_iff.mp H
      obtain ⟨⟨t318,t319⟩,A240,H⟩:=H
      replace H : (if 0 ≤ (x314000_2.size : Int) then (if (x314000_2.size : Int) ≤ (mn (wrap64 ((x314000_2.size : Int) + (wrap64 (1 + t318)))) (x7_2.size : Int)) then (if (mn (wrap64 ((x314000_2.size : Int) + (wrap64 (1 + t318)))) (x7_2.size : Int)) ≤ (x7_2.size : Int) then ((spec_l11Put.f k2 x4_2 x314000_2 x314001_2 (x314000_2.size : Int) (x7_2.extract ((x314000_2.size : Int) : Int).toNat ((mn (wrap64 ((x314000_2.size : Int) + (wrap64 (1 + t318)))) (x7_2.size : Int)) : Int).toNat) (t314 == 0)).bind fun bt320=>((spec_l6Rd_pick.f k2 s0_0 t319 6).bind fun bt328=>(if bt328.1 = 0 then (if 0 ≤ (bt320.2.1.size : Int) then (if (bt320.2.1.size : Int) ≤ (x7_2.size : Int) then (spec_l71Stream.l0 k2 bt320.1 (t314 == 0) (x7_2.extract 0 ((bt320.2.1.size : Int) : Int).toNat) s0_0 bt328.2 bt320.2.1 bt320.2.2.1) else (none)) else (none)) else (spec_l71Stream.l0 k2 bt320.1 (t314 == 0) x7_2 s0_0 bt328.2 bt320.2.1 bt320.2.2.1)))) else (none)) else (none)) else (none)) = some (r1,r2,r3,r4):=H
      have A24:=m_ A240
      clear A240
      obtain ⟨ji25,hji25⟩ : ∃ j_ : Int,(mn (wrap64 ((x314000_2.size : Int) + (wrap64 (1 + t318)))) (x7_2.size : Int)) = j_:=⟨_,rfl⟩
      replace H : (if 0 ≤ (x314000_2.size : Int) then (if (x314000_2.size : Int) ≤ (ji25) then (if (ji25) ≤ (x7_2.size : Int) then ((spec_l11Put.f k2 x4_2 x314000_2 x314001_2 (x314000_2.size : Int) (x7_2.extract ((x314000_2.size : Int) : Int).toNat ((ji25) : Int).toNat) (t314 == 0)).bind fun bt320=>((spec_l6Rd_pick.f k2 s0_0 t319 6).bind fun bt328=>(if bt328.1 = 0 then (if 0 ≤ (bt320.2.1.size : Int) then (if (bt320.2.1.size : Int) ≤ (x7_2.size : Int) then (spec_l71Stream.l0 k2 bt320.1 (t314 == 0) (x7_2.extract 0 ((bt320.2.1.size : Int) : Int).toNat) s0_0 bt328.2 bt320.2.1 bt320.2.2.1) else (none)) else (none)) else (spec_l71Stream.l0 k2 bt320.1 (t314 == 0) x7_2 s0_0 bt328.2 bt320.2.1 bt320.2.2.1)))) else (none)) else (none)) else (none)) = some (r1,r2,r3,r4):=by first|(rw [hji25] at H;exact H)|(simp only [hji25] at H ⊢;exact H)
      (try rw [hji25] at A24)
      have hji25_ : (if (x7_2.size : Int) < (wrap64 ((x314000_2.size : Int) + (wrap64 (1 + t318)))) then (x7_2.size : Int) else (wrap64 ((x314000_2.size : Int) + (wrap64 (1 + t318))))) = ji25:=hji25
      by_cases c26 : 0 ≤ (x314000_2.size : Int)
      rotate_left
      ·rw [if_neg c26] at H
       exact absurd H (by simp)
      rw [if_pos c26] at H
      have c26b0:=eq_true c26
      have c26b1:=decide_eq_true c26
      clear c26
      by_cases c27 : (x314000_2.size : Int) ≤ (ji25)
      rotate_left
      ·rw [if_neg c27] at H
       exact absurd H (by simp)
      rw [if_pos c27] at H
      have c27b0:=eq_true c27
      have c27b1:=decide_eq_true c27
      clear c27
      by_cases c28 : (ji25) ≤ (x7_2.size : Int)
      rotate_left
      ·rw [if_neg c28] at H
       exact absurd H (by simp)
      rw [if_pos c28] at H
      have c28b0:=eq_true c28
      have c28b1:=decide_eq_true c28
      clear c28
      replace H:=Option.bind_eq_some_iff.mp H
      obtain ⟨⟨t320,t323,t324,t327⟩,A290,H⟩:=H
      replace H : ((spec_l6Rd_pick.f k2 s0_0 t319 6).bind fun bt328=>(if bt328.1 = 0 then (if 0 ≤ (t323.size : Int) then (if (t323.size : Int) ≤ (x7_2.size : Int) then (spec_l71Stream.l0 k2 t320 (t314 == 0) (x7_2.extract 0 ((t323.size : Int) : Int).toNat) s0_0 bt328.2 t323 t324) else (none)) else (none)) else (spec_l71Stream.l0 k2 t320 (t314 == 0) x7_2 s0_0 bt328.2 t323 t324))) = some (r1,r2,r3,r4):=H
      have A29:=m_ A290
      clear A290
      replace H:=Option.bind_eq_some_iff.mp H
      obtain ⟨⟨t328,t329⟩,A300,H⟩:=H
      replace H : (if t328 = 0 then (if 0 ≤ (t323.size : Int) then (if (t323.size : Int) ≤ (x7_2.size : Int) then (spec_l71Stream.l0 k2 t320 (t314 == 0) (x7_2.extract 0 ((t323.size : Int) : Int).toNat) s0_0 t329 t323 t324) else (none)) else (none)) else (spec_l71Stream.l0 k2 t320 (t314 == 0) x7_2 s0_0 t329 t323 t324)) = some (r1,r2,r3,r4):=H
      have A30:=m_ A300
      clear A300
      by_cases c31 : t328 = 0
      ·rw [if_pos c31] at H
       have c31b0 : (t328 == 0) = true:=beq_iff_eq.mpr c31
       have c31b1 : (t328 != 0) = false:=bne_eq_false_iff_eq.mpr c31
       clear c31
       by_cases c32 : 0 ≤ (t323.size : Int)
       rotate_left
       ·rw [if_neg c32] at H
        exact absurd H (by simp)
       rw [if_pos c32] at H
       have c32b0:=eq_true c32
       have c32b1:=decide_eq_true c32
       clear c32
       by_cases c33 : (t323.size : Int) ≤ (x7_2.size : Int)
       rotate_left
       ·rw [if_neg c33] at H
        exact absurd H (by simp)
       rw [if_pos c33] at H
       have c33b0:=eq_true c33
       have c33b1:=decide_eq_true c33
       clear c33
       have H':=m_ H
       clear H
       have hnb34:=NB313_301.out
       have hnc34:=NB301_313.out
       have hnb35:=NB313_0.out
       have hnc35:=NB0_313.out
       have hcz36_0 : wr.cell? ⟨gb313,0,none⟩ = some (.string x314000_2):=(c_ BK313.out 0).trans rfl
       have hcz36_1 : wr.cell? ⟨gb313,1,none⟩ = some (u314001):=(c_ BK313.out 1).trans rfl
       have hfz36_0:=f_ BK313.out 0
       have hfz36_1:=f_ BK313.out 1
       try go_wp2_with (first|((with_reducible refine gate_callee (f:=24) rfl ?_);refine goesL_ (some 29) rfl rfl Tryz.func24 (by kernel_rfl) rfl #[.pointer (some ⟨g,0,none⟩),.int .i64 8] rfl lens ?_;(with_reducible refine (spec_l6Rd_pick.calls k2 g s0_0 x1001_2 8 t318 t319 w0 _ ?side1 ?side2 A24.out).mono ?_);(case side1=>repeat (first|(with_reducible first|exact HI0.out|apply IsS56.alloc|apply IsS56.drewN|apply IsS56.drew|apply IsS56.set_1|refine IsS56.far ?_ NB0_301.out _|refine IsS56.far ?_ NB0_313.out _)|exact HI0.out));(case side2=>exact puO HB.out (IsS56.ge HI0.out) GE301.out GE313.out);rintro e w37 ⟨rfl,hi,hb,hk⟩;refine ⟨_,rfl,?_⟩;have n0_:=m_ (Kd.Q_mono (Kd.Q_keep (IsS56.apartQ (show IsS56 w0 _ g s0_0 x1001_2 from by repeat (first|(with_reducible first|exact HI0.out|apply IsS56.alloc|apply IsS56.drewN|apply IsS56.drew|apply IsS56.set_1|refine IsS56.far ?_ NB0_301.out _|refine IsS56.far ?_ NB0_313.out _)|exact HI0.out)) (puQ HO_4.out) (by decide)) hk (fun _ h=>h.2)) (fun _ h=>h.1));have n1_:=m_ (Kd.R_mono (Kd.R_keep (IsS56.apart (show IsS56 w0 _ g s0_0 x1001_2 from by repeat (first|(with_reducible first|exact HI0.out|apply IsS56.alloc|apply IsS56.drewN|apply IsS56.drew|apply IsS56.set_1|refine IsS56.far ?_ NB0_301.out _|refine IsS56.far ?_ NB0_313.out _)|exact HI0.out)) (puR HO_314001.out) (by decide)) hk (fun _ h=>h.2)) (fun _ h=>h.1));have n2_:=m_ (KeepBut.blk hk (g':=gb301) (o:=.cells #[.string (⟨#[]⟩ : ByteArray),.slice none 0 0] 25 (0,0)) (puB BK301.out) NB301_0.out (by simp));have n3_:=m_ (KeepBut.blk hk (g':=gb313) (o:=.cells #[.string x314000_2,u314001] 25 (0,0)) (puB BK313.out) NB313_0.out (by simp));have n4_:=m_ (KeepBut.trans (puW HK.out GW301.out GW313.out) hk (.inl rfl));have n5_:=m_ (hb);have n6_:=m_ (hi);revert n0_ n1_ n2_ n3_ n4_ n5_ n6_;clear HO_4 HO_314001 BK301 BK313 HK HB HI0;intro HO_4 HO_314001 BK301 BK313 HK HB HI0;(try clear hb);(try clear hb2);(try clear hk);(try clear hi)))
       have n0_:=m_ (Kd.Q_drew HO_4.out)
       have n1_:=m_ (Kd.R_drew HO_314001.out)
       have n2_:=m_ (b2_ BK301.out)
       have n3_:=m_ (b2_ BK313.out)
       have n4_:=m_ (IsS56.drew HI0.out)
       have n5_:=m_ (keep_drew HK.out)
       have n6_:=m_ (l3_ HB.out)
       clear HO_4
       clear HO_314001
       clear BK301
       clear BK313
       clear HI0
       clear HK
       clear HB
       have HO_4:=n0_
       have HO_314001:=n1_
       have BK301:=n2_
       have BK313:=n3_
       have HI0:=n4_
       have HK:=n5_
       have HB:=n6_
       clear n0_ n1_ n2_ n3_ n4_ n5_ n6_
       obtain ⟨Ao39,co39,eo39,_⟩:=Kd.Q_slice HO_4.out
       (first|subst eo39|(injection eo39 with f1_ f2_ f3_;have f4_:=f1_.symm;have f5_:=f3_.symm;clear f1_ f2_ f3_;subst f4_;subst f5_))
       obtain ⟨Ao40,co40,eo40⟩:=Kd.R_slice HO_314001.out
       (first|subst eo40|(injection eo40 with f1_ f2_ f3_;have f4_:=f1_.symm;have f5_:=f3_.symm;clear f1_ f2_ f3_;subst f4_;subst f5_))
       refine start_ (n:=26) (S:=fun w'=>w'.cell? ⟨gb313,0,none⟩ = some (.string x314000_2) ∧ w'.cell? ⟨gb313,1,none⟩ = some (.slice Ao40 x314001_2.length co40)) (ds:=[25]) #[false,false,false,false,false,false,false,false,false,false,false,false,false,false,false,false,false,false,false,false,false,false,false,false,false,false] (by kernel_rfl) rfl rfl ⟨(c_ BK313.out 0).trans rfl,(c_ BK313.out 1).trans rfl⟩ (fun hHeld=>?_);refine with_tabW spec_l71Stream.tab9 spec_l71Stream.bits9 (fun HT_ HW_=>?_)
       generalize w37.drew = w38 at HO_4 HO_314001 BK301 BK313 HI0 HK HB hHeld ⊢
       refine pureA 0 (some 32) HT_.out ?_
       refine pureA 2 (some 34) HT_.out ?_
       refine pureA 5 (some 37) HT_.out ?_
       refine pureA 6 (some 38) HT_.out ?_
       refine pureA 9 (some 41) HT_.out ?_
       refine pureA 12 (some 44) HT_.out ?_
       refine pureA 14 (some 46) HT_.out ?_
       refine pureA 15 (some 47) HT_.out ?_
       refine pureA 18 (some 50) HT_.out ?_
       refine takeA 1 (some 33) rfl rfl HT_.out HW_.out hHeld ?_ (by rintro w' ⟨s0,s1⟩;go_simp;with_reducible rfl)
       refine takeA 3 (some 35) rfl rfl HT_.out HW_.out hHeld ?_ (by rintro w' ⟨s0,s1⟩;go_simp;with_reducible rfl)
       refine pureA 4 (some 36) HT_.out ?_
       refine takeA 7 (some 39) rfl rfl HT_.out HW_.out hHeld ?_ (by rintro w' ⟨s0,s1⟩;go_simp;with_reducible rfl)
       refine pureA 8 (some 40) HT_.out ?_
       refine takeA 10 (some 42) rfl rfl HT_.out HW_.out hHeld ?_ (by rintro w' ⟨s0,s1⟩;go_simp;with_reducible rfl)
       refine pureA 11 (some 43) HT_.out ?_
       refine pureA 13 (some 45) HT_.out ?_
       refine pureA 16 (some 48) HT_.out ?_
       refine pureA 17 (some 49) HT_.out ?_
       refine one_ (i:=19) (N:=some 51) #[true,true,true,true,true,true,true,true,true,true,true,true,true,true,true,true,true,true,true,true,false,false,false,false,false,false] rfl rfl (one_of HT_.out (by kernel_rfl)) (by decide) (fun K hK=>?_)
       refine goes_ Tryz.func44 (by kernel_rfl) rfl #[.slice Ao39 x4_2.length co39,.agg #[.string x314000_2,.slice Ao40 x314001_2.length co40],.int .i64 (x314000_2.size : Int),.string (x7_2.extract ((x314000_2.size : Int) : Int).toNat ((ji25) : Int).toNat),.bool (t314 == 0)] (by rfl) rfl rfl (by (try simp only [List.map_toArray,List.map_cons,List.map_nil]);first|done|(simp only [hji25];rfl)|rfl|(simp only [List.length_drop,List.length_take];rfl)) ?_
       with_reducible refine (spec_l11Put.calls k2 (fun k_=>some k_ = (.slice Ao39 x4_2.length co39 : Value).ownBlock) (.slice Ao39 x4_2.length co39) x4_2 x314000_2 (fun k_=>some k_ = (.slice Ao40 x314001_2.length co40 : Value).ownBlock) (.slice Ao40 x314001_2.length co40) x314001_2 (x314000_2.size : Int) (x7_2.extract ((x314000_2.size : Int) : Int).toNat ((ji25) : Int).toNat) (t314 == 0) t320 t323 t324 t327 w0 _ ?side1 ?side2 ?side3 A29.out).mono ?_
       (case side1=>exact puO HB.out (IsS56.ge HI0.out) GE301.out GE313.out)
       (case side2=>exact Kd.Q_lower (Kd.Q_tight rfl HO_4.out) HL.out)
       (case side3=>exact Kd.R_lower (Kd.R_tight rfl HO_314001.out) HL.out)
       rintro e w41 ⟨v321,v325,rfl,ho0,ho1,hb,hkp⟩
       refine ⟨_,rfl,?_⟩
       have n0_:=m_ (blk_kept (puB BK301.out) hkp (fun hs_=>Or.elim hs_ (fun e_=>(fun e_=>(Kd.Q_ne HO_4.out BK301.out (by decide)) e_) e_) (fun e_=>(fun e_=>(Kd.R_ne HO_314001.out BK301.out (by decide)) e_) e_)))
       have n1_:=m_ (blk_kept (puB BK313.out) hkp (fun hs_=>Or.elim hs_ (fun e_=>(fun e_=>(Kd.Q_ne HO_4.out BK313.out (by decide)) e_) e_) (fun e_=>(fun e_=>(Kd.R_ne HO_314001.out BK313.out (by decide)) e_) e_)))
       have n2_:=m_ (IsS56.kept (by repeat (first|(with_reducible first|exact HI0.out|apply IsS56.alloc|apply IsS56.drewN|apply IsS56.drew|apply IsS56.set_1|refine IsS56.far ?_ NB0_301.out _|refine IsS56.far ?_ NB0_313.out _)|exact HI0.out)) hkp (fun hs_=>Or.elim hs_ (fun e_=>(fun e_=>(IsS56.own_neQ HI0.out HO_4.out (by decide)) e_) e_) (fun e_=>(fun e_=>(IsS56.own_ne HI0.out HO_314001.out (by decide)) e_) e_)))
       have n3_:=m_ (Kd.Q_mono (ok':=fun k_=>True) (Kd.Q_raise (d:=k79) (b:=w0.heap.size) (b':=w.heap.size) (fun _ _ _ _ h_=>h_) ho0 (fun k_ e_=>Or.elim (ho0.1 k_ e_) (fun hs_=>Or.elim hs_ (fun e_=>(fun e_=>Kd.Q_base HO_4.out k_ e_.symm) e_) (fun e_=>(fun e_=>Kd.R_base HO_314001.out k_ e_.symm) e_)) (fun hn_=>Nat.le_trans (keep_size (w:=w) (g:=g) (row:=none) (puW HK.out GW301.out GW313.out)) hn_))) (fun k_ hk_=>trivial))
       have n4_:=m_ (Kd.R_mono (ok':=fun k_=>True) (Kd.R_raise (d:=k31) (b:=w0.heap.size) (b':=w.heap.size) (fun _ _ _ _ h_=>h_) ho1 (fun k_ e_=>Or.elim (ho1.1 k_ e_) (fun hs_=>Or.elim hs_ (fun e_=>(fun e_=>Kd.Q_base HO_4.out k_ e_.symm) e_) (fun e_=>(fun e_=>Kd.R_base HO_314001.out k_ e_.symm) e_)) (fun hn_=>Nat.le_trans (keep_size (w:=w) (g:=g) (row:=none) (puW HK.out GW301.out GW313.out)) hn_))) (fun k_ hk_=>trivial))
       have n5_:=m_ (Kept.keepG (puW HK.out GW301.out GW313.out) hkp (fun k_ hs_=>Or.elim hs_ (fun e_=>(fun e_=>.inr (Kd.Q_base HO_4.out k_ e_.symm)) e_) (fun e_=>(fun e_=>.inr (Kd.R_base HO_314001.out k_ e_.symm)) e_)))
       have n6_:=m_ (hb)
       clear BK301
       clear BK313
       clear HI0
       clear HK
       clear HB
       clear HO_314001
       clear HO_4
       have BK301:=n0_
       have BK313:=n1_
       have HI0:=n2_
       have HO322:=n3_
       have HO326:=n4_
       have HK:=n5_
       have HB:=n6_
       clear n0_ n1_ n2_ n3_ n4_ n5_ n6_
       (try clear hb)
       (try clear hkp)
       (try clear ho0)
       (try clear ho1)
       obtain ⟨Ao43,co43,eo43⟩:=Kd.R_slice HO326.out
       (first|subst eo43|(injection eo43 with f1_ f2_ f3_;have f4_:=f1_.symm;have f5_:=f3_.symm;clear f1_ f2_ f3_;subst f4_;subst f5_))
       refine hK.out _ _ ⟨(c_ BK313.out 0).trans rfl,(c_ BK313.out 1).trans rfl⟩ (fun hHeld=>?_)
       clear hK K
       refine norm_ (a':=?_) ?_ ?_
       rotate_left
       ·show Act.put _ (some 51) _ = _
        simp only [Act.put,s1_,s2_,s3_,i64_w,i32_w]
        rfl
       refine pureA 20 (some 31) HT_.out ?_
       refine pureA 21 (some 52) HT_.out ?_
       refine pureA 22 (some 53) HT_.out ?_
       refine pureA 23 (some 54) HT_.out ?_
       refine pureA 24 (some 4) HT_.out ?_
       refine last_ (i:=25) (N:=none) #[true,true,true,true,true,true,true,true,true,true,true,true,true,true,true,true,true,true,true,true,true,true,true,true,true,true] rfl rfl (one_of HT_.out (by kernel_rfl)) (by decide) (fun K hK=>?_)
       have hs42 : w41.cell? ⟨gb313,0,none⟩ = some (.string x314000_2):=(c_ BK313.out 0).trans rfl
       have hfs42:=f_ BK313.out 0
       have hns42_0:=NB301_313.out
       have hms42_0:=NB313_301.out
       have hs44 : w41.cell? ⟨gb313,1,none⟩ = some (.slice Ao40 x314001_2.length co40):=(c_ BK313.out 1).trans rfl
       have hfs44:=f_ BK313.out 1
       have hns44_0:=NB301_313.out
       have hms44_0:=NB313_301.out
       refine skip_ (w1:=?_) (by rfl) rfl ?_ ?_
       rotate_left
       ·go_simp
        rfl
       refine hK.out _ _ ?_
       clear hK K
       refine done_ (done_of HT_.out (by kernel_rfl)) ?_
       try go_wp2_with (first|((with_reducible refine gate_callee (f:=24) rfl ?_);refine goesL_ (some 56) rfl rfl Tryz.func24 (by kernel_rfl) rfl #[.pointer (some ⟨g,0,none⟩),.int .i64 6] rfl lens ?_;(with_reducible refine (spec_l6Rd_pick.calls k2 g s0_0 t319 6 t328 t329 w0 _ ?side1 ?side2 A30.out).mono ?_);(case side1=>repeat (first|(with_reducible first|exact HI0.out|apply IsS56.alloc|apply IsS56.drewN|apply IsS56.drew|apply IsS56.set_1|refine IsS56.far ?_ NB0_301.out _|refine IsS56.far ?_ NB0_313.out _)|exact HI0.out));(case side2=>exact puO HB.out (IsS56.ge HI0.out) GE301.out GE313.out);rintro e w45 ⟨rfl,hi,hb,hk⟩;refine ⟨_,rfl,?_⟩;have n0_:=m_ (KeepBut.blk hk (g':=gb301) (o:=.cells #[.string (⟨#[]⟩ : ByteArray),.slice none 0 0] 25 (0,0)) (by (with_reducible repeat first|apply b1_|apply b2_|apply b3_);refine b4_ ?_ NB301_313.out _;(with_reducible repeat first|apply b1_|apply b2_|apply b3_);refine b4_ ?_ NB301_313.out _;(with_reducible repeat first|apply b1_|apply b2_|apply b3_);exact BK301.out) NB301_0.out (by simp));have n1_:=m_ (KeepBut.blk hk (g':=gb313) (o:=.cells #[.string t323,.slice Ao43 t324.length co43] 25 (0,0)) (by (with_reducible repeat first|apply b1_|apply b2_|apply b3_);refine blk_put (cs:=#[.string t323,.slice Ao40 x314001_2.length co40]) ?_ 1 _ rfl;(with_reducible repeat first|apply b1_|apply b2_|apply b3_);refine blk_put (cs:=#[.string x314000_2,.slice Ao40 x314001_2.length co40]) ?_ 0 _ rfl;(with_reducible repeat first|apply b1_|apply b2_|apply b3_);exact BK313.out) NB313_0.out (by simp));have n2_:=m_ (Kd.Q_mono (Kd.Q_keep (IsS56.apartQ (show IsS56 w0 _ g s0_0 t319 from by repeat (first|(with_reducible first|exact HI0.out|apply IsS56.alloc|apply IsS56.drewN|apply IsS56.drew|apply IsS56.set_1|refine IsS56.far ?_ NB0_301.out _|refine IsS56.far ?_ NB0_313.out _)|exact HI0.out)) (by (with_reducible repeat (first|apply Kd.Q_alloc|apply Kd.Q_drewN|apply Kd.Q_drew));exact (Kd.Q_mono (Kd.Q_far (p:=⟨gb313,1,none⟩) (Kd.Q_far (p:=⟨gb313,0,none⟩) (Kd.Q_types HO322.out BK313.out (by decide)) (fun _ hk=>hk.2) (.string t323)) (fun _ hk=>hk.2) (.slice Ao43 t324.length co43)) (fun _ h_=>h_.1))) (by decide)) hk (fun _ h=>h.2)) (fun _ h=>h.1));have n3_:=m_ (Kd.R_mono (Kd.R_keep (IsS56.apart (show IsS56 w0 _ g s0_0 t319 from by repeat (first|(with_reducible first|exact HI0.out|apply IsS56.alloc|apply IsS56.drewN|apply IsS56.drew|apply IsS56.set_1|refine IsS56.far ?_ NB0_301.out _|refine IsS56.far ?_ NB0_313.out _)|exact HI0.out)) (by (with_reducible repeat (first|apply Kd.R_alloc|apply Kd.R_drewN|apply Kd.R_drew));exact (Kd.R_mono (Kd.R_far (p:=⟨gb313,1,none⟩) (Kd.R_far (p:=⟨gb313,0,none⟩) (Kd.R_types HO326.out BK313.out (by decide)) (fun _ hk=>hk.2) (.string t323)) (fun _ hk=>hk.2) (.slice Ao43 t324.length co43)) (fun _ h_=>h_.1))) (by decide)) hk (fun _ h=>h.2)) (fun _ h=>h.1));have n4_:=m_ (KeepBut.trans (puW HK.out GW301.out GW313.out) hk (.inl rfl));have n5_:=m_ (hb);have n6_:=m_ (hi);revert n0_ n1_ n2_ n3_ n4_ n5_ n6_;clear BK301 BK313 HO322 HO326 HK HB HI0;intro BK301 BK313 HO322 HO326 HK HB HI0;(try clear hb);(try clear hb2);(try clear hk);(try clear hi);have hcz46_0 : w45.cell? ⟨gb313,0,none⟩ = some (.string t323):=(c_ BK313.out 0).trans rfl;have hcz46_1 : w45.cell? ⟨gb313,1,none⟩ = some (.slice Ao43 t324.length co43):=(c_ BK313.out 1).trans rfl;have hfz46_0:=f_ BK313.out 0;have hfz46_1:=f_ BK313.out 1))
       go_roundg k2
       case measure=>have:=HJ3.out;have:=HK2.out;omega
       case rel=>exact ⟨(t320),(x7_2.extract 0 ((t323.size : Int) : Int).toNat),(t329),(t323),(t324),(.slice Ao43 t324.length co43),(by first|rfl|(simp;done)|(simp [*];done)),H',⟨by have:=HJ3.out;have:=HK2.out;omega⟩,⟨by (with_reducible repeat (first|apply Kd.Q_alloc|apply Kd.Q_drewN|apply Kd.Q_drew));exact HO322.out⟩,⟨by (with_reducible repeat (first|apply Kd.R_alloc|apply Kd.R_drewN|apply Kd.R_drew));exact HO326.out⟩,⟨by (with_reducible repeat first|apply b1_|apply b2_|apply b3_);exact BK301.out⟩,⟨by (with_reducible repeat first|apply b1_|apply b2_|apply b3_);exact BK313.out⟩,⟨by repeat (first|(with_reducible first|exact HI0.out|apply IsS56.alloc|apply IsS56.drewN|apply IsS56.drew|apply IsS56.set_1|refine IsS56.far ?_ NB0_301.out _|refine IsS56.far ?_ NB0_313.out _)|exact HI0.out)⟩,⟨puW HK.out GW301.out GW313.out⟩,⟨puO HB.out (IsS56.ge HI0.out) GE301.out GE313.out⟩⟩
      ·rw [if_neg c31] at H
       have c31b0 : (t328 == 0) = false:=beq_eq_false_iff_ne.mpr c31
       have c31b1 : (t328 != 0) = true:=bne_iff_ne.mpr c31
       have H':=m_ H
       clear H
       have hnb47:=NB313_301.out
       have hnc47:=NB301_313.out
       have hnb48:=NB313_0.out
       have hnc48:=NB0_313.out
       have hcz49_0 : wr.cell? ⟨gb313,0,none⟩ = some (.string x314000_2):=(c_ BK313.out 0).trans rfl
       have hcz49_1 : wr.cell? ⟨gb313,1,none⟩ = some (u314001):=(c_ BK313.out 1).trans rfl
       have hfz49_0:=f_ BK313.out 0
       have hfz49_1:=f_ BK313.out 1
       try go_wp2_with (first|((with_reducible refine gate_callee (f:=24) rfl ?_);refine goesL_ (some 29) rfl rfl Tryz.func24 (by kernel_rfl) rfl #[.pointer (some ⟨g,0,none⟩),.int .i64 8] rfl lens ?_;(with_reducible refine (spec_l6Rd_pick.calls k2 g s0_0 x1001_2 8 t318 t319 w0 _ ?side1 ?side2 A24.out).mono ?_);(case side1=>repeat (first|(with_reducible first|exact HI0.out|apply IsS56.alloc|apply IsS56.drewN|apply IsS56.drew|apply IsS56.set_1|refine IsS56.far ?_ NB0_301.out _|refine IsS56.far ?_ NB0_313.out _)|exact HI0.out));(case side2=>exact puO HB.out (IsS56.ge HI0.out) GE301.out GE313.out);rintro e w50 ⟨rfl,hi,hb,hk⟩;refine ⟨_,rfl,?_⟩;have n0_:=m_ (Kd.Q_mono (Kd.Q_keep (IsS56.apartQ (show IsS56 w0 _ g s0_0 x1001_2 from by repeat (first|(with_reducible first|exact HI0.out|apply IsS56.alloc|apply IsS56.drewN|apply IsS56.drew|apply IsS56.set_1|refine IsS56.far ?_ NB0_301.out _|refine IsS56.far ?_ NB0_313.out _)|exact HI0.out)) (puQ HO_4.out) (by decide)) hk (fun _ h=>h.2)) (fun _ h=>h.1));have n1_:=m_ (Kd.R_mono (Kd.R_keep (IsS56.apart (show IsS56 w0 _ g s0_0 x1001_2 from by repeat (first|(with_reducible first|exact HI0.out|apply IsS56.alloc|apply IsS56.drewN|apply IsS56.drew|apply IsS56.set_1|refine IsS56.far ?_ NB0_301.out _|refine IsS56.far ?_ NB0_313.out _)|exact HI0.out)) (puR HO_314001.out) (by decide)) hk (fun _ h=>h.2)) (fun _ h=>h.1));have n2_:=m_ (KeepBut.blk hk (g':=gb301) (o:=.cells #[.string (⟨#[]⟩ : ByteArray),.slice none 0 0] 25 (0,0)) (puB BK301.out) NB301_0.out (by simp));have n3_:=m_ (KeepBut.blk hk (g':=gb313) (o:=.cells #[.string x314000_2,u314001] 25 (0,0)) (puB BK313.out) NB313_0.out (by simp));have n4_:=m_ (KeepBut.trans (puW HK.out GW301.out GW313.out) hk (.inl rfl));have n5_:=m_ (hb);have n6_:=m_ (hi);revert n0_ n1_ n2_ n3_ n4_ n5_ n6_;clear HO_4 HO_314001 BK301 BK313 HK HB HI0;intro HO_4 HO_314001 BK301 BK313 HK HB HI0;(try clear hb);(try clear hb2);(try clear hk);(try clear hi)))
       have n0_:=m_ (Kd.Q_drew HO_4.out)
       have n1_:=m_ (Kd.R_drew HO_314001.out)
       have n2_:=m_ (b2_ BK301.out)
       have n3_:=m_ (b2_ BK313.out)
       have n4_:=m_ (IsS56.drew HI0.out)
       have n5_:=m_ (keep_drew HK.out)
       have n6_:=m_ (l3_ HB.out)
       clear HO_4
       clear HO_314001
       clear BK301
       clear BK313
       clear HI0
       clear HK
       clear HB
       have HO_4:=n0_
       have HO_314001:=n1_
       have BK301:=n2_
       have BK313:=n3_
       have HI0:=n4_
       have HK:=n5_
       have HB:=n6_
       clear n0_ n1_ n2_ n3_ n4_ n5_ n6_
       obtain ⟨Ao52,co52,eo52,_⟩:=Kd.Q_slice HO_4.out
       (first|subst eo52|(injection eo52 with f1_ f2_ f3_;have f4_:=f1_.symm;have f5_:=f3_.symm;clear f1_ f2_ f3_;subst f4_;subst f5_))
       obtain ⟨Ao53,co53,eo53⟩:=Kd.R_slice HO_314001.out
       (first|subst eo53|(injection eo53 with f1_ f2_ f3_;have f4_:=f1_.symm;have f5_:=f3_.symm;clear f1_ f2_ f3_;subst f4_;subst f5_))
       refine start_ (n:=26) (S:=fun w'=>w'.cell? ⟨gb313,0,none⟩ = some (.string x314000_2) ∧ w'.cell? ⟨gb313,1,none⟩ = some (.slice Ao53 x314001_2.length co53)) (ds:=[25]) #[false,false,false,false,false,false,false,false,false,false,false,false,false,false,false,false,false,false,false,false,false,false,false,false,false,false] (by kernel_rfl) rfl rfl ⟨(c_ BK313.out 0).trans rfl,(c_ BK313.out 1).trans rfl⟩ (fun hHeld=>?_);refine with_tabW spec_l71Stream.tab9 spec_l71Stream.bits9 (fun HT_ HW_=>?_)
       generalize w50.drew = w51 at HO_4 HO_314001 BK301 BK313 HI0 HK HB hHeld ⊢
       refine pureA 0 (some 32) HT_.out ?_
       refine pureA 2 (some 34) HT_.out ?_
       refine pureA 5 (some 37) HT_.out ?_
       refine pureA 6 (some 38) HT_.out ?_
       refine pureA 9 (some 41) HT_.out ?_
       refine pureA 12 (some 44) HT_.out ?_
       refine pureA 14 (some 46) HT_.out ?_
       refine pureA 15 (some 47) HT_.out ?_
       refine pureA 18 (some 50) HT_.out ?_
       refine takeA 1 (some 33) rfl rfl HT_.out HW_.out hHeld ?_ (by rintro w' ⟨s0,s1⟩;go_simp;with_reducible rfl)
       refine takeA 3 (some 35) rfl rfl HT_.out HW_.out hHeld ?_ (by rintro w' ⟨s0,s1⟩;go_simp;with_reducible rfl)
       refine pureA 4 (some 36) HT_.out ?_
       refine takeA 7 (some 39) rfl rfl HT_.out HW_.out hHeld ?_ (by rintro w' ⟨s0,s1⟩;go_simp;with_reducible rfl)
       refine pureA 8 (some 40) HT_.out ?_
       refine takeA 10 (some 42) rfl rfl HT_.out HW_.out hHeld ?_ (by rintro w' ⟨s0,s1⟩;go_simp;with_reducible rfl)
       refine pureA 11 (some 43) HT_.out ?_
       refine pureA 13 (some 45) HT_.out ?_
       refine pureA 16 (some 48) HT_.out ?_
       refine pureA 17 (some 49) HT_.out ?_
       refine one_ (i:=19) (N:=some 51) #[true,true,true,true,true,true,true,true,true,true,true,true,true,true,true,true,true,true,true,true,false,false,false,false,false,false] rfl rfl (one_of HT_.out (by kernel_rfl)) (by decide) (fun K hK=>?_)
       refine goes_ Tryz.func44 (by kernel_rfl) rfl #[.slice Ao52 x4_2.length co52,.agg #[.string x314000_2,.slice Ao53 x314001_2.length co53],.int .i64 (x314000_2.size : Int),.string (x7_2.extract ((x314000_2.size : Int) : Int).toNat ((ji25) : Int).toNat),.bool (t314 == 0)] (by rfl) rfl rfl (by (try simp only [List.map_toArray,List.map_cons,List.map_nil]);first|done|(simp only [hji25];rfl)|rfl|(simp only [List.length_drop,List.length_take];rfl)) ?_
       with_reducible refine (spec_l11Put.calls k2 (fun k_=>some k_ = (.slice Ao52 x4_2.length co52 : Value).ownBlock) (.slice Ao52 x4_2.length co52) x4_2 x314000_2 (fun k_=>some k_ = (.slice Ao53 x314001_2.length co53 : Value).ownBlock) (.slice Ao53 x314001_2.length co53) x314001_2 (x314000_2.size : Int) (x7_2.extract ((x314000_2.size : Int) : Int).toNat ((ji25) : Int).toNat) (t314 == 0) t320 t323 t324 t327 w0 _ ?side1 ?side2 ?side3 A29.out).mono ?_
       (case side1=>exact puO HB.out (IsS56.ge HI0.out) GE301.out GE313.out)
       (case side2=>exact Kd.Q_lower (Kd.Q_tight rfl HO_4.out) HL.out)
       (case side3=>exact Kd.R_lower (Kd.R_tight rfl HO_314001.out) HL.out)
       rintro e w54 ⟨v321,v325,rfl,ho0,ho1,hb,hkp⟩
       refine ⟨_,rfl,?_⟩
       have n0_:=m_ (blk_kept (puB BK301.out) hkp (fun hs_=>Or.elim hs_ (fun e_=>(fun e_=>(Kd.Q_ne HO_4.out BK301.out (by decide)) e_) e_) (fun e_=>(fun e_=>(Kd.R_ne HO_314001.out BK301.out (by decide)) e_) e_)))
       have n1_:=m_ (blk_kept (puB BK313.out) hkp (fun hs_=>Or.elim hs_ (fun e_=>(fun e_=>(Kd.Q_ne HO_4.out BK313.out (by decide)) e_) e_) (fun e_=>(fun e_=>(Kd.R_ne HO_314001.out BK313.out (by decide)) e_) e_)))
       have n2_:=m_ (IsS56.kept (by repeat (first|(with_reducible first|exact HI0.out|apply IsS56.alloc|apply IsS56.drewN|apply IsS56.drew|apply IsS56.set_1|refine IsS56.far ?_ NB0_301.out _|refine IsS56.far ?_ NB0_313.out _)|exact HI0.out)) hkp (fun hs_=>Or.elim hs_ (fun e_=>(fun e_=>(IsS56.own_neQ HI0.out HO_4.out (by decide)) e_) e_) (fun e_=>(fun e_=>(IsS56.own_ne HI0.out HO_314001.out (by decide)) e_) e_)))
       have n3_:=m_ (Kd.Q_mono (ok':=fun k_=>True) (Kd.Q_raise (d:=k79) (b:=w0.heap.size) (b':=w.heap.size) (fun _ _ _ _ h_=>h_) ho0 (fun k_ e_=>Or.elim (ho0.1 k_ e_) (fun hs_=>Or.elim hs_ (fun e_=>(fun e_=>Kd.Q_base HO_4.out k_ e_.symm) e_) (fun e_=>(fun e_=>Kd.R_base HO_314001.out k_ e_.symm) e_)) (fun hn_=>Nat.le_trans (keep_size (w:=w) (g:=g) (row:=none) (puW HK.out GW301.out GW313.out)) hn_))) (fun k_ hk_=>trivial))
       have n4_:=m_ (Kd.R_mono (ok':=fun k_=>True) (Kd.R_raise (d:=k31) (b:=w0.heap.size) (b':=w.heap.size) (fun _ _ _ _ h_=>h_) ho1 (fun k_ e_=>Or.elim (ho1.1 k_ e_) (fun hs_=>Or.elim hs_ (fun e_=>(fun e_=>Kd.Q_base HO_4.out k_ e_.symm) e_) (fun e_=>(fun e_=>Kd.R_base HO_314001.out k_ e_.symm) e_)) (fun hn_=>Nat.le_trans (keep_size (w:=w) (g:=g) (row:=none) (puW HK.out GW301.out GW313.out)) hn_))) (fun k_ hk_=>trivial))
       have n5_:=m_ (Kept.keepG (puW HK.out GW301.out GW313.out) hkp (fun k_ hs_=>Or.elim hs_ (fun e_=>(fun e_=>.inr (Kd.Q_base HO_4.out k_ e_.symm)) e_) (fun e_=>(fun e_=>.inr (Kd.R_base HO_314001.out k_ e_.symm)) e_)))
       have n6_:=m_ (hb)
       clear BK301
       clear BK313
       clear HI0
       clear HK
       clear HB
       clear HO_314001
       clear HO_4
       have BK301:=n0_
       have BK313:=n1_
       have HI0:=n2_
       have HO322:=n3_
       have HO326:=n4_
       have HK:=n5_
       have HB:=n6_
       clear n0_ n1_ n2_ n3_ n4_ n5_ n6_
       (try clear hb)
       (try clear hkp)
       (try clear ho0)
       (try clear ho1)
       obtain ⟨Ao56,co56,eo56⟩:=Kd.R_slice HO326.out
       (first|subst eo56|(injection eo56 with f1_ f2_ f3_;have f4_:=f1_.symm;have f5_:=f3_.symm;clear f1_ f2_ f3_;subst f4_;subst f5_))
       refine hK.out _ _ ⟨(c_ BK313.out 0).trans rfl,(c_ BK313.out 1).trans rfl⟩ (fun hHeld=>?_)
       clear hK K
       refine norm_ (a':=?_) ?_ ?_
       rotate_left
       ·show Act.put _ (some 51) _ = _
        simp only [Act.put,s1_,s2_,s3_,i64_w,i32_w]
        rfl
       refine pureA 20 (some 31) HT_.out ?_
       refine pureA 21 (some 52) HT_.out ?_
       refine pureA 22 (some 53) HT_.out ?_
       refine pureA 23 (some 54) HT_.out ?_
       refine pureA 24 (some 4) HT_.out ?_
       refine last_ (i:=25) (N:=none) #[true,true,true,true,true,true,true,true,true,true,true,true,true,true,true,true,true,true,true,true,true,true,true,true,true,true] rfl rfl (one_of HT_.out (by kernel_rfl)) (by decide) (fun K hK=>?_)
       have hs55 : w54.cell? ⟨gb313,0,none⟩ = some (.string x314000_2):=(c_ BK313.out 0).trans rfl
       have hfs55:=f_ BK313.out 0
       have hns55_0:=NB301_313.out
       have hms55_0:=NB313_301.out
       have hs57 : w54.cell? ⟨gb313,1,none⟩ = some (.slice Ao53 x314001_2.length co53):=(c_ BK313.out 1).trans rfl
       have hfs57:=f_ BK313.out 1
       have hns57_0:=NB301_313.out
       have hms57_0:=NB313_301.out
       refine skip_ (w1:=?_) (by rfl) rfl ?_ ?_
       rotate_left
       ·go_simp
        rfl
       refine hK.out _ _ ?_
       clear hK K
       refine done_ (done_of HT_.out (by kernel_rfl)) ?_
       try go_wp2_with (first|((with_reducible refine gate_callee (f:=24) rfl ?_);refine goesL_ (some 56) rfl rfl Tryz.func24 (by kernel_rfl) rfl #[.pointer (some ⟨g,0,none⟩),.int .i64 6] rfl lens ?_;(with_reducible refine (spec_l6Rd_pick.calls k2 g s0_0 t319 6 t328 t329 w0 _ ?side1 ?side2 A30.out).mono ?_);(case side1=>repeat (first|(with_reducible first|exact HI0.out|apply IsS56.alloc|apply IsS56.drewN|apply IsS56.drew|apply IsS56.set_1|refine IsS56.far ?_ NB0_301.out _|refine IsS56.far ?_ NB0_313.out _)|exact HI0.out));(case side2=>exact puO HB.out (IsS56.ge HI0.out) GE301.out GE313.out);rintro e w58 ⟨rfl,hi,hb,hk⟩;refine ⟨_,rfl,?_⟩;have n0_:=m_ (KeepBut.blk hk (g':=gb301) (o:=.cells #[.string (⟨#[]⟩ : ByteArray),.slice none 0 0] 25 (0,0)) (by (with_reducible repeat first|apply b1_|apply b2_|apply b3_);refine b4_ ?_ NB301_313.out _;(with_reducible repeat first|apply b1_|apply b2_|apply b3_);refine b4_ ?_ NB301_313.out _;(with_reducible repeat first|apply b1_|apply b2_|apply b3_);exact BK301.out) NB301_0.out (by simp));have n1_:=m_ (KeepBut.blk hk (g':=gb313) (o:=.cells #[.string t323,.slice Ao56 t324.length co56] 25 (0,0)) (by (with_reducible repeat first|apply b1_|apply b2_|apply b3_);refine blk_put (cs:=#[.string t323,.slice Ao53 x314001_2.length co53]) ?_ 1 _ rfl;(with_reducible repeat first|apply b1_|apply b2_|apply b3_);refine blk_put (cs:=#[.string x314000_2,.slice Ao53 x314001_2.length co53]) ?_ 0 _ rfl;(with_reducible repeat first|apply b1_|apply b2_|apply b3_);exact BK313.out) NB313_0.out (by simp));have n2_:=m_ (Kd.Q_mono (Kd.Q_keep (IsS56.apartQ (show IsS56 w0 _ g s0_0 t319 from by repeat (first|(with_reducible first|exact HI0.out|apply IsS56.alloc|apply IsS56.drewN|apply IsS56.drew|apply IsS56.set_1|refine IsS56.far ?_ NB0_301.out _|refine IsS56.far ?_ NB0_313.out _)|exact HI0.out)) (by (with_reducible repeat (first|apply Kd.Q_alloc|apply Kd.Q_drewN|apply Kd.Q_drew));exact (Kd.Q_mono (Kd.Q_far (p:=⟨gb313,1,none⟩) (Kd.Q_far (p:=⟨gb313,0,none⟩) (Kd.Q_types HO322.out BK313.out (by decide)) (fun _ hk=>hk.2) (.string t323)) (fun _ hk=>hk.2) (.slice Ao56 t324.length co56)) (fun _ h_=>h_.1))) (by decide)) hk (fun _ h=>h.2)) (fun _ h=>h.1));have n3_:=m_ (Kd.R_mono (Kd.R_keep (IsS56.apart (show IsS56 w0 _ g s0_0 t319 from by repeat (first|(with_reducible first|exact HI0.out|apply IsS56.alloc|apply IsS56.drewN|apply IsS56.drew|apply IsS56.set_1|refine IsS56.far ?_ NB0_301.out _|refine IsS56.far ?_ NB0_313.out _)|exact HI0.out)) (by (with_reducible repeat (first|apply Kd.R_alloc|apply Kd.R_drewN|apply Kd.R_drew));exact (Kd.R_mono (Kd.R_far (p:=⟨gb313,1,none⟩) (Kd.R_far (p:=⟨gb313,0,none⟩) (Kd.R_types HO326.out BK313.out (by decide)) (fun _ hk=>hk.2) (.string t323)) (fun _ hk=>hk.2) (.slice Ao56 t324.length co56)) (fun _ h_=>h_.1))) (by decide)) hk (fun _ h=>h.2)) (fun _ h=>h.1));have n4_:=m_ (KeepBut.trans (puW HK.out GW301.out GW313.out) hk (.inl rfl));have n5_:=m_ (hb);have n6_:=m_ (hi);revert n0_ n1_ n2_ n3_ n4_ n5_ n6_;clear BK301 BK313 HO322 HO326 HK HB HI0;intro BK301 BK313 HO322 HO326 HK HB HI0;(try clear hb);(try clear hb2);(try clear hk);(try clear hi)))
       go_roundg k2
       case measure=>have:=HJ3.out;have:=HK2.out;omega
       case rel=>exact ⟨(t320),(x7_2),(t329),(t323),(t324),(.slice Ao56 t324.length co56),(by first|rfl|(simp;done)|(simp [*];done)),H',⟨by have:=HJ3.out;have:=HK2.out;omega⟩,⟨by (with_reducible repeat (first|apply Kd.Q_alloc|apply Kd.Q_drewN|apply Kd.Q_drew));exact HO322.out⟩,⟨by (with_reducible repeat (first|apply Kd.R_alloc|apply Kd.R_drewN|apply Kd.R_drew));exact HO326.out⟩,⟨by (with_reducible repeat first|apply b1_|apply b2_|apply b3_);exact BK301.out⟩,⟨by (with_reducible repeat first|apply b1_|apply b2_|apply b3_);exact BK313.out⟩,⟨by repeat (first|(with_reducible first|exact HI0.out|apply IsS56.alloc|apply IsS56.drewN|apply IsS56.drew|apply IsS56.set_1|refine IsS56.far ?_ NB0_301.out _|refine IsS56.far ?_ NB0_313.out _)|exact HI0.out)⟩,⟨puW HK.out GW301.out GW313.out⟩,⟨puO HB.out (IsS56.ge HI0.out) GE301.out GE313.out⟩⟩
     ·rw [if_neg c23] at H
      have c23b0 : decide ((x314000_2.size : Int) < (x7_2.size : Int)) = false:=decide_eq_false c23
      have c23b1 : decide (x314000_2.size < x7_2.size) = false:=decide_eq_false (fun h=>c23 (Int.ofNat_lt.mpr h))
      clear c23
      replace H:=Option.bind_eq_some_iff.mp H
      obtain ⟨⟨t330,t331⟩,A590,H⟩:=H
      replace H : (if t330 = 0 then ((spec_l6Rd_of.f k2 s0_0 t331 (([(⟨#[120]⟩ : ByteArray),(⟨#[32]⟩ : ByteArray),(⟨#[64]⟩ : ByteArray)] : List ByteArray))).bind fun bt335=>(if x314000_2.size + bt335.1.size ≤ 9223372036854775807 then (some (x4_2,x314000_2 ++ bt335.1,x314001_2,bt335.2)) else (none))) else (if t330 = 1 then (if (x314001_2.length : Int) > 0 then ((spec_l6Rd_of.f k2 s0_0 t331 (([(⟨#[]⟩ : ByteArray),(⟨#[97,97,97,97,97,97,97,97]⟩ : ByteArray),(⟨#[64,49,58,49,59]⟩ : ByteArray),(⟨#[65]⟩ : ByteArray)] : List ByteArray))).bind fun bt340=>(if 0 < (x314001_2.length : Int) then (some (x4_2,x314000_2,(x314001_2.set (0 : Int).toNat (⟨(rd_T31 x314001_2 0).f0,bt340.1⟩ : S31)),bt340.2)) else (none))) else (some (x4_2,x314000_2,x314001_2,t331))) else (some (x4_2,x314000_2,x314001_2,t331)))) = some (r1,r2,r3,r4):=H
      have A59:=m_ A590
      clear A590
      by_cases c60 : t330 = 0
      ·rw [if_pos c60] at H
       have c60b0 : (t330 == 0) = true:=beq_iff_eq.mpr c60
       have c60b1 : (t330 != 0) = false:=bne_eq_false_iff_eq.mpr c60
       clear c60
       obtain ⟨y332,hy332⟩ : ∃ y_ : List ByteArray,y_ = (([(⟨#[120]⟩ : ByteArray),(⟨#[32]⟩ : ByteArray),(⟨#[64]⟩ : ByteArray)] : List ByteArray)):=⟨_,rfl⟩
       replace H : ((spec_l6Rd_of.f k2 s0_0 t331 y332).bind fun bt335=>(if x314000_2.size + bt335.1.size ≤ 9223372036854775807 then (some (x4_2,x314000_2 ++ bt335.1,x314001_2,bt335.2)) else (none))) = some (r1,r2,r3,r4):=by first|(rw [hy332];with_reducible exact H)|(have H2_:=(Option.bind_some _ _).symm.trans H;rw [hy332];with_reducible exact H2_)|(have H2_:=(Option.bind_some _ _).symm.trans H;with_reducible exact H2_)|with_reducible exact H|(rw [hy332];exact H)|exact H
       have Ny332:=m_ hy332
       clear hy332
       replace H:=Option.bind_eq_some_iff.mp H
       obtain ⟨⟨t335,t336⟩,A610,H⟩:=H
       replace H : (if x314000_2.size + t335.size ≤ 9223372036854775807 then (some (x4_2,x314000_2 ++ t335,x314001_2,t336)) else (none)) = some (r1,r2,r3,r4):=H
       have A61:=m_ A610
       clear A610
       by_cases c62 : x314000_2.size + t335.size ≤ 9223372036854775807
       rotate_left
       ·rw [if_neg c62] at H
        exact absurd H (by simp)
       rw [if_pos c62] at H
       have c62b0:=eq_true c62
       have c62b1:=decide_eq_true c62
       try have c62b2 : (9223372036854775807 < x314000_2.size + t335.size) = False:=eq_false (Nat.not_lt.2 c62)
       simp only [Option.some.injEq,Prod.mk.injEq] at H
       obtain ⟨rfl,rfl,rfl,rfl⟩:=H
       have hnb63:=NB313_301.out
       have hnc63:=NB301_313.out
       have hnb64:=NB313_0.out
       have hnc64:=NB0_313.out
       have hcz65_0 : wr.cell? ⟨gb313,0,none⟩ = some (.string x314000_2):=(c_ BK313.out 0).trans rfl
       have hcz65_1 : wr.cell? ⟨gb313,1,none⟩ = some (u314001):=(c_ BK313.out 1).trans rfl
       have hfz65_0:=f_ BK313.out 0
       have hfz65_1:=f_ BK313.out 1
       try go_wp2_with (first|((with_reducible refine gate_callee (f:=24) rfl ?_);refine goesL_ (some 64) rfl rfl Tryz.func24 (by kernel_rfl) rfl #[.pointer (some ⟨g,0,none⟩),.int .i64 20] rfl lens ?_;(with_reducible refine (spec_l6Rd_pick.calls k2 g s0_0 x1001_2 20 t330 t331 w0 _ ?side1 ?side2 A59.out).mono ?_);(case side1=>repeat (first|(with_reducible first|exact HI0.out|apply IsS56.alloc|apply IsS56.drewN|apply IsS56.drew|apply IsS56.set_1|refine IsS56.far ?_ NB0_301.out _|refine IsS56.far ?_ NB0_313.out _)|exact HI0.out));(case side2=>exact puO HB.out (IsS56.ge HI0.out) GE301.out GE313.out);rintro e w66 ⟨rfl,hi,hb,hk⟩;refine ⟨_,rfl,?_⟩;have n0_:=m_ (Kd.Q_mono (Kd.Q_keep (IsS56.apartQ (show IsS56 w0 _ g s0_0 x1001_2 from by repeat (first|(with_reducible first|exact HI0.out|apply IsS56.alloc|apply IsS56.drewN|apply IsS56.drew|apply IsS56.set_1|refine IsS56.far ?_ NB0_301.out _|refine IsS56.far ?_ NB0_313.out _)|exact HI0.out)) (puQ HO_4.out) (by decide)) hk (fun _ h=>h.2)) (fun _ h=>h.1));have n1_:=m_ (Kd.R_mono (Kd.R_keep (IsS56.apart (show IsS56 w0 _ g s0_0 x1001_2 from by repeat (first|(with_reducible first|exact HI0.out|apply IsS56.alloc|apply IsS56.drewN|apply IsS56.drew|apply IsS56.set_1|refine IsS56.far ?_ NB0_301.out _|refine IsS56.far ?_ NB0_313.out _)|exact HI0.out)) (puR HO_314001.out) (by decide)) hk (fun _ h=>h.2)) (fun _ h=>h.1));have n2_:=m_ (KeepBut.blk hk (g':=gb301) (o:=.cells #[.string (⟨#[]⟩ : ByteArray),.slice none 0 0] 25 (0,0)) (puB BK301.out) NB301_0.out (by simp));have n3_:=m_ (KeepBut.blk hk (g':=gb313) (o:=.cells #[.string x314000_2,u314001] 25 (0,0)) (puB BK313.out) NB313_0.out (by simp));have n4_:=m_ (KeepBut.trans (puW HK.out GW301.out GW313.out) hk (.inl rfl));have n5_:=m_ (hb);have n6_:=m_ (hi);revert n0_ n1_ n2_ n3_ n4_ n5_ n6_;clear HO_4 HO_314001 BK301 BK313 HK HB HI0;intro HO_4 HO_314001 BK301 BK313 HK HB HI0;(try clear hb);(try clear hb2);(try clear hk);(try clear hi)))
       have n0_:=m_ (Kd.Q_drew HO_4.out)
       have n1_:=m_ (Kd.R_drew HO_314001.out)
       have n2_:=m_ (b2_ BK301.out)
       have n3_:=m_ (b2_ BK313.out)
       have n4_:=m_ (IsS56.drew HI0.out)
       have n5_:=m_ (keep_drew HK.out)
       have n6_:=m_ (l3_ HB.out)
       clear HO_4
       clear HO_314001
       clear BK301
       clear BK313
       clear HI0
       clear HK
       clear HB
       have HO_4:=n0_
       have HO_314001:=n1_
       have BK301:=n2_
       have BK313:=n3_
       have HI0:=n4_
       have HK:=n5_
       have HB:=n6_
       clear n0_ n1_ n2_ n3_ n4_ n5_ n6_
       refine start_ (n:=8) (S:=fun w'=>w'.cell? ⟨gb313,0,none⟩ = some (.string x314000_2) ∧ w'.cell? ⟨gb313,1,none⟩ = some (u314001)) (ds:=[7]) #[false,false,false,false,false,false,false,false] (by kernel_rfl) rfl rfl ⟨(c_ BK313.out 0).trans rfl,(c_ BK313.out 1).trans rfl⟩ (fun hHeld=>?_);refine with_tabW spec_l71Stream.tab14 spec_l71Stream.bits14 (fun HT_ HW_=>?_)
       generalize w66.drew = w67 at HO_4 HO_314001 BK301 BK313 HI0 HK HB hHeld ⊢
       refine pureA 0 (some 67) HT_.out ?_
       refine pureA 2 (some 69) HT_.out ?_
       refine takeA 1 (some 68) rfl rfl HT_.out HW_.out hHeld ?_ (by rintro w' ⟨s0,s1⟩;go_simp;with_reducible rfl)
       refine one_ (i:=3) (N:=some 70) #[true,true,true,true,false,false,false,false] rfl rfl (one_of HT_.out (by kernel_rfl)) (by decide) (fun K hK=>?_)
       refine Kd.R_lit_step Kd.string _ 9 ?hg (N:=70) ?hd (xs:=([(⟨#[120]⟩ : ByteArray),(⟨#[32]⟩ : ByteArray),(⟨#[64]⟩ : ByteArray)] : List ByteArray)) (inner:=[.string (⟨#[120]⟩ : ByteArray),.string (⟨#[32]⟩ : ByteArray),.string (⟨#[64]⟩ : ByteArray)]) (ok:=fun _=>True) (okp:=fun _=>True) ?hr ?hp (fun _ hk=>hk) trivial (Below.refl _ _) (Nat.le_refl _) (by simp) ?_;(case hd=>rfl);(case hg=>rfl);(case hr=>first|(go_simp;done)|(go_simp;rfl));(case hp=>exact (Reps.one (show Kd.M Kd.string _ _ _ (⟨#[120]⟩ : ByteArray) [.string (⟨#[120]⟩ : ByteArray)] from rfl) (Reps.one (show Kd.M Kd.string _ _ _ (⟨#[32]⟩ : ByteArray) [.string (⟨#[32]⟩ : ByteArray)] from rfl) (Reps.one (show Kd.M Kd.string _ _ _ (⟨#[64]⟩ : ByteArray) [.string (⟨#[64]⟩ : ByteArray)] from rfl) (Reps.none _ _)))))
       intro v333 w68 ho69 hb hg_ hnew_
       clear hg_ hnew_
       (first|rw [← Ny332.out] at ho69|(simp only [Int.reduceToNat] at ho69;rw [← Ny332.out] at ho69))
       have n0_:=m_ (Kd.Q_below (puQ HO_4.out) hb)
       have n1_:=m_ (Kd.R_below (puR HO_314001.out) hb)
       have n2_:=m_ (Kd.R_lower ho69 (keep_size (w:=w) (g:=g) (row:=none) (puW HK.out GW301.out GW313.out)))
       have n3_:=m_ (blk_below (g:=gb301) (o:=.cells #[.string (⟨#[]⟩ : ByteArray),.slice none 0 0] 25 (0,0)) (puB BK301.out) hb)
       have n4_:=m_ (blk_below (g:=gb313) (o:=.cells #[.string x314000_2,u314001] 25 (0,0)) (puB BK313.out) hb)
       have n5_:=m_ (IsS56.below (by repeat (first|(with_reducible first|exact HI0.out|apply IsS56.alloc|apply IsS56.drewN|apply IsS56.drew|apply IsS56.set_1|refine IsS56.far ?_ NB0_301.out _|refine IsS56.far ?_ NB0_313.out _)|exact HI0.out)) hb)
       have n6_:=m_ (KeepBut.trans (puW HK.out GW301.out GW313.out) (KeepBut.of_below hb g none) (.inl rfl))
       have n7_:=m_ (l5_ (puO HB.out (IsS56.ge HI0.out) GE301.out GE313.out) hb)
       clear HO_4
       clear HO_314001
       clear BK301
       clear BK313
       clear HI0
       clear HK
       clear HB
       have HO_4:=n0_
       have HO_314001:=n1_
       have HO334:=n2_
       have BK301:=n3_
       have BK313:=n4_
       have HI0:=n5_
       have HK:=n6_
       have HB:=n7_
       clear n0_ n1_ n2_ n3_ n4_ n5_ n6_ n7_
       clear hb ho69
       obtain ⟨Ao70,co70,eo70⟩:=Kd.R_slice HO334.out
       (first|subst eo70|(injection eo70 with f1_ f2_ f3_;have f4_:=f1_.symm;have f5_:=f3_.symm;clear f1_ f2_ f3_;subst f4_;subst f5_))
       refine hK.out _ _ ⟨(c_ BK313.out 0).trans rfl,(c_ BK313.out 1).trans rfl⟩ (fun hHeld=>?_)
       clear hK K
       refine norm_ (a':=?_) ?_ ?_
       rotate_left
       ·show Act.put _ (some 70) _ = _
        simp only [Act.put,s1_,s2_,s3_,i64_w,i32_w]
        rfl
       refine one_ (i:=4) (N:=some 71) #[true,true,true,true,true,false,false,false] rfl rfl (one_of HT_.out (by kernel_rfl)) (by decide) (fun K hK=>?_)
       refine goes_ Tryz.func45 (by kernel_rfl) rfl #[.pointer (some ⟨g,0,none⟩),.slice Ao70 y332.length co70] (by rfl) rfl rfl lens ?_
       with_reducible refine (spec_l6Rd_of.calls k2 g s0_0 t331 _ _ y332 t335 t336 w0 _ ?side1 ?side2 ?side3 ?side4 ?side5 A61.out).mono ?_
       (case side1=>repeat (first|(with_reducible first|exact HI0.out|apply IsS56.alloc|apply IsS56.drewN|apply IsS56.drew|apply IsS56.set_1|refine IsS56.far ?_ NB0_301.out _|refine IsS56.far ?_ NB0_313.out _)|exact HI0.out))
       (case side2=>exact puO HB.out (IsS56.ge HI0.out) GE301.out GE313.out)
       (case side3=>exact puC (Kd.R_reads' HO334.out).2.2)
       (case side4=>exact (Kd.R_reads' HO334.out).2.1)
       (case side5=>exact far_slice (IsS56.own_ne HI0.out HO334.out (by decide)))
       rintro e w71 ⟨rfl,hi,hb,hk⟩
       refine ⟨_,rfl,?_⟩
       have n0_:=m_ (Kd.Q_mono (Kd.Q_keep (IsS56.apartQ (show IsS56 w0 _ g s0_0 t331 from by repeat (first|(with_reducible first|exact HI0.out|apply IsS56.alloc|apply IsS56.drewN|apply IsS56.drew|apply IsS56.set_1|refine IsS56.far ?_ NB0_301.out _|refine IsS56.far ?_ NB0_313.out _)|exact HI0.out)) (puQ HO_4.out) (by decide)) hk (fun _ h=>h.2)) (fun _ h=>h.1))
       have n1_:=m_ (Kd.R_mono (Kd.R_keep (IsS56.apart (show IsS56 w0 _ g s0_0 t331 from by repeat (first|(with_reducible first|exact HI0.out|apply IsS56.alloc|apply IsS56.drewN|apply IsS56.drew|apply IsS56.set_1|refine IsS56.far ?_ NB0_301.out _|refine IsS56.far ?_ NB0_313.out _)|exact HI0.out)) (puR HO_314001.out) (by decide)) hk (fun _ h=>h.2)) (fun _ h=>h.1))
       have n2_:=m_ (KeepBut.blk hk (g':=gb301) (o:=.cells #[.string (⟨#[]⟩ : ByteArray),.slice none 0 0] 25 (0,0)) (puB BK301.out) NB301_0.out (by simp))
       have n3_:=m_ (KeepBut.blk hk (g':=gb313) (o:=.cells #[.string x314000_2,u314001] 25 (0,0)) (puB BK313.out) NB313_0.out (by simp))
       have n4_:=m_ (Kd.R_mono (Kd.R_keep (IsS56.apart (show IsS56 w0 _ g s0_0 t331 from by repeat (first|(with_reducible first|exact HI0.out|apply IsS56.alloc|apply IsS56.drewN|apply IsS56.drew|apply IsS56.set_1|refine IsS56.far ?_ NB0_301.out _|refine IsS56.far ?_ NB0_313.out _)|exact HI0.out)) (puR HO334.out) (by decide)) hk (fun _ h=>h.2)) (fun _ h=>h.1))
       have n5_:=m_ (KeepBut.trans (puW HK.out GW301.out GW313.out) hk (.inl rfl))
       have n6_:=m_ (hb)
       have n7_:=m_ (hi)
       clear HO_4
       clear HO_314001
       clear BK301
       clear BK313
       clear HO334
       clear HK
       clear HB
       clear HI0
       have HO_4:=n0_
       have HO_314001:=n1_
       have BK301:=n2_
       have BK313:=n3_
       have HO334:=n4_
       have HK:=n5_
       have HB:=n6_
       have HI0:=n7_
       clear n0_ n1_ n2_ n3_ n4_ n5_ n6_ n7_
       (try clear hb)
       (try clear hb2)
       (try clear hk)
       (try clear hi)
       refine hK.out _ _ ⟨(c_ BK313.out 0).trans rfl,(c_ BK313.out 1).trans rfl⟩ (fun hHeld=>?_)
       clear hK K
       refine norm_ (a':=?_) ?_ ?_
       rotate_left
       ·show Act.put _ (some 71) _ = _
        simp only [Act.put,s1_,s2_,s3_,i64_w,i32_w]
        rfl
       refine pureA 5 (some 72) HT_.out ?_
       refine pureA 6 (some 73) HT_.out ?_
       refine last_ (i:=7) (N:=none) #[true,true,true,true,true,true,true,true] rfl rfl (one_of HT_.out (by kernel_rfl)) (by decide) (fun K hK=>?_)
       have hs72 : w71.cell? ⟨gb313,0,none⟩ = some (.string x314000_2):=(c_ BK313.out 0).trans rfl
       have hfs72:=f_ BK313.out 0
       have hns72_0:=NB301_313.out
       have hms72_0:=NB313_301.out
       refine skip_ (w1:=?_) (by rfl) rfl ?_ ?_
       rotate_left
       ·go_simp
        rfl
       refine hK.out _ _ ?_
       clear hK K
       refine done_ (done_of HT_.out (by kernel_rfl)) ?_
       try go_wp2
       have n0_ : Aside0 (Kd.Q k79 79 (w71.setCell ⟨gb313,0,none⟩ (.string (x314000_2 ++ t335))) w.heap.size (fun _=>True) u4 x4_2):=⟨by (with_reducible repeat (first|apply Kd.Q_alloc|apply Kd.Q_drewN|apply Kd.Q_drew));exact Kd.Q_mono (Kd.Q_far (p:=⟨gb313,0,none⟩) (Kd.Q_types HO_4.out BK313.out (by decide)) (fun _ hk=>hk.2) (.string (x314000_2 ++ t335))) (fun _ hk=>trivial)⟩
       have n1_ : Aside0 (Kd.R k31 31 (w71.setCell ⟨gb313,0,none⟩ (.string (x314000_2 ++ t335))) w.heap.size (fun _=>True) u314001 x314001_2):=⟨by (with_reducible repeat (first|apply Kd.R_alloc|apply Kd.R_drewN|apply Kd.R_drew));exact Kd.R_mono (Kd.R_far (p:=⟨gb313,0,none⟩) (Kd.R_types HO_314001.out BK313.out (by decide)) (fun _ hk=>hk.2) (.string (x314000_2 ++ t335))) (fun _ hk=>trivial)⟩
       have n2_ : Aside0 (Kd.R Kd.string 9 (w71.setCell ⟨gb313,0,none⟩ (.string (x314000_2 ++ t335))) w.heap.size (fun _=>True) (.slice Ao70 y332.length co70) y332):=⟨by (with_reducible repeat (first|apply Kd.R_alloc|apply Kd.R_drewN|apply Kd.R_drew));exact Kd.R_mono (Kd.R_far (p:=⟨gb313,0,none⟩) (Kd.R_types HO334.out BK313.out (by decide)) (fun _ hk=>hk.2) (.string (x314000_2 ++ t335))) (fun _ hk=>trivial)⟩
       have n3_ : Aside0 ((w71.setCell ⟨gb313,0,none⟩ (.string (x314000_2 ++ t335))).heap[gb301]? = some (.cells #[.string (⟨#[]⟩ : ByteArray),.slice none 0 0] 25 (0,0))):=⟨by (with_reducible repeat first|apply b1_|apply b2_|apply b3_);refine b4_ ?_ NB301_313.out _;(with_reducible repeat first|apply b1_|apply b2_|apply b3_);exact BK301.out⟩
       have n4_ : Aside0 ((w71.setCell ⟨gb313,0,none⟩ (.string (x314000_2 ++ t335))).heap[gb313]? = some (.cells #[.string (x314000_2 ++ t335),u314001] 25 (0,0))):=⟨by (with_reducible repeat first|apply b1_|apply b2_|apply b3_);refine blk_put (cs:=#[.string x314000_2,u314001]) ?_ 0 _ rfl;(with_reducible repeat first|apply b1_|apply b2_|apply b3_);exact BK313.out⟩
       have n5_ : Aside0 (IsS56 w0 (w71.setCell ⟨gb313,0,none⟩ (.string (x314000_2 ++ t335))) g s0_0 t336):=⟨by repeat (first|(with_reducible first|exact HI0.out|apply IsS56.alloc|apply IsS56.drewN|apply IsS56.drew|apply IsS56.set_1|refine IsS56.far ?_ NB0_301.out _|refine IsS56.far ?_ NB0_313.out _)|exact HI0.out)⟩
       have n6_ : Aside0 (KeepBut w (w71.setCell ⟨gb313,0,none⟩ (.string (x314000_2 ++ t335))) g none):=⟨puW HK.out GW301.out GW313.out⟩
       have n7_ : Aside0 (Below w0.heap.size w0 (w71.setCell ⟨gb313,0,none⟩ (.string (x314000_2 ++ t335)))):=⟨puO HB.out (IsS56.ge HI0.out) GE301.out GE313.out⟩
       (try clear HO_4)
       (try clear HO_314001)
       (try clear HO334)
       (try clear BK301)
       (try clear BK313)
       (try clear HI0)
       (try clear HK)
       (try clear HB)
       generalize (w71.setCell ⟨gb313,0,none⟩ (.string (x314000_2 ++ t335))) = w73 at n0_ n1_ n2_ n3_ n4_ n5_ n6_ n7_ ⊢
       have HO_4:=n0_
       have HO_314001:=n1_
       have HO334:=n2_
       have BK301:=n3_
       have BK313:=n4_
       have HI0:=n5_
       have HK:=n6_
       have HB:=n7_
       clear n0_ n1_ n2_ n3_ n4_ n5_ n6_ n7_
       have n0_:=m_ (Kd.Q_drew HO_4.out)
       have n1_:=m_ (Kd.R_drew HO_314001.out)
       have n2_:=m_ (Kd.R_drew HO334.out)
       have n3_:=m_ (b2_ BK301.out)
       have n4_:=m_ (b2_ BK313.out)
       have n5_:=m_ (IsS56.drew HI0.out)
       have n6_:=m_ (keep_drew HK.out)
       have n7_:=m_ (l3_ HB.out)
       clear HO_4
       clear HO_314001
       clear HO334
       clear BK301
       clear BK313
       clear HI0
       clear HK
       clear HB
       have HO_4:=n0_
       have HO_314001:=n1_
       have HO334:=n2_
       have BK301:=n3_
       have BK313:=n4_
       have HI0:=n5_
       have HK:=n6_
       have HB:=n7_
       clear n0_ n1_ n2_ n3_ n4_ n5_ n6_ n7_
       obtain ⟨Ao76,co76,eo76⟩:=Kd.R_slice HO_314001.out
       (first|subst eo76|(injection eo76 with f1_ f2_ f3_;have f4_:=f1_.symm;have f5_:=f3_.symm;clear f1_ f2_ f3_;subst f4_;subst f5_))
       refine start_ (n:=4) (S:=fun w'=>w'.cell? ⟨gb313,0,none⟩ = some (.string (x314000_2 ++ t335)) ∧ w'.cell? ⟨gb313,1,none⟩ = some (.slice Ao76 x314001_2.length co76)) (ds:=[]) #[false,false,false,false] (by kernel_rfl) rfl rfl ⟨(c_ BK313.out 0).trans rfl,(c_ BK313.out 1).trans rfl⟩ (fun hHeld=>?_)
       generalize w73.drew = w74 at HO_4 HO_314001 HO334 BK301 BK313 HI0 HK HB hHeld ⊢
       refine pureK 0 (some 87) ?_
       refine pureK 2 (some 2) ?_
       refine take_ (i:=1) (N:=some 88) (v:=?_) (a':=?_) #[true,true,true,false] rfl rfl (by kernel_rfl) (fun _ _ _ h=>h) (Or.inl ⟨by rfl,?_⟩) hHeld ?_ ?_
       rotate_left
       ·rintro w' ⟨s0,s1⟩
        go_simp
        with_reducible rfl
       rotate_left
       ·simp only [Act.put,s1_,s2_,s3_,i64_w,i32_w]
        rfl
       refine one_ (i:=3) (N:=none) #[true,true,true,true] rfl rfl (by kernel_rfl) (by decide) (fun K hK=>?_)
       have hs75 : w74.cell? ⟨gb301,0,none⟩ = some (.string (⟨#[]⟩ : ByteArray)):=(c_ BK301.out 0).trans rfl
       have hfs75:=f_ BK301.out 0
       have hns75_1:=NB313_301.out
       have hms75_1:=NB301_313.out
       have hs77 : w74.cell? ⟨gb301,1,none⟩ = some (.slice none 0 0):=(c_ BK301.out 1).trans rfl
       have hfs77:=f_ BK301.out 1
       have hns77_1:=NB313_301.out
       have hms77_1:=NB301_313.out
       refine skip_ (w1:=?_) (by rfl) rfl ?_ ?_
       rotate_left
       ·go_simp
        rfl
       refine hK.out _ _ ⟨((cell_far (p:=⟨gb301,_,none⟩) NB313_301.out _).trans (((cell_far (p:=⟨gb301,_,none⟩) NB313_301.out _).trans (hHeld.1)))),((cell_far (p:=⟨gb301,_,none⟩) NB313_301.out _).trans (((cell_far (p:=⟨gb301,_,none⟩) NB313_301.out _).trans (hHeld.2))))⟩ (fun hHeld=>?_)
       clear hK K
       refine done_ (by kernel_rfl) ?_
       try go_wp2
       refine bodyPost_ret (results_tc rfl _ _ gb301 25 #[.string (x314000_2 ++ t335),.slice Ao76 x314001_2.length co76] (0,0) _ rfl (by (with_reducible repeat first|apply b1_|apply b2_|apply b3_);refine blk_put (cs:=#[.string (x314000_2 ++ t335),.slice none 0 0]) ?_ 1 _ rfl;(with_reducible repeat first|apply b1_|apply b2_|apply b3_);refine blk_put (cs:=#[.string (⟨#[]⟩ : ByteArray),.slice none 0 0]) ?_ 0 _ rfl;(with_reducible repeat first|apply b1_|apply b2_|apply b3_);exact BK301.out) Tryz.underlying25 rfl (by kernel_rfl)) rfl ?_
       exact ⟨_,_,eqs,by (with_reducible repeat (first|apply Kd.Q_alloc|apply Kd.Q_drewN|apply Kd.Q_drew));exact Kd.Q_mono (Kd.Q_far (p:=⟨gb301,1,none⟩) (Kd.Q_far (p:=⟨gb301,0,none⟩) (Kd.Q_types HO_4.out BK301.out (by decide)) (fun _ hk=>hk.2) (.string (x314000_2 ++ t335))) (fun _ hk=>hk.2) (.slice Ao76 x314001_2.length co76)) (fun _ hk=>trivial),by (with_reducible repeat (first|apply Kd.R_alloc|apply Kd.R_drewN|apply Kd.R_drew));exact Kd.R_mono (Kd.R_far (p:=⟨gb301,1,none⟩) (Kd.R_far (p:=⟨gb301,0,none⟩) (Kd.R_types HO_314001.out BK301.out (by decide)) (fun _ hk=>hk.2) (.string (x314000_2 ++ t335))) (fun _ hk=>hk.2) (.slice Ao76 x314001_2.length co76)) (fun _ hk=>trivial),by repeat (first|(with_reducible first|exact HI0.out|apply IsS56.alloc|apply IsS56.drewN|apply IsS56.drew|apply IsS56.set_1|refine IsS56.far ?_ NB0_301.out _|refine IsS56.far ?_ NB0_313.out _)|exact HI0.out),puO HB.out (IsS56.ge HI0.out) GE301.out GE313.out,puW HK.out GW301.out GW313.out⟩
      ·rw [if_neg c60] at H
       have c60b0 : (t330 == 0) = false:=beq_eq_false_iff_ne.mpr c60
       have c60b1 : (t330 != 0) = true:=bne_iff_ne.mpr c60
       by_cases c78 : t330 = 1
       ·rw [if_pos c78] at H
        have c78b0 : (t330 == 1) = true:=beq_iff_eq.mpr c78
        have c78b1 : (t330 != 1) = false:=bne_eq_false_iff_eq.mpr c78
        clear c78
        by_cases c79 : (x314001_2.length : Int) > 0
        ·rw [if_pos c79] at H
         have c79b0 : decide (0 < (x314001_2.length : Int)) = true:=decide_eq_true c79
         have c79b1 : decide (0 < x314001_2.length) = true:=decide_eq_true (by omega)
         clear c79
         obtain ⟨y337,hy337⟩ : ∃ y_ : List ByteArray,y_ = (([(⟨#[]⟩ : ByteArray),(⟨#[97,97,97,97,97,97,97,97]⟩ : ByteArray),(⟨#[64,49,58,49,59]⟩ : ByteArray),(⟨#[65]⟩ : ByteArray)] : List ByteArray)):=⟨_,rfl⟩
         replace H : ((spec_l6Rd_of.f k2 s0_0 t331 y337).bind fun bt340=>(if 0 < (x314001_2.length : Int) then (some (x4_2,x314000_2,(x314001_2.set (0 : Int).toNat (⟨(rd_T31 x314001_2 0).f0,bt340.1⟩ : S31)),bt340.2)) else (none))) = some (r1,r2,r3,r4):=by first|(rw [hy337];with_reducible exact H)|(have H2_:=(Option.bind_some _ _).symm.trans H;rw [hy337];with_reducible exact H2_)|(have H2_:=(Option.bind_some _ _).symm.trans H;with_reducible exact H2_)|with_reducible exact H|(rw [hy337];exact H)|exact H
         have Ny337:=m_ hy337
         clear hy337
         replace H:=Option.bind_eq_some_iff.mp H
         obtain ⟨⟨t340,t341⟩,A800,H⟩:=H
         replace H : (if 0 < (x314001_2.length : Int) then (some (x4_2,x314000_2,(x314001_2.set (0 : Int).toNat (⟨(rd_T31 x314001_2 0).f0,t340⟩ : S31)),t341)) else (none)) = some (r1,r2,r3,r4):=H
         have A80:=m_ A800
         clear A800
         by_cases c81 : 0 < (x314001_2.length : Int)
         rotate_left
         ·rw [if_neg c81] at H
          exact absurd H (by simp)
         rw [if_pos c81] at H
         have c81b0 : decide (0 < (x314001_2.length : Int)) = true:=decide_eq_true c81
         have c81b1 : decide (0 < x314001_2.length) = true:=decide_eq_true (by omega)
         clear c81
         obtain ⟨y342,hy342⟩ : ∃ y_ : List (S31),y_ = (x314001_2.set (0 : Int).toNat (⟨(rd_T31 x314001_2 0).f0,t340⟩ : S31)):=⟨_,rfl⟩
         replace H : (some (x4_2,x314000_2,y342,t341)) = some (r1,r2,r3,r4):=by first|(rw [hy342];with_reducible exact H)|(have H2_:=(Option.bind_some _ _).symm.trans H;rw [hy342];with_reducible exact H2_)|(have H2_:=(Option.bind_some _ _).symm.trans H;with_reducible exact H2_)|with_reducible exact H|(rw [hy342];exact H)|exact H
         have Ny342:=m_ hy342
         clear hy342
         simp only [Option.some.injEq,Prod.mk.injEq] at H
         obtain ⟨rfl,rfl,rfl,rfl⟩:=H
         have hnb83:=NB313_301.out
         have hnc83:=NB301_313.out
         have hnb84:=NB313_0.out
         have hnc84:=NB0_313.out
         have hcz85_0 : wr.cell? ⟨gb313,0,none⟩ = some (.string x314000_2):=(c_ BK313.out 0).trans rfl
         have hcz85_1 : wr.cell? ⟨gb313,1,none⟩ = some (u314001):=(c_ BK313.out 1).trans rfl
         have hfz85_0:=f_ BK313.out 0
         have hfz85_1:=f_ BK313.out 1
         try go_wp2_with (first|((with_reducible refine gate_callee (f:=24) rfl ?_);refine goesL_ (some 64) rfl rfl Tryz.func24 (by kernel_rfl) rfl #[.pointer (some ⟨g,0,none⟩),.int .i64 20] rfl lens ?_;(with_reducible refine (spec_l6Rd_pick.calls k2 g s0_0 x1001_2 20 t330 t331 w0 _ ?side1 ?side2 A59.out).mono ?_);(case side1=>repeat (first|(with_reducible first|exact HI0.out|apply IsS56.alloc|apply IsS56.drewN|apply IsS56.drew|apply IsS56.set_1|refine IsS56.far ?_ NB0_301.out _|refine IsS56.far ?_ NB0_313.out _)|exact HI0.out));(case side2=>exact puO HB.out (IsS56.ge HI0.out) GE301.out GE313.out);rintro e w86 ⟨rfl,hi,hb,hk⟩;refine ⟨_,rfl,?_⟩;have n0_:=m_ (Kd.Q_mono (Kd.Q_keep (IsS56.apartQ (show IsS56 w0 _ g s0_0 x1001_2 from by repeat (first|(with_reducible first|exact HI0.out|apply IsS56.alloc|apply IsS56.drewN|apply IsS56.drew|apply IsS56.set_1|refine IsS56.far ?_ NB0_301.out _|refine IsS56.far ?_ NB0_313.out _)|exact HI0.out)) (puQ HO_4.out) (by decide)) hk (fun _ h=>h.2)) (fun _ h=>h.1));have n1_:=m_ (Kd.R_mono (Kd.R_keep (IsS56.apart (show IsS56 w0 _ g s0_0 x1001_2 from by repeat (first|(with_reducible first|exact HI0.out|apply IsS56.alloc|apply IsS56.drewN|apply IsS56.drew|apply IsS56.set_1|refine IsS56.far ?_ NB0_301.out _|refine IsS56.far ?_ NB0_313.out _)|exact HI0.out)) (puR HO_314001.out) (by decide)) hk (fun _ h=>h.2)) (fun _ h=>h.1));have n2_:=m_ (KeepBut.blk hk (g':=gb301) (o:=.cells #[.string (⟨#[]⟩ : ByteArray),.slice none 0 0] 25 (0,0)) (puB BK301.out) NB301_0.out (by simp));have n3_:=m_ (KeepBut.blk hk (g':=gb313) (o:=.cells #[.string x314000_2,u314001] 25 (0,0)) (puB BK313.out) NB313_0.out (by simp));have n4_:=m_ (KeepBut.trans (puW HK.out GW301.out GW313.out) hk (.inl rfl));have n5_:=m_ (hb);have n6_:=m_ (hi);revert n0_ n1_ n2_ n3_ n4_ n5_ n6_;clear HO_4 HO_314001 BK301 BK313 HK HB HI0;intro HO_4 HO_314001 BK301 BK313 HK HB HI0;(try clear hb);(try clear hb2);(try clear hk);(try clear hi);have hcz87_0 : w86.cell? ⟨gb313,0,none⟩ = some (.string x314000_2):=(c_ BK313.out 0).trans rfl;have hcz87_1 : w86.cell? ⟨gb313,1,none⟩ = some (u314001):=(c_ BK313.out 1).trans rfl;have hfz87_0:=f_ BK313.out 0;have hfz87_1:=f_ BK313.out 1;obtain ⟨Ao88,co88,eo88⟩:=Kd.R_slice HO_314001.out;subst eo88))
         have n0_:=m_ (Kd.Q_drew HO_4.out)
         have n1_:=m_ (Kd.R_drew HO_314001.out)
         have n2_:=m_ (b2_ BK301.out)
         have n3_:=m_ (b2_ BK313.out)
         have n4_:=m_ (IsS56.drew HI0.out)
         have n5_:=m_ (keep_drew HK.out)
         have n6_:=m_ (l3_ HB.out)
         clear HO_4
         clear HO_314001
         clear BK301
         clear BK313
         clear HI0
         clear HK
         clear HB
         have HO_4:=n0_
         have HO_314001:=n1_
         have BK301:=n2_
         have BK313:=n3_
         have HI0:=n4_
         have HK:=n5_
         have HB:=n6_
         clear n0_ n1_ n2_ n3_ n4_ n5_ n6_
         refine start_ (n:=8) (S:=fun w'=>w'.cell? ⟨gb313,0,none⟩ = some (.string x314000_2) ∧ w'.cell? ⟨gb313,1,none⟩ = some (.slice Ao88 x314001_2.length co88)) (ds:=[7]) #[false,false,false,false,false,false,false,false] (by kernel_rfl) rfl rfl ⟨(c_ BK313.out 0).trans rfl,(c_ BK313.out 1).trans rfl⟩ (fun hHeld=>?_);refine with_tabW spec_l71Stream.tab17 spec_l71Stream.bits17 (fun HT_ HW_=>?_)
         generalize w86.drew = w89 at HO_4 HO_314001 BK301 BK313 HI0 HK HB hHeld ⊢
         refine pureA 0 (some 80) HT_.out ?_
         refine pureA 2 (some 82) HT_.out ?_
         refine takeA 1 (some 81) rfl rfl HT_.out HW_.out hHeld ?_ (by rintro w' ⟨s0,s1⟩;go_simp;with_reducible rfl)
         refine one_ (i:=3) (N:=some 83) #[true,true,true,true,false,false,false,false] rfl rfl (one_of HT_.out (by kernel_rfl)) (by decide) (fun K hK=>?_)
         refine Kd.R_lit_step Kd.string _ 9 ?hg (N:=83) ?hd (xs:=([(⟨#[]⟩ : ByteArray),(⟨#[97,97,97,97,97,97,97,97]⟩ : ByteArray),(⟨#[64,49,58,49,59]⟩ : ByteArray),(⟨#[65]⟩ : ByteArray)] : List ByteArray)) (inner:=[.string (⟨#[]⟩ : ByteArray),.string (⟨#[97,97,97,97,97,97,97,97]⟩ : ByteArray),.string (⟨#[64,49,58,49,59]⟩ : ByteArray),.string (⟨#[65]⟩ : ByteArray)]) (ok:=fun _=>True) (okp:=fun _=>True) ?hr ?hp (fun _ hk=>hk) trivial (Below.refl _ _) (Nat.le_refl _) (by simp) ?_;(case hd=>rfl);(case hg=>rfl);(case hr=>first|(go_simp;done)|(go_simp;rfl));(case hp=>exact (Reps.one (show Kd.M Kd.string _ _ _ (⟨#[]⟩ : ByteArray) [.string (⟨#[]⟩ : ByteArray)] from rfl) (Reps.one (show Kd.M Kd.string _ _ _ (⟨#[97,97,97,97,97,97,97,97]⟩ : ByteArray) [.string (⟨#[97,97,97,97,97,97,97,97]⟩ : ByteArray)] from rfl) (Reps.one (show Kd.M Kd.string _ _ _ (⟨#[64,49,58,49,59]⟩ : ByteArray) [.string (⟨#[64,49,58,49,59]⟩ : ByteArray)] from rfl) (Reps.one (show Kd.M Kd.string _ _ _ (⟨#[65]⟩ : ByteArray) [.string (⟨#[65]⟩ : ByteArray)] from rfl) (Reps.none _ _))))))
         intro v338 w90 ho91 hb hg_ hnew_
         clear hg_ hnew_
         (first|rw [← Ny337.out] at ho91|(simp only [Int.reduceToNat] at ho91;rw [← Ny337.out] at ho91))
         have n0_:=m_ (Kd.Q_below (puQ HO_4.out) hb)
         have n1_:=m_ (Kd.R_below (puR HO_314001.out) hb)
         have n2_:=m_ (Kd.R_lower ho91 (keep_size (w:=w) (g:=g) (row:=none) (puW HK.out GW301.out GW313.out)))
         have n3_:=m_ (blk_below (g:=gb301) (o:=.cells #[.string (⟨#[]⟩ : ByteArray),.slice none 0 0] 25 (0,0)) (puB BK301.out) hb)
         have n4_:=m_ (blk_below (g:=gb313) (o:=.cells #[.string x314000_2,.slice Ao88 x314001_2.length co88] 25 (0,0)) (puB BK313.out) hb)
         have n5_:=m_ (IsS56.below (by repeat (first|(with_reducible first|exact HI0.out|apply IsS56.alloc|apply IsS56.drewN|apply IsS56.drew|apply IsS56.set_1|refine IsS56.far ?_ NB0_301.out _|refine IsS56.far ?_ NB0_313.out _)|exact HI0.out)) hb)
         have n6_:=m_ (KeepBut.trans (puW HK.out GW301.out GW313.out) (KeepBut.of_below hb g none) (.inl rfl))
         have n7_:=m_ (l5_ (puO HB.out (IsS56.ge HI0.out) GE301.out GE313.out) hb)
         clear HO_4
         clear HO_314001
         clear BK301
         clear BK313
         clear HI0
         clear HK
         clear HB
         have HO_4:=n0_
         have HO_314001:=n1_
         have HO339:=n2_
         have BK301:=n3_
         have BK313:=n4_
         have HI0:=n5_
         have HK:=n6_
         have HB:=n7_
         clear n0_ n1_ n2_ n3_ n4_ n5_ n6_ n7_
         clear hb ho91
         obtain ⟨Ao92,co92,eo92⟩:=Kd.R_slice HO339.out
         (first|subst eo92|(injection eo92 with f1_ f2_ f3_;have f4_:=f1_.symm;have f5_:=f3_.symm;clear f1_ f2_ f3_;subst f4_;subst f5_))
         refine hK.out _ _ ⟨(c_ BK313.out 0).trans rfl,(c_ BK313.out 1).trans rfl⟩ (fun hHeld=>?_)
         clear hK K
         refine norm_ (a':=?_) ?_ ?_
         rotate_left
         ·show Act.put _ (some 83) _ = _
          simp only [Act.put,s1_,s2_,s3_,i64_w,i32_w]
          rfl
         refine one_ (i:=4) (N:=some 84) #[true,true,true,true,true,false,false,false] rfl rfl (one_of HT_.out (by kernel_rfl)) (by decide) (fun K hK=>?_)
         refine goes_ Tryz.func45 (by kernel_rfl) rfl #[.pointer (some ⟨g,0,none⟩),.slice Ao92 y337.length co92] (by rfl) rfl rfl lens ?_
         with_reducible refine (spec_l6Rd_of.calls k2 g s0_0 t331 _ _ y337 t340 t341 w0 _ ?side1 ?side2 ?side3 ?side4 ?side5 A80.out).mono ?_
         (case side1=>repeat (first|(with_reducible first|exact HI0.out|apply IsS56.alloc|apply IsS56.drewN|apply IsS56.drew|apply IsS56.set_1|refine IsS56.far ?_ NB0_301.out _|refine IsS56.far ?_ NB0_313.out _)|exact HI0.out))
         (case side2=>exact puO HB.out (IsS56.ge HI0.out) GE301.out GE313.out)
         (case side3=>exact puC (Kd.R_reads' HO339.out).2.2)
         (case side4=>exact (Kd.R_reads' HO339.out).2.1)
         (case side5=>exact far_slice (IsS56.own_ne HI0.out HO339.out (by decide)))
         rintro e w93 ⟨rfl,hi,hb,hk⟩
         refine ⟨_,rfl,?_⟩
         have n0_:=m_ (Kd.Q_mono (Kd.Q_keep (IsS56.apartQ (show IsS56 w0 _ g s0_0 t331 from by repeat (first|(with_reducible first|exact HI0.out|apply IsS56.alloc|apply IsS56.drewN|apply IsS56.drew|apply IsS56.set_1|refine IsS56.far ?_ NB0_301.out _|refine IsS56.far ?_ NB0_313.out _)|exact HI0.out)) (puQ HO_4.out) (by decide)) hk (fun _ h=>h.2)) (fun _ h=>h.1))
         have n1_:=m_ (Kd.R_mono (Kd.R_keep (IsS56.apart (show IsS56 w0 _ g s0_0 t331 from by repeat (first|(with_reducible first|exact HI0.out|apply IsS56.alloc|apply IsS56.drewN|apply IsS56.drew|apply IsS56.set_1|refine IsS56.far ?_ NB0_301.out _|refine IsS56.far ?_ NB0_313.out _)|exact HI0.out)) (puR HO_314001.out) (by decide)) hk (fun _ h=>h.2)) (fun _ h=>h.1))
         have n2_:=m_ (KeepBut.blk hk (g':=gb301) (o:=.cells #[.string (⟨#[]⟩ : ByteArray),.slice none 0 0] 25 (0,0)) (puB BK301.out) NB301_0.out (by simp))
         have n3_:=m_ (KeepBut.blk hk (g':=gb313) (o:=.cells #[.string x314000_2,.slice Ao88 x314001_2.length co88] 25 (0,0)) (puB BK313.out) NB313_0.out (by simp))
         have n4_:=m_ (Kd.R_mono (Kd.R_keep (IsS56.apart (show IsS56 w0 _ g s0_0 t331 from by repeat (first|(with_reducible first|exact HI0.out|apply IsS56.alloc|apply IsS56.drewN|apply IsS56.drew|apply IsS56.set_1|refine IsS56.far ?_ NB0_301.out _|refine IsS56.far ?_ NB0_313.out _)|exact HI0.out)) (puR HO339.out) (by decide)) hk (fun _ h=>h.2)) (fun _ h=>h.1))
         have n5_:=m_ (KeepBut.trans (puW HK.out GW301.out GW313.out) hk (.inl rfl))
         have n6_:=m_ (hb)
         have n7_:=m_ (hi)
         clear HO_4
         clear HO_314001
         clear BK301
         clear BK313
         clear HO339
         clear HK
         clear HB
         clear HI0
         have HO_4:=n0_
         have HO_314001:=n1_
         have BK301:=n2_
         have BK313:=n3_
         have HO339:=n4_
         have HK:=n5_
         have HB:=n6_
         have HI0:=n7_
         clear n0_ n1_ n2_ n3_ n4_ n5_ n6_ n7_
         (try clear hb)
         (try clear hb2)
         (try clear hk)
         (try clear hi)
         have p82 : 0 ≤ (0 : Int):=(by omega)
         have q82 : (0 : Int) < ((x314001_2.length : Int) : Int):=of_decide_eq_true asm
         have qi82 : (0 < x314001_2.length) = True:=eq_true (by omega)
         obtain ⟨go82,co82,eo82,gb82,gl82,cl82,HG82⟩:=Kd.R_form HO_314001.out (by omega)
         (first|cases eo82|(injection eo82 with ea_ en_ ec_;(first|subst ea_|(injection ea_ with ea_;subst ea_));subst ec_;clear en_))
         have GB82:=m_ gb82
         have GG82:=m_ HG82
         clear gb82 gl82 HG82
         obtain ⟨ce82,hcl82,hM82,hcc82,hfr82⟩:=Kd.R_elem HO_314001.out z31 (0 : Int) p82 q82
         obtain rfl:=k31_openM hM82
         have hx82_0 : World.cell? _ ⟨go82,(0 : Int).toNat * 2,none⟩ = some (.int .i64 ((rd_T31 x314001_2 0).f0)):=hcc82 0 _ rfl
         have hx82_1 : World.cell? _ ⟨go82,(0 : Int).toNat * 2 + 1,none⟩ = some (.string ((rd_T31 x314001_2 0).f1)):=hcc82 1 _ rfl
         have hf82_0 : World.frozen? _ ⟨go82,(0 : Int).toNat * 2,none⟩ = false:=hfr82 0
         have hf82_1 : World.frozen? _ ⟨go82,(0 : Int).toNat * 2 + 1,none⟩ = false:=hfr82 1
         clear hcl82 hcc82 hfr82 hM82
         (try rw [show ((0 : Int)).toNat = 0 from rfl] at hx82_0)
         (try simp only [Nat.reduceMul,Nat.zero_mul,Nat.zero_add,Nat.reduceAdd] at hx82_0)
         (try rw [show ((0 : Int)).toNat = 0 from rfl] at hf82_0)
         (try simp only [Nat.reduceMul,Nat.zero_mul,Nat.zero_add,Nat.reduceAdd] at hf82_0)
         (try rw [show ((0 : Int)).toNat = 0 from rfl] at hx82_1)
         (try simp only [Nat.reduceMul,Nat.zero_mul,Nat.zero_add,Nat.reduceAdd] at hx82_1)
         (try rw [show ((0 : Int)).toNat = 0 from rfl] at hf82_1)
         (try simp only [Nat.reduceMul,Nat.zero_mul,Nat.zero_add,Nat.reduceAdd] at hf82_1)
         replace p82:=eq_true p82
         replace q82:=eq_true q82
         have HN0_go82:=m_ (show g ≠ go82 from by have h_:=IsS56.own_ne HI0.out HO_314001.out (by decide);intro e_;exact h_ (by rw [e_];rfl))
         obtain ⟨ce94,hcl94,hM94,hcc94,hfr94⟩:=Kd.R_elem HO_314001.out z31 (0 : Int) (by omega) (by have h_ : (0 : Int) < ((x314001_2.length : Int) : Int):=of_decide_eq_true asm;first|exact h_|(have e_:=(Kd.R_reads' HO_314001.out).1;omega)|simpa using h_)
         obtain rfl:=k31_openM hM94
         have HP94:=(Kd.R_seg HO_314001.out (0 : Int) (by omega) (by have h_ : (0 : Int) < ((x314001_2.length : Int) : Int):=of_decide_eq_true asm;first|exact h_|(have e_:=(Kd.R_reads' HO_314001.out).1;omega)|simpa using h_) (seg:=[.string t340]) (j:=1) hcl94 hcc94 (show 2 ≤ 2 from by decide) (x':=(⟨(rd_T31 x314001_2 0).f0,t340⟩ : S31)) (k31_mkM _ _ _ (⟨(rd_T31 x314001_2 0).f0,t340⟩ : S31) ) (fun _ hk=>hk)).1
         rw [← Ny342.out] at HP94
         have HQ94:=m_ HP94
         clear hcl94 hcc94 hfr94 hM94 HP94
         refine hK.out _ _ ⟨(c_ BK313.out 0).trans rfl,(c_ BK313.out 1).trans rfl⟩ (fun hHeld=>?_)
         clear hK K
         refine norm_ (a':=?_) ?_ ?_
         rotate_left
         ·show Act.put _ (some 84) _ = _
          simp only [Act.put,s1_,s2_,s3_,i64_w,i32_w]
          rfl
         refine pureA 5 (some 85) HT_.out ?_
         refine pureA 6 (some 86) HT_.out ?_
         refine last_ (i:=7) (N:=none) #[true,true,true,true,true,true,true,true] rfl rfl (one_of HT_.out (by kernel_rfl)) (by decide) (fun K hK=>?_)
         refine skip_ (w1:=?_) (by rfl) rfl ?_ ?_
         rotate_left
         ·go_simp
          rfl
         refine hK.out _ _ ?_
         clear hK K
         refine done_ (done_of HT_.out (by kernel_rfl)) ?_
         have n0_ : Aside0 (Kd.Q k79 79 (w93.setCell ⟨go82,1,none⟩ (.string t340)) w.heap.size (fun _=>True) u4 x4_2):=⟨by (with_reducible repeat (first|apply Kd.Q_alloc|apply Kd.Q_drewN|apply Kd.Q_drew));exact Kd.Q_mono (Kd.Q_far (p:=⟨go82,1,none⟩) (Kd.Q_types HO_4.out GG82.out (by decide)) (fun _ hk=>hk.2) (.string t340)) (fun _ hk=>trivial)⟩
         have n1_ : Aside0 (Kd.R k31 31 (w93.setCell ⟨go82,1,none⟩ (.string t340)) w.heap.size (fun _=>True) (.slice (some ⟨go82,0,none⟩) x314001_2.length co88) y342):=⟨by (with_reducible repeat (first|apply Kd.R_alloc|apply Kd.R_drewN|apply Kd.R_drew));exact HQ94.out⟩
         have n2_ : Aside0 (Kd.R Kd.string 9 (w93.setCell ⟨go82,1,none⟩ (.string t340)) w.heap.size (fun _=>True) (.slice Ao92 y337.length co92) y337):=⟨by (with_reducible repeat (first|apply Kd.R_alloc|apply Kd.R_drewN|apply Kd.R_drew));exact Kd.R_mono (Kd.R_far (p:=⟨go82,1,none⟩) (Kd.R_types HO339.out GG82.out (by decide)) (fun _ hk=>hk.2) (.string t340)) (fun _ hk=>trivial)⟩
         have n3_ : Aside0 ((w93.setCell ⟨go82,1,none⟩ (.string t340)).heap[gb301]? = some (.cells #[.string (⟨#[]⟩ : ByteArray),.slice none 0 0] 25 (0,0))):=⟨by (with_reducible repeat first|apply b1_|apply b2_|apply b3_);refine b4_ ?_ (by have h_:=Kd.R_ne HO_314001.out BK301.out (by decide);intro e_;exact h_ (by rw [e_];rfl)) _;(with_reducible repeat first|apply b1_|apply b2_|apply b3_);exact BK301.out⟩
         have n4_ : Aside0 ((w93.setCell ⟨go82,1,none⟩ (.string t340)).heap[gb313]? = some (.cells #[.string x314000_2,.slice (some ⟨go82,0,none⟩) x314001_2.length co88] 25 (0,0))):=⟨by (with_reducible repeat first|apply b1_|apply b2_|apply b3_);refine b4_ ?_ (by have h_:=Kd.R_ne HO_314001.out BK313.out (by decide);intro e_;exact h_ (by rw [e_];rfl)) _;(with_reducible repeat first|apply b1_|apply b2_|apply b3_);exact BK313.out⟩
         have n5_ : Aside0 (IsS56 w0 (w93.setCell ⟨go82,1,none⟩ (.string t340)) g s0_0 t341):=⟨by repeat (first|(with_reducible first|exact HI0.out|apply IsS56.alloc|apply IsS56.drewN|apply IsS56.drew|apply IsS56.set_1|refine IsS56.far ?_ HN0_go82.out _|refine IsS56.far ?_ NB0_301.out _|refine IsS56.far ?_ NB0_313.out _)|exact HI0.out)⟩
         have n6_ : Aside0 (KeepBut w (w93.setCell ⟨go82,1,none⟩ (.string t340)) g none):=⟨by repeat (first|(with_reducible first|exact HK.out|apply KeepBut.set_|apply keep_drewN|apply keep_drew|apply keep_alloc|refine keep_far ?_ GB82.out _|refine keep_far ?_ GW301.out _|refine keep_far ?_ GW313.out _)|exact HK.out)⟩
         have n7_ : Aside0 (Below w0.heap.size w0 (w93.setCell ⟨go82,1,none⟩ (.string t340))):=⟨by repeat (first|(with_reducible first|exact HB.out|apply l1_|apply l2_|apply l3_|refine l4_ ?_ (Nat.le_trans HL.out GB82.out)|refine l4_ ?_ (IsS56.ge HI0.out)|refine l4_ ?_ GE301.out|refine l4_ ?_ GE313.out)|exact HB.out)⟩
         (try clear HO_4)
         (try clear HO_314001)
         (try clear HO339)
         (try clear BK301)
         (try clear BK313)
         (try clear HI0)
         (try clear HK)
         (try clear HB)
         generalize (w93.setCell ⟨go82,1,none⟩ (.string t340)) = w95 at n0_ n1_ n2_ n3_ n4_ n5_ n6_ n7_ ⊢
         have HO_4:=n0_
         have HO_314001:=n1_
         have HO339:=n2_
         have BK301:=n3_
         have BK313:=n4_
         have HI0:=n5_
         have HK:=n6_
         have HB:=n7_
         clear n0_ n1_ n2_ n3_ n4_ n5_ n6_ n7_
         try go_wp2
         have n0_:=m_ (Kd.Q_drew HO_4.out)
         have n1_:=m_ (Kd.R_drew HO_314001.out)
         have n2_:=m_ (Kd.R_drew HO339.out)
         have n3_:=m_ (b2_ BK301.out)
         have n4_:=m_ (b2_ BK313.out)
         have n5_:=m_ (IsS56.drew HI0.out)
         have n6_:=m_ (keep_drew HK.out)
         have n7_:=m_ (l3_ HB.out)
         clear HO_4
         clear HO_314001
         clear HO339
         clear BK301
         clear BK313
         clear HI0
         clear HK
         clear HB
         have HO_4:=n0_
         have HO_314001:=n1_
         have HO339:=n2_
         have BK301:=n3_
         have BK313:=n4_
         have HI0:=n5_
         have HK:=n6_
         have HB:=n7_
         clear n0_ n1_ n2_ n3_ n4_ n5_ n6_ n7_
         refine start_ (n:=4) (S:=fun w'=>w'.cell? ⟨gb313,0,none⟩ = some (.string x314000_2) ∧ w'.cell? ⟨gb313,1,none⟩ = some (.slice (some ⟨go82,0,none⟩) x314001_2.length co88)) (ds:=[]) #[false,false,false,false] (by kernel_rfl) rfl rfl ⟨(c_ BK313.out 0).trans rfl,(c_ BK313.out 1).trans rfl⟩ (fun hHeld=>?_)
         generalize w95.drew = w96 at HO_4 HO_314001 HO339 BK301 BK313 HI0 HK HB hHeld ⊢
         refine pureK 0 (some 87) ?_
         refine pureK 2 (some 2) ?_
         refine take_ (i:=1) (N:=some 88) (v:=?_) (a':=?_) #[true,true,true,false] rfl rfl (by kernel_rfl) (fun _ _ _ h=>h) (Or.inl ⟨by rfl,?_⟩) hHeld ?_ ?_
         rotate_left
         ·rintro w' ⟨s0,s1⟩
          go_simp
          with_reducible rfl
         rotate_left
         ·simp only [Act.put,s1_,s2_,s3_,i64_w,i32_w]
          rfl
         refine one_ (i:=3) (N:=none) #[true,true,true,true] rfl rfl (by kernel_rfl) (by decide) (fun K hK=>?_)
         have hs97 : w96.cell? ⟨gb301,0,none⟩ = some (.string (⟨#[]⟩ : ByteArray)):=(c_ BK301.out 0).trans rfl
         have hfs97:=f_ BK301.out 0
         have hns97_1:=NB313_301.out
         have hms97_1:=NB301_313.out
         have hs98 : w96.cell? ⟨gb301,1,none⟩ = some (.slice none 0 0):=(c_ BK301.out 1).trans rfl
         have hfs98:=f_ BK301.out 1
         have hns98_1:=NB313_301.out
         have hms98_1:=NB301_313.out
         refine skip_ (w1:=?_) (by rfl) rfl ?_ ?_
         rotate_left
         ·go_simp
          rfl
         refine hK.out _ _ ⟨((cell_far (p:=⟨gb301,_,none⟩) NB313_301.out _).trans (((cell_far (p:=⟨gb301,_,none⟩) NB313_301.out _).trans (hHeld.1)))),((cell_far (p:=⟨gb301,_,none⟩) NB313_301.out _).trans (((cell_far (p:=⟨gb301,_,none⟩) NB313_301.out _).trans (hHeld.2))))⟩ (fun hHeld=>?_)
         clear hK K
         refine done_ (by kernel_rfl) ?_
         try go_wp2
         refine bodyPost_ret (results_tc rfl _ _ gb301 25 #[.string x314000_2,.slice (some ⟨go82,0,none⟩) x314001_2.length co88] (0,0) _ rfl (by (with_reducible repeat first|apply b1_|apply b2_|apply b3_);refine blk_put (cs:=#[.string x314000_2,.slice none 0 0]) ?_ 1 _ rfl;(with_reducible repeat first|apply b1_|apply b2_|apply b3_);refine blk_put (cs:=#[.string (⟨#[]⟩ : ByteArray),.slice none 0 0]) ?_ 0 _ rfl;(with_reducible repeat first|apply b1_|apply b2_|apply b3_);exact BK301.out) Tryz.underlying25 rfl (by kernel_rfl)) rfl ?_
         exact ⟨_,_,eqs,by (with_reducible repeat (first|apply Kd.Q_alloc|apply Kd.Q_drewN|apply Kd.Q_drew));exact Kd.Q_mono (Kd.Q_far (p:=⟨gb301,1,none⟩) (Kd.Q_far (p:=⟨gb301,0,none⟩) (Kd.Q_types HO_4.out BK301.out (by decide)) (fun _ hk=>hk.2) (.string x314000_2)) (fun _ hk=>hk.2) (.slice (some ⟨go82,0,none⟩) x314001_2.length co88)) (fun _ hk=>trivial),by (with_reducible repeat (first|apply Kd.R_alloc|apply Kd.R_drewN|apply Kd.R_drew));exact Kd.R_mono (Kd.R_far (p:=⟨gb301,1,none⟩) (Kd.R_far (p:=⟨gb301,0,none⟩) (Kd.R_types HO_314001.out BK301.out (by decide)) (fun _ hk=>hk.2) (.string x314000_2)) (fun _ hk=>hk.2) (.slice (some ⟨go82,0,none⟩) x314001_2.length co88)) (fun _ hk=>trivial),by repeat (first|(with_reducible first|exact HI0.out|apply IsS56.alloc|apply IsS56.drewN|apply IsS56.drew|apply IsS56.set_1|refine IsS56.far ?_ NB0_301.out _|refine IsS56.far ?_ NB0_313.out _)|exact HI0.out),puO HB.out (IsS56.ge HI0.out) GE301.out GE313.out,puW HK.out GW301.out GW313.out⟩
        ·rw [if_neg c79] at H
         have c79b0 : decide (0 < (x314001_2.length : Int)) = false:=decide_eq_false c79
         have c79b1 : decide (0 < x314001_2.length) = false:=decide_eq_false (by omega)
         clear c79
         simp only [Option.some.injEq,Prod.mk.injEq] at H
         obtain ⟨rfl,rfl,rfl,rfl⟩:=H
         have hnb99:=NB313_301.out
         have hnc99:=NB301_313.out
         have hnb100:=NB313_0.out
         have hnc100:=NB0_313.out
         have hcz101_0 : wr.cell? ⟨gb313,0,none⟩ = some (.string x314000_2):=(c_ BK313.out 0).trans rfl
         have hcz101_1 : wr.cell? ⟨gb313,1,none⟩ = some (u314001):=(c_ BK313.out 1).trans rfl
         have hfz101_0:=f_ BK313.out 0
         have hfz101_1:=f_ BK313.out 1
         try go_wp2_with (first|((with_reducible refine gate_callee (f:=24) rfl ?_);refine goesL_ (some 64) rfl rfl Tryz.func24 (by kernel_rfl) rfl #[.pointer (some ⟨g,0,none⟩),.int .i64 20] rfl lens ?_;(with_reducible refine (spec_l6Rd_pick.calls k2 g s0_0 x1001_2 20 t330 t331 w0 _ ?side1 ?side2 A59.out).mono ?_);(case side1=>repeat (first|(with_reducible first|exact HI0.out|apply IsS56.alloc|apply IsS56.drewN|apply IsS56.drew|apply IsS56.set_1|refine IsS56.far ?_ NB0_301.out _|refine IsS56.far ?_ NB0_313.out _)|exact HI0.out));(case side2=>exact puO HB.out (IsS56.ge HI0.out) GE301.out GE313.out);rintro e w102 ⟨rfl,hi,hb,hk⟩;refine ⟨_,rfl,?_⟩;have n0_:=m_ (Kd.Q_mono (Kd.Q_keep (IsS56.apartQ (show IsS56 w0 _ g s0_0 x1001_2 from by repeat (first|(with_reducible first|exact HI0.out|apply IsS56.alloc|apply IsS56.drewN|apply IsS56.drew|apply IsS56.set_1|refine IsS56.far ?_ NB0_301.out _|refine IsS56.far ?_ NB0_313.out _)|exact HI0.out)) (puQ HO_4.out) (by decide)) hk (fun _ h=>h.2)) (fun _ h=>h.1));have n1_:=m_ (Kd.R_mono (Kd.R_keep (IsS56.apart (show IsS56 w0 _ g s0_0 x1001_2 from by repeat (first|(with_reducible first|exact HI0.out|apply IsS56.alloc|apply IsS56.drewN|apply IsS56.drew|apply IsS56.set_1|refine IsS56.far ?_ NB0_301.out _|refine IsS56.far ?_ NB0_313.out _)|exact HI0.out)) (puR HO_314001.out) (by decide)) hk (fun _ h=>h.2)) (fun _ h=>h.1));have n2_:=m_ (KeepBut.blk hk (g':=gb301) (o:=.cells #[.string (⟨#[]⟩ : ByteArray),.slice none 0 0] 25 (0,0)) (puB BK301.out) NB301_0.out (by simp));have n3_:=m_ (KeepBut.blk hk (g':=gb313) (o:=.cells #[.string x314000_2,u314001] 25 (0,0)) (puB BK313.out) NB313_0.out (by simp));have n4_:=m_ (KeepBut.trans (puW HK.out GW301.out GW313.out) hk (.inl rfl));have n5_:=m_ (hb);have n6_:=m_ (hi);revert n0_ n1_ n2_ n3_ n4_ n5_ n6_;clear HO_4 HO_314001 BK301 BK313 HK HB HI0;intro HO_4 HO_314001 BK301 BK313 HK HB HI0;(try clear hb);(try clear hb2);(try clear hk);(try clear hi);have hcz103_0 : w102.cell? ⟨gb313,0,none⟩ = some (.string x314000_2):=(c_ BK313.out 0).trans rfl;have hcz103_1 : w102.cell? ⟨gb313,1,none⟩ = some (u314001):=(c_ BK313.out 1).trans rfl;have hfz103_0:=f_ BK313.out 0;have hfz103_1:=f_ BK313.out 1;obtain ⟨Ao104,co104,eo104⟩:=Kd.R_slice HO_314001.out;subst eo104))
         have n0_:=m_ (Kd.Q_drew HO_4.out)
         have n1_:=m_ (Kd.R_drew HO_314001.out)
         have n2_:=m_ (b2_ BK301.out)
         have n3_:=m_ (b2_ BK313.out)
         have n4_:=m_ (IsS56.drew HI0.out)
         have n5_:=m_ (keep_drew HK.out)
         have n6_:=m_ (l3_ HB.out)
         clear HO_4
         clear HO_314001
         clear BK301
         clear BK313
         clear HI0
         clear HK
         clear HB
         have HO_4:=n0_
         have HO_314001:=n1_
         have BK301:=n2_
         have BK313:=n3_
         have HI0:=n4_
         have HK:=n5_
         have HB:=n6_
         clear n0_ n1_ n2_ n3_ n4_ n5_ n6_
         refine start_ (n:=4) (S:=fun w'=>w'.cell? ⟨gb313,0,none⟩ = some (.string x314000_2) ∧ w'.cell? ⟨gb313,1,none⟩ = some (.slice Ao104 x314001_2.length co104)) (ds:=[]) #[false,false,false,false] (by kernel_rfl) rfl rfl ⟨(c_ BK313.out 0).trans rfl,(c_ BK313.out 1).trans rfl⟩ (fun hHeld=>?_)
         generalize w102.drew = w105 at HO_4 HO_314001 BK301 BK313 HI0 HK HB hHeld ⊢
         refine pureK 0 (some 87) ?_
         refine pureK 2 (some 2) ?_
         refine take_ (i:=1) (N:=some 88) (v:=?_) (a':=?_) #[true,true,true,false] rfl rfl (by kernel_rfl) (fun _ _ _ h=>h) (Or.inl ⟨by rfl,?_⟩) hHeld ?_ ?_
         rotate_left
         ·rintro w' ⟨s0,s1⟩
          go_simp
          with_reducible rfl
         rotate_left
         ·simp only [Act.put,s1_,s2_,s3_,i64_w,i32_w]
          rfl
         refine one_ (i:=3) (N:=none) #[true,true,true,true] rfl rfl (by kernel_rfl) (by decide) (fun K hK=>?_)
         have hs106 : w105.cell? ⟨gb301,0,none⟩ = some (.string (⟨#[]⟩ : ByteArray)):=(c_ BK301.out 0).trans rfl
         have hfs106:=f_ BK301.out 0
         have hns106_1:=NB313_301.out
         have hms106_1:=NB301_313.out
         have hs107 : w105.cell? ⟨gb301,1,none⟩ = some (.slice none 0 0):=(c_ BK301.out 1).trans rfl
         have hfs107:=f_ BK301.out 1
         have hns107_1:=NB313_301.out
         have hms107_1:=NB301_313.out
         refine skip_ (w1:=?_) (by rfl) rfl ?_ ?_
         rotate_left
         ·go_simp
          rfl
         refine hK.out _ _ ⟨((cell_far (p:=⟨gb301,_,none⟩) NB313_301.out _).trans (((cell_far (p:=⟨gb301,_,none⟩) NB313_301.out _).trans (hHeld.1)))),((cell_far (p:=⟨gb301,_,none⟩) NB313_301.out _).trans (((cell_far (p:=⟨gb301,_,none⟩) NB313_301.out _).trans (hHeld.2))))⟩ (fun hHeld=>?_)
         clear hK K
         refine done_ (by kernel_rfl) ?_
         try go_wp2
         refine bodyPost_ret (results_tc rfl _ _ gb301 25 #[.string x314000_2,.slice Ao104 x314001_2.length co104] (0,0) _ rfl (by (with_reducible repeat first|apply b1_|apply b2_|apply b3_);refine blk_put (cs:=#[.string x314000_2,.slice none 0 0]) ?_ 1 _ rfl;(with_reducible repeat first|apply b1_|apply b2_|apply b3_);refine blk_put (cs:=#[.string (⟨#[]⟩ : ByteArray),.slice none 0 0]) ?_ 0 _ rfl;(with_reducible repeat first|apply b1_|apply b2_|apply b3_);exact BK301.out) Tryz.underlying25 rfl (by kernel_rfl)) rfl ?_
         exact ⟨_,_,eqs,by (with_reducible repeat (first|apply Kd.Q_alloc|apply Kd.Q_drewN|apply Kd.Q_drew));exact Kd.Q_mono (Kd.Q_far (p:=⟨gb301,1,none⟩) (Kd.Q_far (p:=⟨gb301,0,none⟩) (Kd.Q_types HO_4.out BK301.out (by decide)) (fun _ hk=>hk.2) (.string x314000_2)) (fun _ hk=>hk.2) (.slice Ao104 x314001_2.length co104)) (fun _ hk=>trivial),by (with_reducible repeat (first|apply Kd.R_alloc|apply Kd.R_drewN|apply Kd.R_drew));exact Kd.R_mono (Kd.R_far (p:=⟨gb301,1,none⟩) (Kd.R_far (p:=⟨gb301,0,none⟩) (Kd.R_types HO_314001.out BK301.out (by decide)) (fun _ hk=>hk.2) (.string x314000_2)) (fun _ hk=>hk.2) (.slice Ao104 x314001_2.length co104)) (fun _ hk=>trivial),by repeat (first|(with_reducible first|exact HI0.out|apply IsS56.alloc|apply IsS56.drewN|apply IsS56.drew|apply IsS56.set_1|refine IsS56.far ?_ NB0_301.out _|refine IsS56.far ?_ NB0_313.out _)|exact HI0.out),puO HB.out (IsS56.ge HI0.out) GE301.out GE313.out,puW HK.out GW301.out GW313.out⟩
       ·rw [if_neg c78] at H
        have c78b0 : (t330 == 1) = false:=beq_eq_false_iff_ne.mpr c78
        have c78b1 : (t330 != 1) = true:=bne_iff_ne.mpr c78
        simp only [Option.some.injEq,Prod.mk.injEq] at H
        obtain ⟨rfl,rfl,rfl,rfl⟩:=H
        have hnb108:=NB313_301.out
        have hnc108:=NB301_313.out
        have hnb109:=NB313_0.out
        have hnc109:=NB0_313.out
        have hcz110_0 : wr.cell? ⟨gb313,0,none⟩ = some (.string x314000_2):=(c_ BK313.out 0).trans rfl
        have hcz110_1 : wr.cell? ⟨gb313,1,none⟩ = some (u314001):=(c_ BK313.out 1).trans rfl
        have hfz110_0:=f_ BK313.out 0
        have hfz110_1:=f_ BK313.out 1
        try go_wp2_with (first|((with_reducible refine gate_callee (f:=24) rfl ?_);refine goesL_ (some 64) rfl rfl Tryz.func24 (by kernel_rfl) rfl #[.pointer (some ⟨g,0,none⟩),.int .i64 20] rfl lens ?_;(with_reducible refine (spec_l6Rd_pick.calls k2 g s0_0 x1001_2 20 t330 t331 w0 _ ?side1 ?side2 A59.out).mono ?_);(case side1=>repeat (first|(with_reducible first|exact HI0.out|apply IsS56.alloc|apply IsS56.drewN|apply IsS56.drew|apply IsS56.set_1|refine IsS56.far ?_ NB0_301.out _|refine IsS56.far ?_ NB0_313.out _)|exact HI0.out));(case side2=>exact puO HB.out (IsS56.ge HI0.out) GE301.out GE313.out);rintro e w111 ⟨rfl,hi,hb,hk⟩;refine ⟨_,rfl,?_⟩;have n0_:=m_ (Kd.Q_mono (Kd.Q_keep (IsS56.apartQ (show IsS56 w0 _ g s0_0 x1001_2 from by repeat (first|(with_reducible first|exact HI0.out|apply IsS56.alloc|apply IsS56.drewN|apply IsS56.drew|apply IsS56.set_1|refine IsS56.far ?_ NB0_301.out _|refine IsS56.far ?_ NB0_313.out _)|exact HI0.out)) (puQ HO_4.out) (by decide)) hk (fun _ h=>h.2)) (fun _ h=>h.1));have n1_:=m_ (Kd.R_mono (Kd.R_keep (IsS56.apart (show IsS56 w0 _ g s0_0 x1001_2 from by repeat (first|(with_reducible first|exact HI0.out|apply IsS56.alloc|apply IsS56.drewN|apply IsS56.drew|apply IsS56.set_1|refine IsS56.far ?_ NB0_301.out _|refine IsS56.far ?_ NB0_313.out _)|exact HI0.out)) (puR HO_314001.out) (by decide)) hk (fun _ h=>h.2)) (fun _ h=>h.1));have n2_:=m_ (KeepBut.blk hk (g':=gb301) (o:=.cells #[.string (⟨#[]⟩ : ByteArray),.slice none 0 0] 25 (0,0)) (puB BK301.out) NB301_0.out (by simp));have n3_:=m_ (KeepBut.blk hk (g':=gb313) (o:=.cells #[.string x314000_2,u314001] 25 (0,0)) (puB BK313.out) NB313_0.out (by simp));have n4_:=m_ (KeepBut.trans (puW HK.out GW301.out GW313.out) hk (.inl rfl));have n5_:=m_ (hb);have n6_:=m_ (hi);revert n0_ n1_ n2_ n3_ n4_ n5_ n6_;clear HO_4 HO_314001 BK301 BK313 HK HB HI0;intro HO_4 HO_314001 BK301 BK313 HK HB HI0;(try clear hb);(try clear hb2);(try clear hk);(try clear hi)))
        have n0_:=m_ (Kd.Q_drew HO_4.out)
        have n1_:=m_ (Kd.R_drew HO_314001.out)
        have n2_:=m_ (b2_ BK301.out)
        have n3_:=m_ (b2_ BK313.out)
        have n4_:=m_ (IsS56.drew HI0.out)
        have n5_:=m_ (keep_drew HK.out)
        have n6_:=m_ (l3_ HB.out)
        clear HO_4
        clear HO_314001
        clear BK301
        clear BK313
        clear HI0
        clear HK
        clear HB
        have HO_4:=n0_
        have HO_314001:=n1_
        have BK301:=n2_
        have BK313:=n3_
        have HI0:=n4_
        have HK:=n5_
        have HB:=n6_
        clear n0_ n1_ n2_ n3_ n4_ n5_ n6_
        obtain ⟨Ao114,co114,eo114⟩:=Kd.R_slice HO_314001.out
        (first|subst eo114|(injection eo114 with f1_ f2_ f3_;have f4_:=f1_.symm;have f5_:=f3_.symm;clear f1_ f2_ f3_;subst f4_;subst f5_))
        refine start_ (n:=4) (S:=fun w'=>w'.cell? ⟨gb313,0,none⟩ = some (.string x314000_2) ∧ w'.cell? ⟨gb313,1,none⟩ = some (.slice Ao114 x314001_2.length co114)) (ds:=[]) #[false,false,false,false] (by kernel_rfl) rfl rfl ⟨(c_ BK313.out 0).trans rfl,(c_ BK313.out 1).trans rfl⟩ (fun hHeld=>?_)
        generalize w111.drew = w112 at HO_4 HO_314001 BK301 BK313 HI0 HK HB hHeld ⊢
        refine pureK 0 (some 87) ?_
        refine pureK 2 (some 2) ?_
        refine take_ (i:=1) (N:=some 88) (v:=?_) (a':=?_) #[true,true,true,false] rfl rfl (by kernel_rfl) (fun _ _ _ h=>h) (Or.inl ⟨by rfl,?_⟩) hHeld ?_ ?_
        rotate_left
        ·rintro w' ⟨s0,s1⟩
         go_simp
         with_reducible rfl
        rotate_left
        ·simp only [Act.put,s1_,s2_,s3_,i64_w,i32_w]
         rfl
        refine one_ (i:=3) (N:=none) #[true,true,true,true] rfl rfl (by kernel_rfl) (by decide) (fun K hK=>?_)
        have hs113 : w112.cell? ⟨gb301,0,none⟩ = some (.string (⟨#[]⟩ : ByteArray)):=(c_ BK301.out 0).trans rfl
        have hfs113:=f_ BK301.out 0
        have hns113_1:=NB313_301.out
        have hms113_1:=NB301_313.out
        have hs115 : w112.cell? ⟨gb301,1,none⟩ = some (.slice none 0 0):=(c_ BK301.out 1).trans rfl
        have hfs115:=f_ BK301.out 1
        have hns115_1:=NB313_301.out
        have hms115_1:=NB301_313.out
        refine skip_ (w1:=?_) (by rfl) rfl ?_ ?_
        rotate_left
        ·go_simp
         rfl
        refine hK.out _ _ ⟨((cell_far (p:=⟨gb301,_,none⟩) NB313_301.out _).trans (((cell_far (p:=⟨gb301,_,none⟩) NB313_301.out _).trans (hHeld.1)))),((cell_far (p:=⟨gb301,_,none⟩) NB313_301.out _).trans (((cell_far (p:=⟨gb301,_,none⟩) NB313_301.out _).trans (hHeld.2))))⟩ (fun hHeld=>?_)
        clear hK K
        refine done_ (by kernel_rfl) ?_
        try go_wp2
        refine bodyPost_ret (results_tc rfl _ _ gb301 25 #[.string x314000_2,.slice Ao114 x314001_2.length co114] (0,0) _ rfl (by (with_reducible repeat first|apply b1_|apply b2_|apply b3_);refine blk_put (cs:=#[.string x314000_2,.slice none 0 0]) ?_ 1 _ rfl;(with_reducible repeat first|apply b1_|apply b2_|apply b3_);refine blk_put (cs:=#[.string (⟨#[]⟩ : ByteArray),.slice none 0 0]) ?_ 0 _ rfl;(with_reducible repeat first|apply b1_|apply b2_|apply b3_);exact BK301.out) Tryz.underlying25 rfl (by kernel_rfl)) rfl ?_
        exact ⟨_,_,eqs,by (with_reducible repeat (first|apply Kd.Q_alloc|apply Kd.Q_drewN|apply Kd.Q_drew));exact Kd.Q_mono (Kd.Q_far (p:=⟨gb301,1,none⟩) (Kd.Q_far (p:=⟨gb301,0,none⟩) (Kd.Q_types HO_4.out BK301.out (by decide)) (fun _ hk=>hk.2) (.string x314000_2)) (fun _ hk=>hk.2) (.slice Ao114 x314001_2.length co114)) (fun _ hk=>trivial),by (with_reducible repeat (first|apply Kd.R_alloc|apply Kd.R_drewN|apply Kd.R_drew));exact Kd.R_mono (Kd.R_far (p:=⟨gb301,1,none⟩) (Kd.R_far (p:=⟨gb301,0,none⟩) (Kd.R_types HO_314001.out BK301.out (by decide)) (fun _ hk=>hk.2) (.string x314000_2)) (fun _ hk=>hk.2) (.slice Ao114 x314001_2.length co114)) (fun _ hk=>trivial),by repeat (first|(with_reducible first|exact HI0.out|apply IsS56.alloc|apply IsS56.drewN|apply IsS56.drew|apply IsS56.set_1|refine IsS56.far ?_ NB0_301.out _|refine IsS56.far ?_ NB0_313.out _)|exact HI0.out),puO HB.out (IsS56.ge HI0.out) GE301.out GE313.out,puW HK.out GW301.out GW313.out⟩

end Go.Proofs.YtkcjmmhleepjeaaGreatDoor.A
