-- Printed by myprint.py (wip/tools) out of the translation. Not trusted: Lean checks it.
import Derived.Test.YtkcjmmhleepjeaaGreatDoorAx0
import Derived.Test.YtkcjmmhleepjeaaGreatDoorAx15
namespace Go.Proofs.YtkcjmmhleepjeaaGreatDoor.A
open Go.RowKit Go.Proofs.YtkcjmmhleepjeaaGreatDoorW.PrintWords Go.Proofs.YtkcjmmhleepjeaaGreatDoorW.PrintLast Go.Proofs.YtkcjmmhleepjeaaGreatDoorW.PrintMore
attribute [local go_sem] max2_int min2_int max_two min_two max_three min_three max_four min_four
set_option linter.unusedVariables false
set_option linter.unusedSimpArgs false

/-! ### spec_StreamOk: function 11 -/
mutual
def spec_StreamOk.j0 : Nat → List (S51) → Bool → ByteArray → List (S31) → Option (Bool)
 | 0, _, _, _, _ => none
 | k + 1, x3, x19, x461000, x461001 => if x19 = true then (some false) else (spec_StreamOk.l0 k x3 0 x461000 x461001)
def spec_StreamOk.l0 : Nat → List (S51) → Int → ByteArray → List (S31) → Option (Bool)
 | 0, _, _, _, _ => none
 | k + 1, x3, x4, x461000, x461001 => if x4 < (x3.length : Int) then (if 0 ≤ x4 then (if x4 < (x461001.length : Int) then (if ((rd_T31 x461001 x4).f0) = ((rd_T51 x3 x4).f0) then (if (((rd_T31 x461001 x4).f1).size : Int) > 6 then (some false) else (if ((rd_T31 x461001 x4).f1).toList = ([] : List UInt8) then (some false) else ((spec_TextOk.f k ((rd_T31 x461001 x4).f1)).bind fun t470 => (if t470 = true then (spec_StreamOk.l0 k x3 (wrap64 (x4 + 1)) x461000 x461001) else (some false))))) else (some false)) else (none)) else (none)) else (some true)
end
def spec_StreamOk.f (k : Nat) (a0_0 : ByteArray) (l0_1 : List (S31)) : Option (Bool) := (spec_TextPieces.f k a0_0).bind fun t461 => ((spec_TextOk.f k a0_0).bind fun t464 => (if t464 = true then (spec_StreamOk.j0 k t461 ((t461.length : Int) != (l0_1.length : Int)) a0_0 l0_1) else (spec_StreamOk.j0 k t461 true a0_0 l0_1)))
theorem spec_StreamOk.mono_l : ∀ k, (∀ y0 y1 y2 y3, LeO (spec_StreamOk.j0 k y0 y1 y2 y3) (spec_StreamOk.j0 (k + 1) y0 y1 y2 y3)) ∧ (∀ y0 y1 y2 y3, LeO (spec_StreamOk.l0 k y0 y1 y2 y3) (spec_StreamOk.l0 (k + 1) y0 y1 y2 y3))
 | 0 => ⟨fun _ _ _ _ r h => by simp [spec_StreamOk.j0] at h, fun _ _ _ _ r h => by simp [spec_StreamOk.l0] at h⟩
 | k + 1 => by
  obtain ⟨ih0,ih1⟩:=spec_StreamOk.mono_l k
  refine ⟨?_,?_⟩
  ·intro y0 y1 y2 y3
   unfold spec_StreamOk.j0
   exact leo4 ih0 ih1 spec_TextOk.mono spec_TextPieces.mono
  ·intro y0 y1 y2 y3
   unfold spec_StreamOk.l0
   exact leo4 ih0 ih1 spec_TextOk.mono spec_TextPieces.mono
theorem spec_StreamOk.mono : ∀ a0 a1 k, LeO (spec_StreamOk.f k a0 a1) (spec_StreamOk.f (k + 1) a0 a1) := by
 intro a0 a1 k
 obtain ⟨ih0,ih1⟩:=spec_StreamOk.mono_l k
 unfold spec_StreamOk.f
 exact leo4 ih0 ih1 spec_TextOk.mono spec_TextPieces.mono
def spec_StreamOk.T7 : Bool × List (List Nat × List Nat) := (true, [([], []), ([0], [0]), ([], []), ([1, 2], [1, 2]), ([3], [3]), ([4], [4]), ([], []), ([], []), ([6, 7], [6, 7]), ([8], [8]), ([9], [9]), ([5, 10], [5, 10]), ([11], [11]), ([12], [12]), ([13, 12], [12, 13]), ([12], [12]), ([14, 15, 12], [12, 14, 15]), ([16, 12], [12, 16]), ([17, 12], [12, 17]), ([18, 12], [12, 18]), ([19, 12], [12, 19]), ([12, 20], [12, 20]), ([21, 12], [21]), ([22], [22]), ([23, 22], [22, 23]), ([22], [22]), ([24, 25, 22], [22, 24, 25]), ([26, 22], [22, 26]), ([27, 22], [22, 27]), ([28, 22], [22, 28]), ([22, 29], [22, 29]), ([30, 22], [30]), ([31], [31]), ([32, 31], [31, 32]), ([31], [31]), ([33, 34, 31], [31, 33, 34]), ([35, 31], [31, 35]), ([36, 31], [31, 36]), ([37, 31, 31], [31, 37]), ([38, 31], [31, 38]), ([31, 39], [31, 39])])
def spec_StreamOk.B7 : List Nat := [0, 1, 0, 7, 15, 31, 0, 0, 192, 448, 960, 2047, 4095, 8191, 16383, 8191, 65535, 131071, 262143, 524287, 1048575, 2097151, 4194303, 8388607, 16777215, 8388607, 67108863, 134217727, 268435455, 536870911, 1073741823, 2147483647, 4294967295, 8589934591, 4294967295, 34359738367, 68719476735, 137438953471, 274877906943, 549755813887, 1099511627775]
theorem spec_StreamOk.tab7 : rtab .any (opsOf Tryz.f11 7) = spec_StreamOk.T7 := by kernel_rfl
theorem spec_StreamOk.bits7 : waitsOk spec_StreamOk.T7.2 spec_StreamOk.B7 = true := by kernel_rfl
set_option maxHeartbeats 8000000 in
set_option maxRecDepth 100000 in
theorem spec_StreamOk.calls (k : Nat) (a0_0 : ByteArray) (A0_1 : Option Addr) (c0_1 : Nat) (l0_1 : List (S31)) (r : Bool) (w : World) (hr0_1 : Kd.C k31 w A0_1 l0_1.length l0_1) (hc0_1 : l0_1.length ≤ c0_1) (h : spec_StreamOk.f k a0_0 l0_1 = some r) :
  Calls Tryz.prog 11 #[.agg #[.string a0_0,.slice A0_1 l0_1.length c0_1]] w fun e w'=>e = .returned (.bool r) ∧ Below w.heap.size w w':=by
 have hu25:=Tryz.underlying25
 have HR0_1:=m_ hr0_1
 have HC0_1:=m_ hc0_1
 clear hr0_1 hc0_1
 have HB:=m_ (Below.refl w.heap.size w)
 have H : ((spec_TextPieces.f k a0_0).bind fun t461=>((spec_TextOk.f k a0_0).bind fun t464=>(if t464 = true then (spec_StreamOk.j0 k t461 ((t461.length : Int) != (l0_1.length : Int)) a0_0 l0_1) else (spec_StreamOk.j0 k t461 true a0_0 l0_1)))) = some r:=h
 clear h
 replace H:=Option.bind_eq_some_iff.mp H
 obtain ⟨t461,A20,H⟩:=H
 have A2:=m_ A20
 clear A20
 have HC3:=m_ H
 clear H
 go_enter Tryz.func11,Tryz.ntmps11
 go_upto_region 2 with (first|((with_reducible refine gate_dst (N:=1) rfl ?_);(try (refine gate_guard (by rfl) ?_;dsimp only));refine box_event ?hg (N:=1) ?hd (cs:=#[.string a0_0,.slice A0_1 l0_1.length c0_1]) (t:=25) ?hr ?_;(case hd=>rfl);(case hg=>rfl);(case hr=>first|(go_simp;done)|(go_simp;rfl));intro gb460 hg w4 hbox hb;have n0_:=m_ (l5_ (puL HB.out) hb);have n1_:=m_ (hbox);have n2_:=m_ ((by rw [hg];exact (l6_ (puL HB.out)) : w.heap.size ≤ gb460));have n3_:=m_ ((by rw [hg];exact (l6_ (puL HB.out)) : w.heap.size ≤ gb460));revert n0_ n1_ n2_ n3_;clear HB;intro HB BK460 GW460 GE460;clear hb hbox hg;have hcz5_0 : w4.cell? ⟨gb460,0,none⟩ = some (.string a0_0):=(c_ BK460.out 0).trans rfl;have hcz5_1 : w4.cell? ⟨gb460,1,none⟩ = some (.slice A0_1 l0_1.length c0_1):=(c_ BK460.out 1).trans rfl)|((with_reducible refine gate_callee (f:=29) rfl ?_);refine goesL_ (some 7) rfl rfl Tryz.func29 (by kernel_rfl) rfl #[.string a0_0] rfl lens ?_;(with_reducible refine (spec_TextPieces.calls k a0_0 t461 _ A2.out).mono ?_);rintro e w6 ⟨v462,rfl,ho0,hb⟩;refine ⟨_,rfl,?_⟩;have n0_:=m_ (Kd.R_lower ho0 (l6_ (puM HB.out GE460.out)));have n1_:=m_ (blk_below (g:=gb460) (o:=.cells #[.string a0_0,.slice A0_1 l0_1.length c0_1] 25 (0,0)) (puB BK460.out) hb);have n2_:=m_ (l5_ (puM HB.out GE460.out) hb);revert n0_ n1_ n2_;clear BK460 HB;intro HO463 BK460 HB;(try clear hb);(try clear hb2);(try clear hk);(try clear hi);(try clear ho0)))
 (try simp only [Act.put,s1_,s2_,s3_])
 go_cut [19] (fun v19 wc=>∃ (kq : Nat) (x19_2 : Bool),v19 = .bool x19_2 ∧ Aside0 (spec_StreamOk.j0 kq t461 x19_2 a0_0 l0_1 = some r) ∧ Aside0 (kq ≤ k) ∧ Aside0 (Kd.R k51 51 wc w.heap.size (fun _=>True) v462 t461) ∧ Aside0 (wc.heap[gb460]? = some (.cells #[.string a0_0,(.slice A0_1 l0_1.length c0_1)] 25 (0,0))) ∧ Aside0 (Below w.heap.size w wc))
 case first =>
  have H:=HC3.out
  clear HC3
  replace H:=Option.bind_eq_some_iff.mp H
  obtain ⟨t464,A70,H⟩:=H
  have A7:=m_ A70
  clear A70
  by_cases c8 : t464 = true
  ·subst c8
   replace H:=ifp H rfl
   have H':=m_ H
   clear H
   have hcz9_0 : w6.cell? ⟨gb460,0,none⟩ = some (.string a0_0):=(c_ BK460.out 0).trans rfl
   have hcz9_1 : w6.cell? ⟨gb460,1,none⟩ = some (.slice A0_1 l0_1.length c0_1):=(c_ BK460.out 1).trans rfl
   go_wp2_with (first|((with_reducible refine gate_callee (f:=30) rfl ?_);refine goesL_ (some 10) rfl rfl Tryz.func30 (by kernel_rfl) rfl #[.string a0_0] rfl lens ?_;(with_reducible refine (spec_TextOk.calls k a0_0 true _ A7.out).mono ?_);rintro e w' ⟨rfl,⟨nd,rfl⟩⟩;refine ⟨_,rfl,?_⟩;obtain ⟨Ao10,co10,eo10⟩:=Kd.R_slice HO463.out;subst eo10))
   go_meet
   case rel=>exact ⟨_,(((t461.length : Int) != (l0_1.length : Int))),(by first|rfl|(simp;done)|(simp [*];done)),H',⟨by first|omega|exact Nat.le_refl _⟩,⟨by (with_reducible repeat (first|apply Kd.R_alloc|apply Kd.R_drewN|apply Kd.R_drew));exact HO463.out⟩,⟨by (with_reducible repeat first|apply b1_|apply b2_|apply b3_);exact BK460.out⟩,⟨puM HB.out GE460.out⟩⟩
  ·replace c8:=Bool.eq_false_iff.mpr c8
   subst c8
   replace H:=ifn H
   have H':=m_ H
   clear H
   have hcz11_0 : w6.cell? ⟨gb460,0,none⟩ = some (.string a0_0):=(c_ BK460.out 0).trans rfl
   have hcz11_1 : w6.cell? ⟨gb460,1,none⟩ = some (.slice A0_1 l0_1.length c0_1):=(c_ BK460.out 1).trans rfl
   go_wp2_with (first|((with_reducible refine gate_callee (f:=30) rfl ?_);refine goesL_ (some 10) rfl rfl Tryz.func30 (by kernel_rfl) rfl #[.string a0_0] rfl lens ?_;(with_reducible refine (spec_TextOk.calls k a0_0 false _ A7.out).mono ?_);rintro e w' ⟨rfl,⟨nd,rfl⟩⟩;refine ⟨_,rfl,?_⟩))
   go_meet
   case rel=>exact ⟨_,(true),(by first|rfl|(simp;done)|(simp [*];done)),H',⟨by first|omega|exact Nat.le_refl _⟩,⟨by (with_reducible repeat (first|apply Kd.R_alloc|apply Kd.R_drewN|apply Kd.R_drew));exact HO463.out⟩,⟨by (with_reducible repeat first|apply b1_|apply b2_|apply b3_);exact BK460.out⟩,⟨puM HB.out GE460.out⟩⟩
 case rest =>
  clear HC3
  try clear c1
  try clear c2
  try clear p2
  try clear c3
  try clear c8
  try clear c11
  try clear hcz11_0
  try clear hcz11_1
  try clear hcz5_0
  try clear hcz5_1
  try clear hcz9_0
  try clear hcz9_1
  try clear hfz11_0
  try clear hfz11_1
  try clear hfz5_0
  try clear hfz5_1
  try clear hfz9_0
  try clear hfz9_1
  obtain ⟨kq,x19_2,rfl,HA,HJ2,HO_3,BK460,HB⟩:=hcut
  cases kq with
  | zero => exact absurd HA.out (by simp [spec_StreamOk.j0])
  | succ kj2 =>
   have H:=HA.out
   clear HA
   simp only [spec_StreamOk.j0] at H
   by_cases c12 : x19_2 = true
   ·subst c12
    replace H:=ifp H rfl
    obtain rfl:=Option.some.inj H
    go_wp2
    go_ret
    exact ⟨eqs,puM HB.out GE460.out⟩
   ·replace c12:=Bool.eq_false_iff.mpr c12
    subst c12
    replace H:=ifn H
    have H':=m_ H
    clear H
    go_wp2
    go_loopg [4] kj2 (fun kq v4 w'=>∃ (x4_2 : Int),v4 = .int .i64 x4_2 ∧ Aside0 (spec_StreamOk.l0 kq t461 x4_2 a0_0 l0_1 = some r) ∧ Aside0 (kq ≤ kj2) ∧ Aside0 (Kd.R k51 51 w' w.heap.size (fun _=>True) v462 t461) ∧ Aside0 (w'.heap[gb460]? = some (.cells #[.string a0_0,(.slice A0_1 l0_1.length c0_1)] 25 (0,0))) ∧ Aside0 (Below w.heap.size w w'))
    case atStart=>exact ⟨(0),(by first|rfl|(simp;done)|(simp [*];done)),H',⟨Nat.le_refl _⟩,⟨by (with_reducible repeat (first|apply Kd.R_alloc|apply Kd.R_drewN|apply Kd.R_drew));exact HO_3.out⟩,⟨by (with_reducible repeat first|apply b1_|apply b2_|apply b3_);exact BK460.out⟩,⟨puM HB.out GE460.out⟩⟩
    case round =>
     clear H'
     try clear c1
     try clear c2
     try clear p2
     try clear c3
     try clear c8
     try clear c11
     try clear c12
     try clear hcz11_0
     try clear hcz11_1
     try clear hcz5_0
     try clear hcz5_1
     try clear hcz9_0
     try clear hcz9_1
     try clear hfz11_0
     try clear hfz11_1
     try clear hfz5_0
     try clear hfz5_1
     try clear hfz9_0
     try clear hfz9_1
     try clear p2
     obtain ⟨x4_2,rfl,HA,HK2,HO_3,BK460,HB⟩:=hrel
     cases gk with
     | zero => exact absurd HA.out (by simp [spec_StreamOk.l0])
     | succ k2 =>
      have H:=HA.out
      clear HA
      simp only [spec_StreamOk.l0] at H
      by_cases c13 : x4_2 < (t461.length : Int)
      ·rw [if_pos c13] at H
       have c13b0 : decide (x4_2 < (t461.length : Int)) = true:=decide_eq_true c13
       clear c13
       by_cases c14 : 0 ≤ x4_2
       rotate_left
       ·rw [if_neg c14] at H
        exact absurd H (by simp)
       rw [if_pos c14] at H
       have c14b0 : decide (0 ≤ x4_2) = true:=decide_eq_true c14
       clear c14
       by_cases c15 : x4_2 < (l0_1.length : Int)
       rotate_left
       ·rw [if_neg c15] at H
        exact absurd H (by simp)
       rw [if_pos c15] at H
       have c15b0 : decide (x4_2 < (l0_1.length : Int)) = true:=decide_eq_true c15
       clear c15
       by_cases c16 : ((rd_T31 l0_1 x4_2).f0) = ((rd_T51 t461 x4_2).f0)
       ·rw [if_pos c16] at H
        have c16b0 : (((rd_T31 l0_1 x4_2).f0) == ((rd_T51 t461 x4_2).f0)) = true:=beq_iff_eq.mpr c16
        have c16b1 : (((rd_T31 l0_1 x4_2).f0) != ((rd_T51 t461 x4_2).f0)) = false:=bne_eq_false_iff_eq.mpr c16
        clear c16
        by_cases c17 : (((rd_T31 l0_1 x4_2).f1).size : Int) > 6
        ·rw [if_pos c17] at H
         have c17b0 : decide (6 < (((rd_T31 l0_1 x4_2).f1).size : Int)) = true:=decide_eq_true c17
         have c17b1 : decide (6 < ((rd_T31 l0_1 x4_2).f1).size) = true:=decide_eq_true (by omega)
         clear c17
         obtain rfl:=Option.some.inj H
         obtain ⟨Ao18,co18,eo18⟩:=Kd.R_slice HO_3.out
         subst eo18
         try go_wp2
         have n0_:=m_ (Kd.R_drew HO_3.out)
         have n1_:=m_ (b2_ BK460.out)
         have n2_:=m_ (l3_ HB.out)
         clear HO_3
         clear BK460
         clear HB
         have HO_3:=n0_
         have BK460:=n1_
         have HB:=n2_
         clear n0_ n1_ n2_
         have p465 : 0 ≤ (x4_2 : Int):=of_decide_eq_true asm
         have q465 : x4_2 < (l0_1.length : Int):=of_decide_eq_true asm
         obtain ⟨ad465,e465,hx465_0,hx465_1⟩:=at_T31 HR0_1.out x4_2 p465 q465
         have hw465_1:=hx465_1
         have hw465_0:=hx465_0
         cases e465
         replace hx465_0:=(HB.out.cell (World.block_lt_of_cell? w _ hx465_0)).trans hx465_0
         replace hx465_1:=(HB.out.cell (World.block_lt_of_cell? w _ hx465_1)).trans hx465_1
         replace p465:=eq_true p465
         replace q465:=eq_true q465
         have p466 : 0 ≤ (x4_2 : Int):=of_decide_eq_true asm
         have q466 : x4_2 < (t461.length : Int):=of_decide_eq_true asm
         obtain ⟨ad466,e466,hx466_0,hx466_1,hx466_2,hx466_3⟩:=at_T51 (Kd.R_reads' HO_3.out).2.2 x4_2 p466 q466
         cases e466
         replace p466:=eq_true p466
         replace q466:=eq_true q466
         have p467 : 0 ≤ (x4_2 : Int):=of_decide_eq_true asm
         have q467 : x4_2 < (l0_1.length : Int):=of_decide_eq_true asm
         obtain ⟨ad467,e467,hx467_0,hx467_1⟩:=at_T31 HR0_1.out x4_2 p467 q467
         have hw467_1:=hx467_1
         have hw467_0:=hx467_0
         obtain rfl : ad465 = ad467:=(by injection e467)
         replace hx467_0:=(HB.out.cell (World.block_lt_of_cell? w _ hx467_0)).trans hx467_0
         replace hx467_1:=(HB.out.cell (World.block_lt_of_cell? w _ hx467_1)).trans hx467_1
         replace p467:=eq_true p467
         replace q467:=eq_true q467
         refine start_ (n:=41) (S:=fun w'=>w'.cell? ⟨gb460,0,none⟩ = some (.string a0_0) ∧ w'.cell? ⟨gb460,1,none⟩ = some (.slice (some ad465) l0_1.length c0_1) ∧ w'.cell? (ad465.add ((x4_2).toNat * 2)) = some (.int .i64 ((rd_T31 l0_1 x4_2).f0)) ∧ w'.cell? ⟨(ad465.add ((x4_2).toNat * 2)).block,(ad465.add ((x4_2).toNat * 2)).off + 1,none⟩ = some (.string ((rd_T31 l0_1 x4_2).f1)) ∧ w'.cell? (ad466.add ((x4_2).toNat * 4)) = some (.int .i64 ((rd_T51 t461 x4_2).f0)) ∧ w'.cell? ⟨(ad466.add ((x4_2).toNat * 4)).block,(ad466.add ((x4_2).toNat * 4)).off + 1,none⟩ = some (.bool ((rd_T51 t461 x4_2).f1)) ∧ w'.cell? ⟨(ad466.add ((x4_2).toNat * 4)).block,(ad466.add ((x4_2).toNat * 4)).off + 2,none⟩ = some (.int .i64 ((rd_T51 t461 x4_2).f2.f0)) ∧ w'.cell? ⟨(ad466.add ((x4_2).toNat * 4)).block,(ad466.add ((x4_2).toNat * 4)).off + 3,none⟩ = some (.int .i64 ((rd_T51 t461 x4_2).f2.f1)) ∧ w'.cell? (ad465.add ((x4_2).toNat * 2)) = some (.int .i64 ((rd_T31 l0_1 x4_2).f0)) ∧ w'.cell? ⟨(ad465.add ((x4_2).toNat * 2)).block,(ad465.add ((x4_2).toNat * 2)).off + 1,none⟩ = some (.string ((rd_T31 l0_1 x4_2).f1))) (ds:=[]) #[false,false,false,false,false,false,false,false,false,false,false,false,false,false,false,false,false,false,false,false,false,false,false,false,false,false,false,false,false,false,false,false,false,false,false,false,false,false,false,false,false] (by kernel_rfl) rfl rfl ⟨(c_ BK460.out 0).trans rfl,(c_ BK460.out 1).trans rfl,((HB.out.cell (World.block_lt_of_cell? w _ hw465_0)).trans hw465_0),((HB.out.cell (World.block_lt_of_cell? w _ hw465_1)).trans hw465_1),hx466_0,hx466_1,hx466_2,hx466_3,((HB.out.cell (World.block_lt_of_cell? w _ hw467_0)).trans hw467_0),((HB.out.cell (World.block_lt_of_cell? w _ hw467_1)).trans hw467_1)⟩ (fun hHeld=>?_);refine with_tabW spec_StreamOk.tab7 spec_StreamOk.bits7 (fun HT_ HW_=>?_)
         generalize wr.drew = w19 at HO_3 BK460 HB hx465_0 hx465_1 hx466_0 hx466_1 hx466_2 hx466_3 hx467_0 hx467_1 hHeld ⊢
         refine pureA 0 (some 26) HT_.out ?_
         refine pureA 2 (some 28) HT_.out ?_
         refine pureA 6 (some 32) HT_.out ?_
         refine pureA 7 (some 33) HT_.out ?_
         refine pureA 8 (some 34) HT_.out ?_
         refine pureA 9 (some 35) HT_.out ?_
         refine takeA 1 (some 27) rfl rfl HT_.out HW_.out hHeld ?_ (by rintro w' ⟨s0,s1,s2,s3,s4,s5,s6,s7,s8,s9⟩;go_simp;with_reducible rfl)
         refine pureA 3 (some 29) HT_.out ?_
         refine pureA 4 (some 30) HT_.out ?_
         refine takeA 5 (some 31) rfl rfl HT_.out HW_.out hHeld ?_ (by rintro w' ⟨s0,s1,s2,s3,s4,s5,s6,s7,s8,s9⟩;go_simp;with_reducible rfl)
         refine takeA 10 (some 36) rfl rfl HT_.out HW_.out hHeld ?_ (by rintro w' ⟨s0,s1,s2,s3,s4,s5,s6,s7,s8,s9⟩;go_simp;with_reducible rfl)
         refine pureA 11 (some 37) HT_.out ?_
         refine pureA 12 (some 38) HT_.out ?_
         refine pureA 13 (some 39) HT_.out ?_
         refine pureA 15 (some 41) HT_.out ?_
         refine takeA 14 (some 40) rfl rfl HT_.out HW_.out hHeld ?_ (by rintro w' ⟨s0,s1,s2,s3,s4,s5,s6,s7,s8,s9⟩;go_simp;with_reducible rfl)
         refine pureA 16 (some 42) HT_.out ?_
         refine pureA 17 (some 43) HT_.out ?_
         refine takeA 18 (some 44) rfl rfl HT_.out HW_.out hHeld ?_ (by rintro w' ⟨s0,s1,s2,s3,s4,s5,s6,s7,s8,s9⟩;go_simp;with_reducible rfl)
         refine pureA 19 (some 45) HT_.out ?_
         refine pureA 20 (some 46) HT_.out ?_
         refine pureA 21 (some 47) HT_.out ?_
         refine pureA 22 (some 48) HT_.out ?_
         refine pureU 23 (some 49) HT_.out ?_
         refine pureU 24 (some 50) HT_.out ?_
         refine pureU 25 (some 51) HT_.out ?_
         refine pureU 26 (some 52) HT_.out ?_
         refine pureU 27 (some 53) HT_.out ?_
         refine pureU 28 (some 54) HT_.out ?_
         refine pureU 29 (some 55) HT_.out ?_
         refine pureA 30 (some 56) HT_.out ?_
         refine pureA 31 (some 57) HT_.out ?_
         refine pureU 32 (some 58) HT_.out ?_
         refine pureU 33 (some 59) HT_.out ?_
         refine pureU 34 (some 60) HT_.out ?_
         refine pureU 35 (some 61) HT_.out ?_
         refine pureU 36 (some 62) HT_.out ?_
         refine pureU 37 (some 63) HT_.out ?_
         refine pureU 38 (some 64) HT_.out ?_
         refine pureU 39 (some 65) HT_.out ?_
         refine pureA 40 (some 66) HT_.out ?_
         refine done_ (done_of HT_.out (by kernel_rfl)) ?_
         try go_wp2
         go_ret
         exact ⟨eqs,puM HB.out GE460.out⟩
        ·rw [if_neg c17] at H
         have c17b0 : decide (6 < (((rd_T31 l0_1 x4_2).f1).size : Int)) = false:=decide_eq_false c17
         have c17b1 : decide (6 < ((rd_T31 l0_1 x4_2).f1).size) = false:=decide_eq_false (by omega)
         clear c17
         by_cases c20 : ((rd_T31 l0_1 x4_2).f1).toList = ([] : List UInt8)
         ·rw [if_pos c20] at H
          have c20b0 : ((rd_T31 l0_1 x4_2).f1).toList.isEmpty = true:=by simpa using c20
          have c20b1 : (((rd_T31 l0_1 x4_2).f1).toList == ([] : List UInt8)) = true:=beq_iff_eq.mpr c20
          have c20b2 : (((rd_T31 l0_1 x4_2).f1).toList != ([] : List UInt8)) = false:=bne_eq_false_iff_eq.mpr c20
          clear c20
          obtain rfl:=Option.some.inj H
          obtain ⟨Ao21,co21,eo21⟩:=Kd.R_slice HO_3.out
          subst eo21
          try go_wp2
          have n0_:=m_ (Kd.R_drew HO_3.out)
          have n1_:=m_ (b2_ BK460.out)
          have n2_:=m_ (l3_ HB.out)
          clear HO_3
          clear BK460
          clear HB
          have HO_3:=n0_
          have BK460:=n1_
          have HB:=n2_
          clear n0_ n1_ n2_
          have p465 : 0 ≤ (x4_2 : Int):=of_decide_eq_true asm
          have q465 : x4_2 < (l0_1.length : Int):=of_decide_eq_true asm
          obtain ⟨ad465,e465,hx465_0,hx465_1⟩:=at_T31 HR0_1.out x4_2 p465 q465
          have hw465_1:=hx465_1
          have hw465_0:=hx465_0
          cases e465
          replace hx465_0:=(HB.out.cell (World.block_lt_of_cell? w _ hx465_0)).trans hx465_0
          replace hx465_1:=(HB.out.cell (World.block_lt_of_cell? w _ hx465_1)).trans hx465_1
          replace p465:=eq_true p465
          replace q465:=eq_true q465
          have p466 : 0 ≤ (x4_2 : Int):=of_decide_eq_true asm
          have q466 : x4_2 < (t461.length : Int):=of_decide_eq_true asm
          obtain ⟨ad466,e466,hx466_0,hx466_1,hx466_2,hx466_3⟩:=at_T51 (Kd.R_reads' HO_3.out).2.2 x4_2 p466 q466
          cases e466
          replace p466:=eq_true p466
          replace q466:=eq_true q466
          have p467 : 0 ≤ (x4_2 : Int):=of_decide_eq_true asm
          have q467 : x4_2 < (l0_1.length : Int):=of_decide_eq_true asm
          obtain ⟨ad467,e467,hx467_0,hx467_1⟩:=at_T31 HR0_1.out x4_2 p467 q467
          have hw467_1:=hx467_1
          have hw467_0:=hx467_0
          obtain rfl : ad465 = ad467:=(by injection e467)
          replace hx467_0:=(HB.out.cell (World.block_lt_of_cell? w _ hx467_0)).trans hx467_0
          replace hx467_1:=(HB.out.cell (World.block_lt_of_cell? w _ hx467_1)).trans hx467_1
          replace p467:=eq_true p467
          replace q467:=eq_true q467
          have p468 : 0 ≤ (x4_2 : Int):=of_decide_eq_true asm
          have q468 : x4_2 < (l0_1.length : Int):=of_decide_eq_true asm
          obtain ⟨ad468,e468,hx468_0,hx468_1⟩:=at_T31 HR0_1.out x4_2 p468 q468
          have hw468_1:=hx468_1
          have hw468_0:=hx468_0
          obtain rfl : ad465 = ad468:=(by injection e468)
          replace hx468_0:=(HB.out.cell (World.block_lt_of_cell? w _ hx468_0)).trans hx468_0
          replace hx468_1:=(HB.out.cell (World.block_lt_of_cell? w _ hx468_1)).trans hx468_1
          replace p468:=eq_true p468
          replace q468:=eq_true q468
          refine start_ (n:=41) (S:=fun w'=>w'.cell? ⟨gb460,0,none⟩ = some (.string a0_0) ∧ w'.cell? ⟨gb460,1,none⟩ = some (.slice (some ad465) l0_1.length c0_1) ∧ w'.cell? (ad465.add ((x4_2).toNat * 2)) = some (.int .i64 ((rd_T31 l0_1 x4_2).f0)) ∧ w'.cell? ⟨(ad465.add ((x4_2).toNat * 2)).block,(ad465.add ((x4_2).toNat * 2)).off + 1,none⟩ = some (.string ((rd_T31 l0_1 x4_2).f1)) ∧ w'.cell? (ad466.add ((x4_2).toNat * 4)) = some (.int .i64 ((rd_T51 t461 x4_2).f0)) ∧ w'.cell? ⟨(ad466.add ((x4_2).toNat * 4)).block,(ad466.add ((x4_2).toNat * 4)).off + 1,none⟩ = some (.bool ((rd_T51 t461 x4_2).f1)) ∧ w'.cell? ⟨(ad466.add ((x4_2).toNat * 4)).block,(ad466.add ((x4_2).toNat * 4)).off + 2,none⟩ = some (.int .i64 ((rd_T51 t461 x4_2).f2.f0)) ∧ w'.cell? ⟨(ad466.add ((x4_2).toNat * 4)).block,(ad466.add ((x4_2).toNat * 4)).off + 3,none⟩ = some (.int .i64 ((rd_T51 t461 x4_2).f2.f1)) ∧ w'.cell? (ad465.add ((x4_2).toNat * 2)) = some (.int .i64 ((rd_T31 l0_1 x4_2).f0)) ∧ w'.cell? ⟨(ad465.add ((x4_2).toNat * 2)).block,(ad465.add ((x4_2).toNat * 2)).off + 1,none⟩ = some (.string ((rd_T31 l0_1 x4_2).f1)) ∧ w'.cell? (ad465.add ((x4_2).toNat * 2)) = some (.int .i64 ((rd_T31 l0_1 x4_2).f0)) ∧ w'.cell? ⟨(ad465.add ((x4_2).toNat * 2)).block,(ad465.add ((x4_2).toNat * 2)).off + 1,none⟩ = some (.string ((rd_T31 l0_1 x4_2).f1))) (ds:=[]) #[false,false,false,false,false,false,false,false,false,false,false,false,false,false,false,false,false,false,false,false,false,false,false,false,false,false,false,false,false,false,false,false,false,false,false,false,false,false,false,false,false] (by kernel_rfl) rfl rfl ⟨(c_ BK460.out 0).trans rfl,(c_ BK460.out 1).trans rfl,((HB.out.cell (World.block_lt_of_cell? w _ hw465_0)).trans hw465_0),((HB.out.cell (World.block_lt_of_cell? w _ hw465_1)).trans hw465_1),hx466_0,hx466_1,hx466_2,hx466_3,((HB.out.cell (World.block_lt_of_cell? w _ hw467_0)).trans hw467_0),((HB.out.cell (World.block_lt_of_cell? w _ hw467_1)).trans hw467_1),((HB.out.cell (World.block_lt_of_cell? w _ hw468_0)).trans hw468_0),((HB.out.cell (World.block_lt_of_cell? w _ hw468_1)).trans hw468_1)⟩ (fun hHeld=>?_);refine with_tabW spec_StreamOk.tab7 spec_StreamOk.bits7 (fun HT_ HW_=>?_)
          generalize wr.drew = w22 at HO_3 BK460 HB hx465_0 hx465_1 hx466_0 hx466_1 hx466_2 hx466_3 hx467_0 hx467_1 hx468_0 hx468_1 hHeld ⊢
          refine pureA 0 (some 26) HT_.out ?_
          refine pureA 2 (some 28) HT_.out ?_
          refine pureA 6 (some 32) HT_.out ?_
          refine pureA 7 (some 33) HT_.out ?_
          refine pureA 8 (some 34) HT_.out ?_
          refine pureA 9 (some 35) HT_.out ?_
          refine takeA 1 (some 27) rfl rfl HT_.out HW_.out hHeld ?_ (by rintro w' ⟨s0,s1,s2,s3,s4,s5,s6,s7,s8,s9,s10,s11⟩;go_simp;with_reducible rfl)
          refine pureA 3 (some 29) HT_.out ?_
          refine pureA 4 (some 30) HT_.out ?_
          refine takeA 5 (some 31) rfl rfl HT_.out HW_.out hHeld ?_ (by rintro w' ⟨s0,s1,s2,s3,s4,s5,s6,s7,s8,s9,s10,s11⟩;go_simp;with_reducible rfl)
          refine takeA 10 (some 36) rfl rfl HT_.out HW_.out hHeld ?_ (by rintro w' ⟨s0,s1,s2,s3,s4,s5,s6,s7,s8,s9,s10,s11⟩;go_simp;with_reducible rfl)
          refine pureA 11 (some 37) HT_.out ?_
          refine pureA 12 (some 38) HT_.out ?_
          refine pureA 13 (some 39) HT_.out ?_
          refine pureA 15 (some 41) HT_.out ?_
          refine takeA 14 (some 40) rfl rfl HT_.out HW_.out hHeld ?_ (by rintro w' ⟨s0,s1,s2,s3,s4,s5,s6,s7,s8,s9,s10,s11⟩;go_simp;with_reducible rfl)
          refine pureA 16 (some 42) HT_.out ?_
          refine pureA 17 (some 43) HT_.out ?_
          refine takeA 18 (some 44) rfl rfl HT_.out HW_.out hHeld ?_ (by rintro w' ⟨s0,s1,s2,s3,s4,s5,s6,s7,s8,s9,s10,s11⟩;go_simp;with_reducible rfl)
          refine pureA 19 (some 45) HT_.out ?_
          refine pureA 20 (some 46) HT_.out ?_
          refine pureA 21 (some 47) HT_.out ?_
          refine pureA 22 (some 48) HT_.out ?_
          refine pureA 23 (some 49) HT_.out ?_
          refine pureA 25 (some 51) HT_.out ?_
          refine takeA 24 (some 50) rfl rfl HT_.out HW_.out hHeld ?_ (by rintro w' ⟨s0,s1,s2,s3,s4,s5,s6,s7,s8,s9,s10,s11⟩;go_simp;with_reducible rfl)
          refine pureA 26 (some 52) HT_.out ?_
          refine pureA 27 (some 53) HT_.out ?_
          refine takeA 28 (some 54) rfl rfl HT_.out HW_.out hHeld ?_ (by rintro w' ⟨s0,s1,s2,s3,s4,s5,s6,s7,s8,s9,s10,s11⟩;go_simp;with_reducible rfl)
          refine pureA 29 (some 55) HT_.out ?_
          refine pureA 30 (some 56) HT_.out ?_
          refine pureA 31 (some 57) HT_.out ?_
          refine pureU 32 (some 58) HT_.out ?_
          refine pureU 33 (some 59) HT_.out ?_
          refine pureU 34 (some 60) HT_.out ?_
          refine pureU 35 (some 61) HT_.out ?_
          refine pureU 36 (some 62) HT_.out ?_
          refine pureU 37 (some 63) HT_.out ?_
          refine pureU 38 (some 64) HT_.out ?_
          refine pureU 39 (some 65) HT_.out ?_
          refine pureA 40 (some 66) HT_.out ?_
          refine done_ (done_of HT_.out (by kernel_rfl)) ?_
          try go_wp2
          go_ret
          exact ⟨eqs,puM HB.out GE460.out⟩
         ·rw [if_neg c20] at H
          have c20b0 : ((rd_T31 l0_1 x4_2).f1).toList.isEmpty = false:=by simpa using c20
          have c20b1 : (((rd_T31 l0_1 x4_2).f1).toList == ([] : List UInt8)) = false:=beq_eq_false_iff_ne.mpr c20
          have c20b2 : (((rd_T31 l0_1 x4_2).f1).toList != ([] : List UInt8)) = true:=bne_iff_ne.mpr c20
          replace H:=Option.bind_eq_some_iff.mp H
          obtain ⟨t470,A230,H⟩:=H
          have A23:=m_ A230
          clear A230
          by_cases c24 : t470 = true
          ·subst c24
           replace H:=ifp H rfl
           have H':=m_ H
           clear H
           obtain ⟨Ao25,co25,eo25⟩:=Kd.R_slice HO_3.out
           subst eo25
           try go_wp2
           have n0_:=m_ (Kd.R_drew HO_3.out)
           have n1_:=m_ (b2_ BK460.out)
           have n2_:=m_ (l3_ HB.out)
           clear HO_3
           clear BK460
           clear HB
           have HO_3:=n0_
           have BK460:=n1_
           have HB:=n2_
           clear n0_ n1_ n2_
           have p465 : 0 ≤ (x4_2 : Int):=of_decide_eq_true asm
           have q465 : x4_2 < (l0_1.length : Int):=of_decide_eq_true asm
           obtain ⟨ad465,e465,hx465_0,hx465_1⟩:=at_T31 HR0_1.out x4_2 p465 q465
           have hw465_1:=hx465_1
           have hw465_0:=hx465_0
           cases e465
           replace hx465_0:=(HB.out.cell (World.block_lt_of_cell? w _ hx465_0)).trans hx465_0
           replace hx465_1:=(HB.out.cell (World.block_lt_of_cell? w _ hx465_1)).trans hx465_1
           replace p465:=eq_true p465
           replace q465:=eq_true q465
           have p466 : 0 ≤ (x4_2 : Int):=of_decide_eq_true asm
           have q466 : x4_2 < (t461.length : Int):=of_decide_eq_true asm
           obtain ⟨ad466,e466,hx466_0,hx466_1,hx466_2,hx466_3⟩:=at_T51 (Kd.R_reads' HO_3.out).2.2 x4_2 p466 q466
           cases e466
           replace p466:=eq_true p466
           replace q466:=eq_true q466
           have p467 : 0 ≤ (x4_2 : Int):=of_decide_eq_true asm
           have q467 : x4_2 < (l0_1.length : Int):=of_decide_eq_true asm
           obtain ⟨ad467,e467,hx467_0,hx467_1⟩:=at_T31 HR0_1.out x4_2 p467 q467
           have hw467_1:=hx467_1
           have hw467_0:=hx467_0
           obtain rfl : ad465 = ad467:=(by injection e467)
           replace hx467_0:=(HB.out.cell (World.block_lt_of_cell? w _ hx467_0)).trans hx467_0
           replace hx467_1:=(HB.out.cell (World.block_lt_of_cell? w _ hx467_1)).trans hx467_1
           replace p467:=eq_true p467
           replace q467:=eq_true q467
           have p468 : 0 ≤ (x4_2 : Int):=of_decide_eq_true asm
           have q468 : x4_2 < (l0_1.length : Int):=of_decide_eq_true asm
           obtain ⟨ad468,e468,hx468_0,hx468_1⟩:=at_T31 HR0_1.out x4_2 p468 q468
           have hw468_1:=hx468_1
           have hw468_0:=hx468_0
           obtain rfl : ad465 = ad468:=(by injection e468)
           replace hx468_0:=(HB.out.cell (World.block_lt_of_cell? w _ hx468_0)).trans hx468_0
           replace hx468_1:=(HB.out.cell (World.block_lt_of_cell? w _ hx468_1)).trans hx468_1
           replace p468:=eq_true p468
           replace q468:=eq_true q468
           have p469 : 0 ≤ (x4_2 : Int):=of_decide_eq_true asm
           have q469 : x4_2 < (l0_1.length : Int):=of_decide_eq_true asm
           obtain ⟨ad469,e469,hx469_0,hx469_1⟩:=at_T31 HR0_1.out x4_2 p469 q469
           have hw469_1:=hx469_1
           have hw469_0:=hx469_0
           obtain rfl : ad465 = ad469:=(by injection e469)
           replace hx469_0:=(HB.out.cell (World.block_lt_of_cell? w _ hx469_0)).trans hx469_0
           replace hx469_1:=(HB.out.cell (World.block_lt_of_cell? w _ hx469_1)).trans hx469_1
           replace p469:=eq_true p469
           replace q469:=eq_true q469
           refine start_ (n:=41) (S:=fun w'=>w'.cell? ⟨gb460,0,none⟩ = some (.string a0_0) ∧ w'.cell? ⟨gb460,1,none⟩ = some (.slice (some ad465) l0_1.length c0_1) ∧ w'.cell? (ad465.add ((x4_2).toNat * 2)) = some (.int .i64 ((rd_T31 l0_1 x4_2).f0)) ∧ w'.cell? ⟨(ad465.add ((x4_2).toNat * 2)).block,(ad465.add ((x4_2).toNat * 2)).off + 1,none⟩ = some (.string ((rd_T31 l0_1 x4_2).f1)) ∧ w'.cell? (ad466.add ((x4_2).toNat * 4)) = some (.int .i64 ((rd_T51 t461 x4_2).f0)) ∧ w'.cell? ⟨(ad466.add ((x4_2).toNat * 4)).block,(ad466.add ((x4_2).toNat * 4)).off + 1,none⟩ = some (.bool ((rd_T51 t461 x4_2).f1)) ∧ w'.cell? ⟨(ad466.add ((x4_2).toNat * 4)).block,(ad466.add ((x4_2).toNat * 4)).off + 2,none⟩ = some (.int .i64 ((rd_T51 t461 x4_2).f2.f0)) ∧ w'.cell? ⟨(ad466.add ((x4_2).toNat * 4)).block,(ad466.add ((x4_2).toNat * 4)).off + 3,none⟩ = some (.int .i64 ((rd_T51 t461 x4_2).f2.f1)) ∧ w'.cell? (ad465.add ((x4_2).toNat * 2)) = some (.int .i64 ((rd_T31 l0_1 x4_2).f0)) ∧ w'.cell? ⟨(ad465.add ((x4_2).toNat * 2)).block,(ad465.add ((x4_2).toNat * 2)).off + 1,none⟩ = some (.string ((rd_T31 l0_1 x4_2).f1)) ∧ w'.cell? (ad465.add ((x4_2).toNat * 2)) = some (.int .i64 ((rd_T31 l0_1 x4_2).f0)) ∧ w'.cell? ⟨(ad465.add ((x4_2).toNat * 2)).block,(ad465.add ((x4_2).toNat * 2)).off + 1,none⟩ = some (.string ((rd_T31 l0_1 x4_2).f1)) ∧ w'.cell? (ad465.add ((x4_2).toNat * 2)) = some (.int .i64 ((rd_T31 l0_1 x4_2).f0)) ∧ w'.cell? ⟨(ad465.add ((x4_2).toNat * 2)).block,(ad465.add ((x4_2).toNat * 2)).off + 1,none⟩ = some (.string ((rd_T31 l0_1 x4_2).f1))) (ds:=[]) #[false,false,false,false,false,false,false,false,false,false,false,false,false,false,false,false,false,false,false,false,false,false,false,false,false,false,false,false,false,false,false,false,false,false,false,false,false,false,false,false,false] (by kernel_rfl) rfl rfl ⟨(c_ BK460.out 0).trans rfl,(c_ BK460.out 1).trans rfl,((HB.out.cell (World.block_lt_of_cell? w _ hw465_0)).trans hw465_0),((HB.out.cell (World.block_lt_of_cell? w _ hw465_1)).trans hw465_1),hx466_0,hx466_1,hx466_2,hx466_3,((HB.out.cell (World.block_lt_of_cell? w _ hw467_0)).trans hw467_0),((HB.out.cell (World.block_lt_of_cell? w _ hw467_1)).trans hw467_1),((HB.out.cell (World.block_lt_of_cell? w _ hw468_0)).trans hw468_0),((HB.out.cell (World.block_lt_of_cell? w _ hw468_1)).trans hw468_1),((HB.out.cell (World.block_lt_of_cell? w _ hw469_0)).trans hw469_0),((HB.out.cell (World.block_lt_of_cell? w _ hw469_1)).trans hw469_1)⟩ (fun hHeld=>?_);refine with_tabW spec_StreamOk.tab7 spec_StreamOk.bits7 (fun HT_ HW_=>?_)
           generalize wr.drew = w26 at HO_3 BK460 HB hx465_0 hx465_1 hx466_0 hx466_1 hx466_2 hx466_3 hx467_0 hx467_1 hx468_0 hx468_1 hx469_0 hx469_1 hHeld ⊢
           refine pureA 0 (some 26) HT_.out ?_
           refine pureA 2 (some 28) HT_.out ?_
           refine pureA 6 (some 32) HT_.out ?_
           refine pureA 7 (some 33) HT_.out ?_
           refine pureA 8 (some 34) HT_.out ?_
           refine pureA 9 (some 35) HT_.out ?_
           refine takeA 1 (some 27) rfl rfl HT_.out HW_.out hHeld ?_ (by rintro w' ⟨s0,s1,s2,s3,s4,s5,s6,s7,s8,s9,s10,s11,s12,s13⟩;go_simp;with_reducible rfl)
           refine pureA 3 (some 29) HT_.out ?_
           refine pureA 4 (some 30) HT_.out ?_
           refine takeA 5 (some 31) rfl rfl HT_.out HW_.out hHeld ?_ (by rintro w' ⟨s0,s1,s2,s3,s4,s5,s6,s7,s8,s9,s10,s11,s12,s13⟩;go_simp;with_reducible rfl)
           refine takeA 10 (some 36) rfl rfl HT_.out HW_.out hHeld ?_ (by rintro w' ⟨s0,s1,s2,s3,s4,s5,s6,s7,s8,s9,s10,s11,s12,s13⟩;go_simp;with_reducible rfl)
           refine pureA 11 (some 37) HT_.out ?_
           refine pureA 12 (some 38) HT_.out ?_
           refine pureA 13 (some 39) HT_.out ?_
           refine pureA 15 (some 41) HT_.out ?_
           refine takeA 14 (some 40) rfl rfl HT_.out HW_.out hHeld ?_ (by rintro w' ⟨s0,s1,s2,s3,s4,s5,s6,s7,s8,s9,s10,s11,s12,s13⟩;go_simp;with_reducible rfl)
           refine pureA 16 (some 42) HT_.out ?_
           refine pureA 17 (some 43) HT_.out ?_
           refine takeA 18 (some 44) rfl rfl HT_.out HW_.out hHeld ?_ (by rintro w' ⟨s0,s1,s2,s3,s4,s5,s6,s7,s8,s9,s10,s11,s12,s13⟩;go_simp;with_reducible rfl)
           refine pureA 19 (some 45) HT_.out ?_
           refine pureA 20 (some 46) HT_.out ?_
           refine pureA 21 (some 47) HT_.out ?_
           refine pureA 22 (some 48) HT_.out ?_
           refine pureA 23 (some 49) HT_.out ?_
           refine pureA 25 (some 51) HT_.out ?_
           refine takeA 24 (some 50) rfl rfl HT_.out HW_.out hHeld ?_ (by rintro w' ⟨s0,s1,s2,s3,s4,s5,s6,s7,s8,s9,s10,s11,s12,s13⟩;go_simp;with_reducible rfl)
           refine pureA 26 (some 52) HT_.out ?_
           refine pureA 27 (some 53) HT_.out ?_
           refine takeA 28 (some 54) rfl rfl HT_.out HW_.out hHeld ?_ (by rintro w' ⟨s0,s1,s2,s3,s4,s5,s6,s7,s8,s9,s10,s11,s12,s13⟩;go_simp;with_reducible rfl)
           refine pureA 29 (some 55) HT_.out ?_
           refine pureA 30 (some 56) HT_.out ?_
           refine pureA 31 (some 57) HT_.out ?_
           refine pureA 32 (some 58) HT_.out ?_
           refine pureA 34 (some 60) HT_.out ?_
           refine takeA 33 (some 59) rfl rfl HT_.out HW_.out hHeld ?_ (by rintro w' ⟨s0,s1,s2,s3,s4,s5,s6,s7,s8,s9,s10,s11,s12,s13⟩;go_simp;with_reducible rfl)
           refine pureA 35 (some 61) HT_.out ?_
           refine pureA 36 (some 62) HT_.out ?_
           refine takeA 37 (some 63) rfl rfl HT_.out HW_.out hHeld ?_ (by rintro w' ⟨s0,s1,s2,s3,s4,s5,s6,s7,s8,s9,s10,s11,s12,s13⟩;go_simp;with_reducible rfl)
           refine one_ (i:=38) (N:=some 64) #[true,true,true,true,true,true,true,true,true,true,true,true,true,true,true,true,true,true,true,true,true,true,true,true,true,true,true,true,true,true,true,true,true,true,true,true,true,true,true,false,false] rfl rfl (one_of HT_.out (by kernel_rfl)) (by decide) (fun K hK=>?_)
           refine goes_ Tryz.func30 (by kernel_rfl) rfl #[.string ((rd_T31 l0_1 x4_2).f1)] (by rfl) rfl rfl lens ?_
           with_reducible refine (spec_TextOk.calls k2 ((rd_T31 l0_1 x4_2).f1) true _ A23.out).mono ?_
           rintro e w' ⟨rfl,⟨nd,rfl⟩⟩
           refine ⟨_,rfl,?_⟩
           refine hK.out _ _ ⟨(c_ BK460.out 0).trans rfl,(c_ BK460.out 1).trans rfl,((HB.out.cell (World.block_lt_of_cell? w _ hw465_0)).trans hw465_0),((HB.out.cell (World.block_lt_of_cell? w _ hw465_1)).trans hw465_1),hHeld.2.2.2.2.1,hHeld.2.2.2.2.2.1,hHeld.2.2.2.2.2.2.1,hHeld.2.2.2.2.2.2.2.1,((HB.out.cell (World.block_lt_of_cell? w _ hw467_0)).trans hw467_0),((HB.out.cell (World.block_lt_of_cell? w _ hw467_1)).trans hw467_1),((HB.out.cell (World.block_lt_of_cell? w _ hw468_0)).trans hw468_0),((HB.out.cell (World.block_lt_of_cell? w _ hw468_1)).trans hw468_1),((HB.out.cell (World.block_lt_of_cell? w _ hw469_0)).trans hw469_0),((HB.out.cell (World.block_lt_of_cell? w _ hw469_1)).trans hw469_1)⟩ (fun hHeld=>?_)
           clear hK K
           refine norm_ (a':=?_) ?_ ?_
           rotate_left
           ·show Act.put _ (some 64) _ = _
            simp only [Act.put,s1_,s2_,s3_,i64_w,i32_w]
            rfl
           refine pureA 39 (some 65) HT_.out ?_
           refine pureA 40 (some 66) HT_.out ?_
           refine done_ (done_of HT_.out (by kernel_rfl)) ?_
           try go_wp2
           go_roundg k2
           case measure=>have:=HJ2.out;have:=HK2.out;omega
           case rel=>exact ⟨(wrap64 (x4_2 + 1)),(by first|rfl|(simp;done)|(simp [*];done)),H',⟨by have:=HJ2.out;have:=HK2.out;omega⟩,⟨by (with_reducible repeat (first|apply Kd.R_alloc|apply Kd.R_drewN|apply Kd.R_drew));exact HO_3.out⟩,⟨by (with_reducible repeat first|apply b1_|apply b2_|apply b3_);exact BK460.out⟩,⟨puM HB.out GE460.out⟩⟩
          ·replace c24:=Bool.eq_false_iff.mpr c24
           subst c24
           replace H:=ifn H
           obtain rfl:=Option.some.inj H
           obtain ⟨Ao27,co27,eo27⟩:=Kd.R_slice HO_3.out
           subst eo27
           try go_wp2
           have n0_:=m_ (Kd.R_drew HO_3.out)
           have n1_:=m_ (b2_ BK460.out)
           have n2_:=m_ (l3_ HB.out)
           clear HO_3
           clear BK460
           clear HB
           have HO_3:=n0_
           have BK460:=n1_
           have HB:=n2_
           clear n0_ n1_ n2_
           have p465 : 0 ≤ (x4_2 : Int):=of_decide_eq_true asm
           have q465 : x4_2 < (l0_1.length : Int):=of_decide_eq_true asm
           obtain ⟨ad465,e465,hx465_0,hx465_1⟩:=at_T31 HR0_1.out x4_2 p465 q465
           have hw465_1:=hx465_1
           have hw465_0:=hx465_0
           cases e465
           replace hx465_0:=(HB.out.cell (World.block_lt_of_cell? w _ hx465_0)).trans hx465_0
           replace hx465_1:=(HB.out.cell (World.block_lt_of_cell? w _ hx465_1)).trans hx465_1
           replace p465:=eq_true p465
           replace q465:=eq_true q465
           have p466 : 0 ≤ (x4_2 : Int):=of_decide_eq_true asm
           have q466 : x4_2 < (t461.length : Int):=of_decide_eq_true asm
           obtain ⟨ad466,e466,hx466_0,hx466_1,hx466_2,hx466_3⟩:=at_T51 (Kd.R_reads' HO_3.out).2.2 x4_2 p466 q466
           cases e466
           replace p466:=eq_true p466
           replace q466:=eq_true q466
           have p467 : 0 ≤ (x4_2 : Int):=of_decide_eq_true asm
           have q467 : x4_2 < (l0_1.length : Int):=of_decide_eq_true asm
           obtain ⟨ad467,e467,hx467_0,hx467_1⟩:=at_T31 HR0_1.out x4_2 p467 q467
           have hw467_1:=hx467_1
           have hw467_0:=hx467_0
           obtain rfl : ad465 = ad467:=(by injection e467)
           replace hx467_0:=(HB.out.cell (World.block_lt_of_cell? w _ hx467_0)).trans hx467_0
           replace hx467_1:=(HB.out.cell (World.block_lt_of_cell? w _ hx467_1)).trans hx467_1
           replace p467:=eq_true p467
           replace q467:=eq_true q467
           have p468 : 0 ≤ (x4_2 : Int):=of_decide_eq_true asm
           have q468 : x4_2 < (l0_1.length : Int):=of_decide_eq_true asm
           obtain ⟨ad468,e468,hx468_0,hx468_1⟩:=at_T31 HR0_1.out x4_2 p468 q468
           have hw468_1:=hx468_1
           have hw468_0:=hx468_0
           obtain rfl : ad465 = ad468:=(by injection e468)
           replace hx468_0:=(HB.out.cell (World.block_lt_of_cell? w _ hx468_0)).trans hx468_0
           replace hx468_1:=(HB.out.cell (World.block_lt_of_cell? w _ hx468_1)).trans hx468_1
           replace p468:=eq_true p468
           replace q468:=eq_true q468
           have p469 : 0 ≤ (x4_2 : Int):=of_decide_eq_true asm
           have q469 : x4_2 < (l0_1.length : Int):=of_decide_eq_true asm
           obtain ⟨ad469,e469,hx469_0,hx469_1⟩:=at_T31 HR0_1.out x4_2 p469 q469
           have hw469_1:=hx469_1
           have hw469_0:=hx469_0
           obtain rfl : ad465 = ad469:=(by injection e469)
           replace hx469_0:=(HB.out.cell (World.block_lt_of_cell? w _ hx469_0)).trans hx469_0
           replace hx469_1:=(HB.out.cell (World.block_lt_of_cell? w _ hx469_1)).trans hx469_1
           replace p469:=eq_true p469
           replace q469:=eq_true q469
           refine start_ (n:=41) (S:=fun w'=>w'.cell? ⟨gb460,0,none⟩ = some (.string a0_0) ∧ w'.cell? ⟨gb460,1,none⟩ = some (.slice (some ad465) l0_1.length c0_1) ∧ w'.cell? (ad465.add ((x4_2).toNat * 2)) = some (.int .i64 ((rd_T31 l0_1 x4_2).f0)) ∧ w'.cell? ⟨(ad465.add ((x4_2).toNat * 2)).block,(ad465.add ((x4_2).toNat * 2)).off + 1,none⟩ = some (.string ((rd_T31 l0_1 x4_2).f1)) ∧ w'.cell? (ad466.add ((x4_2).toNat * 4)) = some (.int .i64 ((rd_T51 t461 x4_2).f0)) ∧ w'.cell? ⟨(ad466.add ((x4_2).toNat * 4)).block,(ad466.add ((x4_2).toNat * 4)).off + 1,none⟩ = some (.bool ((rd_T51 t461 x4_2).f1)) ∧ w'.cell? ⟨(ad466.add ((x4_2).toNat * 4)).block,(ad466.add ((x4_2).toNat * 4)).off + 2,none⟩ = some (.int .i64 ((rd_T51 t461 x4_2).f2.f0)) ∧ w'.cell? ⟨(ad466.add ((x4_2).toNat * 4)).block,(ad466.add ((x4_2).toNat * 4)).off + 3,none⟩ = some (.int .i64 ((rd_T51 t461 x4_2).f2.f1)) ∧ w'.cell? (ad465.add ((x4_2).toNat * 2)) = some (.int .i64 ((rd_T31 l0_1 x4_2).f0)) ∧ w'.cell? ⟨(ad465.add ((x4_2).toNat * 2)).block,(ad465.add ((x4_2).toNat * 2)).off + 1,none⟩ = some (.string ((rd_T31 l0_1 x4_2).f1)) ∧ w'.cell? (ad465.add ((x4_2).toNat * 2)) = some (.int .i64 ((rd_T31 l0_1 x4_2).f0)) ∧ w'.cell? ⟨(ad465.add ((x4_2).toNat * 2)).block,(ad465.add ((x4_2).toNat * 2)).off + 1,none⟩ = some (.string ((rd_T31 l0_1 x4_2).f1)) ∧ w'.cell? (ad465.add ((x4_2).toNat * 2)) = some (.int .i64 ((rd_T31 l0_1 x4_2).f0)) ∧ w'.cell? ⟨(ad465.add ((x4_2).toNat * 2)).block,(ad465.add ((x4_2).toNat * 2)).off + 1,none⟩ = some (.string ((rd_T31 l0_1 x4_2).f1))) (ds:=[]) #[false,false,false,false,false,false,false,false,false,false,false,false,false,false,false,false,false,false,false,false,false,false,false,false,false,false,false,false,false,false,false,false,false,false,false,false,false,false,false,false,false] (by kernel_rfl) rfl rfl ⟨(c_ BK460.out 0).trans rfl,(c_ BK460.out 1).trans rfl,((HB.out.cell (World.block_lt_of_cell? w _ hw465_0)).trans hw465_0),((HB.out.cell (World.block_lt_of_cell? w _ hw465_1)).trans hw465_1),hx466_0,hx466_1,hx466_2,hx466_3,((HB.out.cell (World.block_lt_of_cell? w _ hw467_0)).trans hw467_0),((HB.out.cell (World.block_lt_of_cell? w _ hw467_1)).trans hw467_1),((HB.out.cell (World.block_lt_of_cell? w _ hw468_0)).trans hw468_0),((HB.out.cell (World.block_lt_of_cell? w _ hw468_1)).trans hw468_1),((HB.out.cell (World.block_lt_of_cell? w _ hw469_0)).trans hw469_0),((HB.out.cell (World.block_lt_of_cell? w _ hw469_1)).trans hw469_1)⟩ (fun hHeld=>?_);refine with_tabW spec_StreamOk.tab7 spec_StreamOk.bits7 (fun HT_ HW_=>?_)
           generalize wr.drew = w28 at HO_3 BK460 HB hx465_0 hx465_1 hx466_0 hx466_1 hx466_2 hx466_3 hx467_0 hx467_1 hx468_0 hx468_1 hx469_0 hx469_1 hHeld ⊢
           refine pureA 0 (some 26) HT_.out ?_
           refine pureA 2 (some 28) HT_.out ?_
           refine pureA 6 (some 32) HT_.out ?_
           refine pureA 7 (some 33) HT_.out ?_
           refine pureA 8 (some 34) HT_.out ?_
           refine pureA 9 (some 35) HT_.out ?_
           refine takeA 1 (some 27) rfl rfl HT_.out HW_.out hHeld ?_ (by rintro w' ⟨s0,s1,s2,s3,s4,s5,s6,s7,s8,s9,s10,s11,s12,s13⟩;go_simp;with_reducible rfl)
           refine pureA 3 (some 29) HT_.out ?_
           refine pureA 4 (some 30) HT_.out ?_
           refine takeA 5 (some 31) rfl rfl HT_.out HW_.out hHeld ?_ (by rintro w' ⟨s0,s1,s2,s3,s4,s5,s6,s7,s8,s9,s10,s11,s12,s13⟩;go_simp;with_reducible rfl)
           refine takeA 10 (some 36) rfl rfl HT_.out HW_.out hHeld ?_ (by rintro w' ⟨s0,s1,s2,s3,s4,s5,s6,s7,s8,s9,s10,s11,s12,s13⟩;go_simp;with_reducible rfl)
           refine pureA 11 (some 37) HT_.out ?_
           refine pureA 12 (some 38) HT_.out ?_
           refine pureA 13 (some 39) HT_.out ?_
           refine pureA 15 (some 41) HT_.out ?_
           refine takeA 14 (some 40) rfl rfl HT_.out HW_.out hHeld ?_ (by rintro w' ⟨s0,s1,s2,s3,s4,s5,s6,s7,s8,s9,s10,s11,s12,s13⟩;go_simp;with_reducible rfl)
           refine pureA 16 (some 42) HT_.out ?_
           refine pureA 17 (some 43) HT_.out ?_
           refine takeA 18 (some 44) rfl rfl HT_.out HW_.out hHeld ?_ (by rintro w' ⟨s0,s1,s2,s3,s4,s5,s6,s7,s8,s9,s10,s11,s12,s13⟩;go_simp;with_reducible rfl)
           refine pureA 19 (some 45) HT_.out ?_
           refine pureA 20 (some 46) HT_.out ?_
           refine pureA 21 (some 47) HT_.out ?_
           refine pureA 22 (some 48) HT_.out ?_
           refine pureA 23 (some 49) HT_.out ?_
           refine pureA 25 (some 51) HT_.out ?_
           refine takeA 24 (some 50) rfl rfl HT_.out HW_.out hHeld ?_ (by rintro w' ⟨s0,s1,s2,s3,s4,s5,s6,s7,s8,s9,s10,s11,s12,s13⟩;go_simp;with_reducible rfl)
           refine pureA 26 (some 52) HT_.out ?_
           refine pureA 27 (some 53) HT_.out ?_
           refine takeA 28 (some 54) rfl rfl HT_.out HW_.out hHeld ?_ (by rintro w' ⟨s0,s1,s2,s3,s4,s5,s6,s7,s8,s9,s10,s11,s12,s13⟩;go_simp;with_reducible rfl)
           refine pureA 29 (some 55) HT_.out ?_
           refine pureA 30 (some 56) HT_.out ?_
           refine pureA 31 (some 57) HT_.out ?_
           refine pureA 32 (some 58) HT_.out ?_
           refine pureA 34 (some 60) HT_.out ?_
           refine takeA 33 (some 59) rfl rfl HT_.out HW_.out hHeld ?_ (by rintro w' ⟨s0,s1,s2,s3,s4,s5,s6,s7,s8,s9,s10,s11,s12,s13⟩;go_simp;with_reducible rfl)
           refine pureA 35 (some 61) HT_.out ?_
           refine pureA 36 (some 62) HT_.out ?_
           refine takeA 37 (some 63) rfl rfl HT_.out HW_.out hHeld ?_ (by rintro w' ⟨s0,s1,s2,s3,s4,s5,s6,s7,s8,s9,s10,s11,s12,s13⟩;go_simp;with_reducible rfl)
           refine one_ (i:=38) (N:=some 64) #[true,true,true,true,true,true,true,true,true,true,true,true,true,true,true,true,true,true,true,true,true,true,true,true,true,true,true,true,true,true,true,true,true,true,true,true,true,true,true,false,false] rfl rfl (one_of HT_.out (by kernel_rfl)) (by decide) (fun K hK=>?_)
           refine goes_ Tryz.func30 (by kernel_rfl) rfl #[.string ((rd_T31 l0_1 x4_2).f1)] (by rfl) rfl rfl lens ?_
           with_reducible refine (spec_TextOk.calls k2 ((rd_T31 l0_1 x4_2).f1) false _ A23.out).mono ?_
           rintro e w' ⟨rfl,⟨nd,rfl⟩⟩
           refine ⟨_,rfl,?_⟩
           refine hK.out _ _ ⟨(c_ BK460.out 0).trans rfl,(c_ BK460.out 1).trans rfl,((HB.out.cell (World.block_lt_of_cell? w _ hw465_0)).trans hw465_0),((HB.out.cell (World.block_lt_of_cell? w _ hw465_1)).trans hw465_1),hHeld.2.2.2.2.1,hHeld.2.2.2.2.2.1,hHeld.2.2.2.2.2.2.1,hHeld.2.2.2.2.2.2.2.1,((HB.out.cell (World.block_lt_of_cell? w _ hw467_0)).trans hw467_0),((HB.out.cell (World.block_lt_of_cell? w _ hw467_1)).trans hw467_1),((HB.out.cell (World.block_lt_of_cell? w _ hw468_0)).trans hw468_0),((HB.out.cell (World.block_lt_of_cell? w _ hw468_1)).trans hw468_1),((HB.out.cell (World.block_lt_of_cell? w _ hw469_0)).trans hw469_0),((HB.out.cell (World.block_lt_of_cell? w _ hw469_1)).trans hw469_1)⟩ (fun hHeld=>?_)
           clear hK K
           refine norm_ (a':=?_) ?_ ?_
           rotate_left
           ·show Act.put _ (some 64) _ = _
            simp only [Act.put,s1_,s2_,s3_,i64_w,i32_w]
            rfl
           refine pureA 39 (some 65) HT_.out ?_
           refine pureA 40 (some 66) HT_.out ?_
           refine done_ (done_of HT_.out (by kernel_rfl)) ?_
           try go_wp2
           go_ret
           exact ⟨eqs,puM HB.out GE460.out⟩
       ·rw [if_neg c16] at H
        have c16b0 : (((rd_T31 l0_1 x4_2).f0) == ((rd_T51 t461 x4_2).f0)) = false:=beq_eq_false_iff_ne.mpr c16
        have c16b1 : (((rd_T31 l0_1 x4_2).f0) != ((rd_T51 t461 x4_2).f0)) = true:=bne_iff_ne.mpr c16
        obtain rfl:=Option.some.inj H
        obtain ⟨Ao29,co29,eo29⟩:=Kd.R_slice HO_3.out
        subst eo29
        try go_wp2
        have n0_:=m_ (Kd.R_drew HO_3.out)
        have n1_:=m_ (b2_ BK460.out)
        have n2_:=m_ (l3_ HB.out)
        clear HO_3
        clear BK460
        clear HB
        have HO_3:=n0_
        have BK460:=n1_
        have HB:=n2_
        clear n0_ n1_ n2_
        have p465 : 0 ≤ (x4_2 : Int):=of_decide_eq_true asm
        have q465 : x4_2 < (l0_1.length : Int):=of_decide_eq_true asm
        obtain ⟨ad465,e465,hx465_0,hx465_1⟩:=at_T31 HR0_1.out x4_2 p465 q465
        have hw465_1:=hx465_1
        have hw465_0:=hx465_0
        cases e465
        replace hx465_0:=(HB.out.cell (World.block_lt_of_cell? w _ hx465_0)).trans hx465_0
        replace hx465_1:=(HB.out.cell (World.block_lt_of_cell? w _ hx465_1)).trans hx465_1
        replace p465:=eq_true p465
        replace q465:=eq_true q465
        have p466 : 0 ≤ (x4_2 : Int):=of_decide_eq_true asm
        have q466 : x4_2 < (t461.length : Int):=of_decide_eq_true asm
        obtain ⟨ad466,e466,hx466_0,hx466_1,hx466_2,hx466_3⟩:=at_T51 (Kd.R_reads' HO_3.out).2.2 x4_2 p466 q466
        cases e466
        replace p466:=eq_true p466
        replace q466:=eq_true q466
        refine start_ (n:=41) (S:=fun w'=>w'.cell? ⟨gb460,0,none⟩ = some (.string a0_0) ∧ w'.cell? ⟨gb460,1,none⟩ = some (.slice (some ad465) l0_1.length c0_1) ∧ w'.cell? (ad465.add ((x4_2).toNat * 2)) = some (.int .i64 ((rd_T31 l0_1 x4_2).f0)) ∧ w'.cell? ⟨(ad465.add ((x4_2).toNat * 2)).block,(ad465.add ((x4_2).toNat * 2)).off + 1,none⟩ = some (.string ((rd_T31 l0_1 x4_2).f1)) ∧ w'.cell? (ad466.add ((x4_2).toNat * 4)) = some (.int .i64 ((rd_T51 t461 x4_2).f0)) ∧ w'.cell? ⟨(ad466.add ((x4_2).toNat * 4)).block,(ad466.add ((x4_2).toNat * 4)).off + 1,none⟩ = some (.bool ((rd_T51 t461 x4_2).f1)) ∧ w'.cell? ⟨(ad466.add ((x4_2).toNat * 4)).block,(ad466.add ((x4_2).toNat * 4)).off + 2,none⟩ = some (.int .i64 ((rd_T51 t461 x4_2).f2.f0)) ∧ w'.cell? ⟨(ad466.add ((x4_2).toNat * 4)).block,(ad466.add ((x4_2).toNat * 4)).off + 3,none⟩ = some (.int .i64 ((rd_T51 t461 x4_2).f2.f1))) (ds:=[]) #[false,false,false,false,false,false,false,false,false,false,false,false,false,false,false,false,false,false,false,false,false,false,false,false,false,false,false,false,false,false,false,false,false,false,false,false,false,false,false,false,false] (by kernel_rfl) rfl rfl ⟨(c_ BK460.out 0).trans rfl,(c_ BK460.out 1).trans rfl,((HB.out.cell (World.block_lt_of_cell? w _ hw465_0)).trans hw465_0),((HB.out.cell (World.block_lt_of_cell? w _ hw465_1)).trans hw465_1),hx466_0,hx466_1,hx466_2,hx466_3⟩ (fun hHeld=>?_);refine with_tabW spec_StreamOk.tab7 spec_StreamOk.bits7 (fun HT_ HW_=>?_)
        generalize wr.drew = w30 at HO_3 BK460 HB hx465_0 hx465_1 hx466_0 hx466_1 hx466_2 hx466_3 hHeld ⊢
        refine pureA 0 (some 26) HT_.out ?_
        refine pureA 2 (some 28) HT_.out ?_
        refine pureA 6 (some 32) HT_.out ?_
        refine pureA 7 (some 33) HT_.out ?_
        refine pureA 8 (some 34) HT_.out ?_
        refine pureA 9 (some 35) HT_.out ?_
        refine takeA 1 (some 27) rfl rfl HT_.out HW_.out hHeld ?_ (by rintro w' ⟨s0,s1,s2,s3,s4,s5,s6,s7⟩;go_simp;with_reducible rfl)
        refine pureA 3 (some 29) HT_.out ?_
        refine pureA 4 (some 30) HT_.out ?_
        refine takeA 5 (some 31) rfl rfl HT_.out HW_.out hHeld ?_ (by rintro w' ⟨s0,s1,s2,s3,s4,s5,s6,s7⟩;go_simp;with_reducible rfl)
        refine takeA 10 (some 36) rfl rfl HT_.out HW_.out hHeld ?_ (by rintro w' ⟨s0,s1,s2,s3,s4,s5,s6,s7⟩;go_simp;with_reducible rfl)
        refine pureA 11 (some 37) HT_.out ?_
        refine pureA 12 (some 38) HT_.out ?_
        refine pureU 13 (some 39) HT_.out ?_
        refine pureU 14 (some 40) HT_.out ?_
        refine pureU 15 (some 41) HT_.out ?_
        refine pureU 16 (some 42) HT_.out ?_
        refine pureU 17 (some 43) HT_.out ?_
        refine pureU 18 (some 44) HT_.out ?_
        refine pureU 19 (some 45) HT_.out ?_
        refine pureU 20 (some 46) HT_.out ?_
        refine pureA 21 (some 47) HT_.out ?_
        refine pureA 22 (some 48) HT_.out ?_
        refine pureU 23 (some 49) HT_.out ?_
        refine pureU 24 (some 50) HT_.out ?_
        refine pureU 25 (some 51) HT_.out ?_
        refine pureU 26 (some 52) HT_.out ?_
        refine pureU 27 (some 53) HT_.out ?_
        refine pureU 28 (some 54) HT_.out ?_
        refine pureU 29 (some 55) HT_.out ?_
        refine pureA 30 (some 56) HT_.out ?_
        refine pureA 31 (some 57) HT_.out ?_
        refine pureU 32 (some 58) HT_.out ?_
        refine pureU 33 (some 59) HT_.out ?_
        refine pureU 34 (some 60) HT_.out ?_
        refine pureU 35 (some 61) HT_.out ?_
        refine pureU 36 (some 62) HT_.out ?_
        refine pureU 37 (some 63) HT_.out ?_
        refine pureU 38 (some 64) HT_.out ?_
        refine pureU 39 (some 65) HT_.out ?_
        refine pureA 40 (some 66) HT_.out ?_
        refine done_ (done_of HT_.out (by kernel_rfl)) ?_
        try go_wp2
        go_ret
        exact ⟨eqs,puM HB.out GE460.out⟩
      ·rw [if_neg c13] at H
       have c13b0 : decide (x4_2 < (t461.length : Int)) = false:=decide_eq_false c13
       clear c13
       obtain rfl:=Option.some.inj H
       obtain ⟨Ao31,co31,eo31⟩:=Kd.R_slice HO_3.out
       subst eo31
       go_wp2
       go_ret
       exact ⟨eqs,puM HB.out GE460.out⟩

end Go.Proofs.YtkcjmmhleepjeaaGreatDoor.A
