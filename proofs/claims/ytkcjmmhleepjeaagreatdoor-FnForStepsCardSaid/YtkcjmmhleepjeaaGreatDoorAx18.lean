-- Printed by myprint.py (wip/tools) out of the translation. Not trusted: Lean checks it.
import Derived.Test.YtkcjmmhleepjeaaGreatDoorAx0
import Derived.Test.YtkcjmmhleepjeaaGreatDoorAx12
import Derived.Test.YtkcjmmhleepjeaaGreatDoorAx15
namespace Go.Proofs.YtkcjmmhleepjeaaGreatDoor.A
open Go.RowKit Go.Proofs.YtkcjmmhleepjeaaGreatDoorW.PrintWords Go.Proofs.YtkcjmmhleepjeaaGreatDoorW.PrintLast Go.Proofs.YtkcjmmhleepjeaaGreatDoorW.PrintMore
attribute [local go_sem] max2_int min2_int max_two min_two max_three min_three max_four min_four
set_option linter.unusedVariables false
set_option linter.unusedSimpArgs false

/-! ### impl_Stream_forth: function 26 -/
def impl_Stream_forth.l0 : Nat → Int → Int → List (S31) → Int → Int → Option (Int)
 | 0, _, _, _, _, _ => none
 | k + 1, x1, x5, x9, x10, x11 => if x11 < x10 then (if 0 ≤ x11 then (if x11 < (x9.length : Int) then (if (wrap64 (x1 - ((rd_T31 x9 x11).f0))) < 0 then (some x5) else (impl_Stream_forth.l0 k (wrap64 (x1 - ((rd_T31 x9 x11).f0))) (wrap64 (x5 + (((rd_T31 x9 x11).f1).size : Int))) x9 x10 (wrap64 (x11 + 1)))) else (none)) else (none)) else (some x5)
def impl_Stream_forth.f (k : Nat) (a0_0 : ByteArray) (l0_1 : List (S31)) (a1 : Int) : Option (Int) := impl_Stream_forth.l0 k a1 0 l0_1 (l0_1.length : Int) 0
theorem impl_Stream_forth.mono_l : ∀ k, (∀ y0 y1 y2 y3 y4, LeO (impl_Stream_forth.l0 k y0 y1 y2 y3 y4) (impl_Stream_forth.l0 (k + 1) y0 y1 y2 y3 y4))
 | 0 => fun _ _ _ _ _ r h => by simp [impl_Stream_forth.l0] at h
 | k + 1 => by
  have ih0:=impl_Stream_forth.mono_l k
  ·intro y0 y1 y2 y3 y4
   unfold impl_Stream_forth.l0
   exact leo1 ih0
theorem impl_Stream_forth.mono : ∀ a0 a1 a2 k, LeO (impl_Stream_forth.f k a0 a1 a2) (impl_Stream_forth.f (k + 1) a0 a1 a2) := by
 intro a0 a1 a2 k
 have ih0:=impl_Stream_forth.mono_l k
 unfold impl_Stream_forth.f
 exact leo1 ih0
set_option maxHeartbeats 8000000 in
set_option maxRecDepth 100000 in
theorem impl_Stream_forth.calls (k : Nat) (a0_0 : ByteArray) (A0_1 : Option Addr) (c0_1 : Nat) (l0_1 : List (S31)) (a1 : Int) (r : Int) (w : World) (hr0_1 : Kd.C k31 w A0_1 l0_1.length l0_1) (hc0_1 : l0_1.length ≤ c0_1) (h : impl_Stream_forth.f k a0_0 l0_1 a1 = some r) :
  Calls Tryz.prog 26 #[.agg #[.string a0_0,.slice A0_1 l0_1.length c0_1],.int .i64 a1] w fun e w'=>e = .returned (.int .i64 r) ∧ Below w.heap.size w w':=by
 have hu25:=Tryz.underlying25
 have hu31:=Tryz.underlying31
 have HR0_1:=m_ hr0_1
 have HC0_1:=m_ hc0_1
 clear hr0_1 hc0_1
 have HB:=m_ (Below.refl w.heap.size w)
 have H : (impl_Stream_forth.l0 k a1 0 l0_1 (l0_1.length : Int) 0) = some r:=h
 clear h
 have H':=m_ H
 clear H
 go_enter Tryz.func26,Tryz.ntmps26
 go_wp2_with (first|((with_reducible refine gate_dst (N:=2) rfl ?_);refine box_event ?hg (N:=2) ?hd (cs:=#[.string a0_0,.slice A0_1 l0_1.length c0_1]) (t:=25) ?hr ?_;(case hd=>rfl);(case hg=>rfl);(case hr=>first|(go_simp;done)|(go_simp;rfl));intro gb445 hg w3 hbox hb;have n0_:=m_ (l5_ (puL HB.out) hb);have n1_:=m_ (hbox);have n2_:=m_ ((by rw [hg];exact (l6_ (puL HB.out)) : w.heap.size ≤ gb445));have n3_:=n2_;revert n0_ n1_ n2_ n3_;clear HB;intro HB BK445 GW445 GE445;clear hb hbox hg;have hcz4_0 : w3.cell? ⟨gb445,0,none⟩ = some (.string a0_0):=(c_ BK445.out 0).trans rfl;have hcz4_1 : w3.cell? ⟨gb445,1,none⟩ = some (.slice A0_1 l0_1.length c0_1):=(c_ BK445.out 1).trans rfl;have hfz4_0:=f_ BK445.out 0;have hfz4_1:=f_ BK445.out 1))
 go_loopg [1,5,11] k (fun kq v1 v5 v11 w'=>∃ (x1_1 : Int) (x5_1 : Int) (x11_1 : Int),v1 = .int .i64 x1_1 ∧ v5 = .int .i64 x5_1 ∧ v11 = .int .i64 x11_1 ∧ Aside0 (impl_Stream_forth.l0 kq x1_1 x5_1 l0_1 (l0_1.length : Int) x11_1 = some r) ∧ Aside0 (kq ≤ k) ∧ Aside0 (w'.heap[gb445]? = some (.cells #[.string a0_0,(.slice A0_1 l0_1.length c0_1)] 25 (0,0))) ∧ Aside0 (Below w.heap.size w w'))
 case atStart=>exact ⟨(a1),(0),(0),(by first|rfl|(simp;done)|(simp [*];done)),(by first|rfl|(simp;done)|(simp [*];done)),(by first|rfl|(simp;done)|(simp [*];done)),H',⟨Nat.le_refl _⟩,⟨by (with_reducible repeat first|apply b1_|apply b2_|apply b3_);exact BK445.out⟩,⟨puM HB.out GE445.out⟩⟩
 case round =>
  clear H'
  try clear c2
  try clear p2
  try clear hcz4_0
  try clear hcz4_1
  try clear hfz4_0
  try clear hfz4_1
  obtain ⟨x1_1,x5_1,x11_1,rfl,rfl,rfl,HA,HK1,BK445,HB⟩:=hrel
  cases gk with
  | zero => exact absurd HA.out (by simp [impl_Stream_forth.l0])
  | succ k1 =>
   have H:=HA.out
   clear HA
   simp only [impl_Stream_forth.l0] at H
   by_cases c5 : x11_1 < (l0_1.length : Int)
   ·rw [if_pos c5] at H
    have c5b0 : decide (x11_1 < (l0_1.length : Int)) = true:=decide_eq_true c5
    clear c5
    by_cases c6 : 0 ≤ x11_1
    rotate_left
    ·rw [if_neg c6] at H
     exact absurd H (by simp)
    rw [if_pos c6] at H
    have c6b0 : decide (0 ≤ x11_1) = true:=decide_eq_true c6
    clear c6
    by_cases c7 : x11_1 < (l0_1.length : Int)
    rotate_left
    ·rw [if_neg c7] at H
     exact absurd H (by simp)
    rw [if_pos c7] at H
    have c7b0 : decide (x11_1 < (l0_1.length : Int)) = true:=decide_eq_true c7
    clear c7
    by_cases c8 : (wrap64 (x1_1 - ((rd_T31 l0_1 x11_1).f0))) < 0
    ·rw [if_pos c8] at H
     have c8b0 : decide ((wrap64 (x1_1 - ((rd_T31 l0_1 x11_1).f0))) < 0) = true:=decide_eq_true c8
     clear c8
     obtain rfl:=Option.some.inj H
     have p446 : 0 ≤ (x11_1 : Int):=of_decide_eq_true asm
     have q446 : x11_1 < (l0_1.length : Int):=of_decide_eq_true asm
     obtain ⟨ad446,e446,hx446_0,hx446_1⟩:=at_T31 HR0_1.out x11_1 p446 q446
     cases e446
     replace hx446_0:=(HB.out.cell (World.block_lt_of_cell? w _ hx446_0)).trans hx446_0
     replace hx446_1:=(HB.out.cell (World.block_lt_of_cell? w _ hx446_1)).trans hx446_1
     replace p446:=eq_true p446
     replace q446:=eq_true q446
     go_wp2_with (first|((with_reducible refine gate_dst (N:=7) rfl ?_);refine box_event ?hg (N:=7) ?hd (cs:=#[.int .i64 0,.string (⟨#[]⟩ : ByteArray)]) (t:=31) ?hr ?_;(case hd=>rfl);(case hg=>rfl);(case hr=>first|(go_simp;done)|(go_simp;rfl));intro gb447 hg w9 hbox hb;have n0_:=m_ (blk_below (g:=gb445) (o:=.cells #[.string a0_0,.slice (some ad446) l0_1.length c0_1] 25 (0,0)) (puB BK445.out) hb);have n1_:=m_ (l5_ (puM HB.out GE445.out) hb);have n2_:=m_ (hbox);have n3_:=m_ ((by rw [hg];exact (l6_ (puM HB.out GE445.out)) : w.heap.size ≤ gb447));have n4_:=n3_;have n5_:=m_ ((by rw [hg];exact Nat.ne_of_lt (blk_lt (g:=gb445) (o:=.cells #[.string a0_0,.slice (some ad446) l0_1.length c0_1] 25 (0,0)) (puB BK445.out)) : gb445 ≠ gb447));have n6_:=m_ n5_.out.symm;revert n0_ n1_ n2_ n3_ n4_ n5_ n6_;clear BK445 HB;intro BK445 HB BK447 GW447 GE447 NB445_447 NB447_445;clear hb hbox hg;have hnb10:=NB447_445.out;have hnc10:=NB445_447.out;have hcz11_0 : w9.cell? ⟨gb447,0,none⟩ = some (.int .i64 0):=(c_ BK447.out 0).trans rfl;have hcz11_1 : w9.cell? ⟨gb447,1,none⟩ = some (.string (⟨#[]⟩ : ByteArray)):=(c_ BK447.out 1).trans rfl;have hfz11_0:=f_ BK447.out 0;have hfz11_1:=f_ BK447.out 1))
     go_ret
     exact ⟨eqs,puN HB.out GE445.out GE447.out⟩
    ·rw [if_neg c8] at H
     have c8b0 : decide ((wrap64 (x1_1 - ((rd_T31 l0_1 x11_1).f0))) < 0) = false:=decide_eq_false c8
     clear c8
     have H':=m_ H
     clear H
     have p446 : 0 ≤ (x11_1 : Int):=of_decide_eq_true asm
     have q446 : x11_1 < (l0_1.length : Int):=of_decide_eq_true asm
     obtain ⟨ad446,e446,hx446_0,hx446_1⟩:=at_T31 HR0_1.out x11_1 p446 q446
     cases e446
     replace hx446_0:=(HB.out.cell (World.block_lt_of_cell? w _ hx446_0)).trans hx446_0
     replace hx446_1:=(HB.out.cell (World.block_lt_of_cell? w _ hx446_1)).trans hx446_1
     replace p446:=eq_true p446
     replace q446:=eq_true q446
     go_wp2_with (first|((with_reducible refine gate_dst (N:=7) rfl ?_);refine box_event ?hg (N:=7) ?hd (cs:=#[.int .i64 0,.string (⟨#[]⟩ : ByteArray)]) (t:=31) ?hr ?_;(case hd=>rfl);(case hg=>rfl);(case hr=>first|(go_simp;done)|(go_simp;rfl));intro gb447 hg w12 hbox hb;have n0_:=m_ (blk_below (g:=gb445) (o:=.cells #[.string a0_0,.slice (some ad446) l0_1.length c0_1] 25 (0,0)) (puB BK445.out) hb);have n1_:=m_ (l5_ (puM HB.out GE445.out) hb);have n2_:=m_ (hbox);have n3_:=m_ ((by rw [hg];exact (l6_ (puM HB.out GE445.out)) : w.heap.size ≤ gb447));have n4_:=n3_;have n5_:=m_ ((by rw [hg];exact Nat.ne_of_lt (blk_lt (g:=gb445) (o:=.cells #[.string a0_0,.slice (some ad446) l0_1.length c0_1] 25 (0,0)) (puB BK445.out)) : gb445 ≠ gb447));have n6_:=m_ n5_.out.symm;revert n0_ n1_ n2_ n3_ n4_ n5_ n6_;clear BK445 HB;intro BK445 HB BK447 GW447 GE447 NB445_447 NB447_445;clear hb hbox hg;have hnb13:=NB447_445.out;have hnc13:=NB445_447.out;have hcz14_0 : w12.cell? ⟨gb447,0,none⟩ = some (.int .i64 0):=(c_ BK447.out 0).trans rfl;have hcz14_1 : w12.cell? ⟨gb447,1,none⟩ = some (.string (⟨#[]⟩ : ByteArray)):=(c_ BK447.out 1).trans rfl;have hfz14_0:=f_ BK447.out 0;have hfz14_1:=f_ BK447.out 1))
     go_roundg k1
     case measure=>have:=HK1.out;omega
     case rel=>exact ⟨(wrap64 (x1_1 - ((rd_T31 l0_1 x11_1).f0))),(wrap64 (x5_1 + (((rd_T31 l0_1 x11_1).f1).size : Int))),(wrap64 (x11_1 + 1)),(by first|rfl|(simp;done)|(simp [*];done)),(by first|rfl|(simp;done)|(simp [*];done)),(by first|rfl|(simp;done)|(simp [*];done)),H',⟨by have:=HK1.out;omega⟩,⟨by (with_reducible repeat first|apply b1_|apply b2_|apply b3_);refine b4_ ?_ NB445_447.out _;(with_reducible repeat first|apply b1_|apply b2_|apply b3_);refine b4_ ?_ NB445_447.out _;(with_reducible repeat first|apply b1_|apply b2_|apply b3_);exact BK445.out⟩,⟨puN HB.out GE445.out GE447.out⟩⟩
   ·rw [if_neg c5] at H
    have c5b0 : decide (x11_1 < (l0_1.length : Int)) = false:=decide_eq_false c5
    clear c5
    obtain rfl:=Option.some.inj H
    go_wp2
    go_ret
    exact ⟨eqs,puM HB.out GE445.out⟩

/-! ### impl_StreamFor: function 9 -/
def impl_StreamFor.f (k : Nat) (a0_0 : ByteArray) (l0_1 : List (S31)) (a1 : Int) : Option (Int) := (impl_StreamOk.f k a0_0 l0_1).bind fun t449 => (if t449 = true then ((impl_within.f a1 0 (a0_0.size : Int)).bind fun t450 => (if t450 = true then ((impl_Stream_forth.f k a0_0 l0_1 a1).bind fun t451 => (some t451)) else (some (-1)))) else (some (-1)))
theorem impl_StreamFor.mono : ∀ a0 a1 a2 k, LeO (impl_StreamFor.f k a0 a1 a2) (impl_StreamFor.f (k + 1) a0 a1 a2) := by
 intro a0 a1 a2 k
 unfold impl_StreamFor.f
 exact leo2 impl_StreamOk.mono impl_Stream_forth.mono
set_option maxHeartbeats 8000000 in
set_option maxRecDepth 100000 in
theorem impl_StreamFor.calls (k : Nat) (a0_0 : ByteArray) (A0_1 : Option Addr) (c0_1 : Nat) (l0_1 : List (S31)) (a1 : Int) (r : Int) (w : World) (hr0_1 : Kd.C k31 w A0_1 l0_1.length l0_1) (hc0_1 : l0_1.length ≤ c0_1) (hG : GV w) (h : impl_StreamFor.f k a0_0 l0_1 a1 = some r) :
  Calls Tryz.prog 9 #[.agg #[.string a0_0,.slice A0_1 l0_1.length c0_1],.int .i64 a1] w fun e w'=>e = .returned (.int .i64 r) ∧ Below w.heap.size w w':=by
 have hu25:=Tryz.underlying25
 have HG:=m_ hG
 clear hG
 have HR0_1:=m_ hr0_1
 have HC0_1:=m_ hc0_1
 clear hr0_1 hc0_1
 have HB:=m_ (Below.refl w.heap.size w)
 have H : ((impl_StreamOk.f k a0_0 l0_1).bind fun t449=>(if t449 = true then ((impl_within.f a1 0 (a0_0.size : Int)).bind fun t450=>(if t450 = true then ((impl_Stream_forth.f k a0_0 l0_1 a1).bind fun t451=>(some t451)) else (some (-1)))) else (some (-1)))) = some r:=h
 clear h
 replace H:=Option.bind_eq_some_iff.mp H
 obtain ⟨t449,A30,H⟩:=H
 have A3:=m_ A30
 clear A30
 by_cases c4 : t449 = true
 ·subst c4
  replace H:=ifp H rfl
  replace H:=Option.bind_eq_some_iff.mp H
  obtain ⟨t450,A50,H⟩:=H
  have A5:=m_ A50
  clear A50
  by_cases c6 : t450 = true
  ·subst c6
   replace H:=ifp H rfl
   replace H:=Option.bind_eq_some_iff.mp H
   obtain ⟨t451,A70,H⟩:=H
   have A7:=m_ A70
   clear A70
   obtain rfl:=Option.some.inj H
   go_enter Tryz.func9,Tryz.ntmps9
   go_wp2_with (first|((with_reducible refine gate_dst (N:=2) rfl ?_);(try (refine gate_guard (by rfl) ?_;dsimp only));refine box_event ?hg (N:=2) ?hd (cs:=#[.string a0_0,.slice A0_1 l0_1.length c0_1]) (t:=25) ?hr ?_;(case hd=>rfl);(case hg=>rfl);(case hr=>first|(go_simp;done)|(go_simp;rfl));intro gb448 hg w8 hbox hb;have n0_:=m_ (l5_ (puL HB.out) hb);have n1_:=m_ (hbox);have n2_:=m_ ((by rw [hg];exact (l6_ (puL HB.out)) : w.heap.size ≤ gb448));have n3_:=m_ ((by rw [hg];exact (l6_ (puL HB.out)) : w.heap.size ≤ gb448));revert n0_ n1_ n2_ n3_;clear HB;intro HB BK448 GW448 GE448;clear hb hbox hg;have hcz9_0 : w8.cell? ⟨gb448,0,none⟩ = some (.string a0_0):=(c_ BK448.out 0).trans rfl;have hcz9_1 : w8.cell? ⟨gb448,1,none⟩ = some (.slice A0_1 l0_1.length c0_1):=(c_ BK448.out 1).trans rfl)|((with_reducible refine gate_callee (f:=21) rfl ?_);refine goesL_ (some 6) rfl rfl Tryz.func21 (by kernel_rfl) rfl #[.agg #[.string a0_0,.slice A0_1 l0_1.length c0_1]] rfl lens ?_;(with_reducible refine (impl_StreamOk.calls k a0_0 _ _ l0_1 true _ ?side1 ?side2 ?side3 A3.out).mono ?_);(case side1=>exact puC (Kd.C_below HR0_1.out HB.out));(case side2=>exact HC0_1.out);(case side3=>first|(with_reducible exact HG.out)|exact GV_below HG.out (puM HB.out GE448.out));rintro e w10 ⟨rfl,hb⟩;refine ⟨_,rfl,?_⟩;have n0_:=m_ (blk_below (g:=gb448) (o:=.cells #[.string a0_0,.slice A0_1 l0_1.length c0_1] 25 (0,0)) (puB BK448.out) hb);have n1_:=m_ (l5_ (puM HB.out GE448.out) hb);revert n0_ n1_;clear BK448 HB;intro BK448 HB;(try clear hb);(try clear hb2);(try clear hk);(try clear hi);have hcz11_0 : w10.cell? ⟨gb448,0,none⟩ = some (.string a0_0):=(c_ BK448.out 0).trans rfl;have hcz11_1 : w10.cell? ⟨gb448,1,none⟩ = some (.slice A0_1 l0_1.length c0_1):=(c_ BK448.out 1).trans rfl)|(go_at_call 25;(with_reducible refine (impl_within.calls a1 0 (a0_0.size : Int) true _ A5.out).mono ?_);rintro e w' ⟨rfl,⟨nd,rfl⟩⟩)|((with_reducible refine gate_callee (f:=26) rfl ?_);refine goesL_ (some 18) rfl rfl Tryz.func26 (by kernel_rfl) rfl #[.agg #[.string a0_0,.slice A0_1 l0_1.length c0_1],.int .i64 a1] rfl lens ?_;(with_reducible refine (impl_Stream_forth.calls k a0_0 _ _ l0_1 a1 t451 _ ?side1 ?side2 A7.out).mono ?_);(case side1=>repeat (first|exact (Kd.C_below HR0_1.out (puM HB.out GE448.out))|(with_reducible refine Kd.C_alloc ?_ _)|(with_reducible refine Kd.C_drewN ?_ _)|(with_reducible refine Kd.C_drew ?_)));(case side2=>exact HC0_1.out);rintro e w12 ⟨rfl,hb⟩;refine ⟨_,rfl,?_⟩;have n0_:=m_ (blk_below (g:=gb448) (o:=.cells #[.string a0_0,.slice A0_1 l0_1.length c0_1] 25 (0,0)) (puB BK448.out) hb);have n1_:=m_ (l5_ (puM HB.out GE448.out) hb);revert n0_ n1_;clear BK448 HB;intro BK448 HB;(try clear hb);(try clear hb2);(try clear hk);(try clear hi)))
   go_ret
   exact ⟨eqs,puM HB.out GE448.out⟩
  ·replace c6:=Bool.eq_false_iff.mpr c6
   subst c6
   replace H:=ifn H
   obtain rfl:=Option.some.inj H
   go_enter Tryz.func9,Tryz.ntmps9
   go_wp2_with (first|((with_reducible refine gate_dst (N:=2) rfl ?_);(try (refine gate_guard (by rfl) ?_;dsimp only));refine box_event ?hg (N:=2) ?hd (cs:=#[.string a0_0,.slice A0_1 l0_1.length c0_1]) (t:=25) ?hr ?_;(case hd=>rfl);(case hg=>rfl);(case hr=>first|(go_simp;done)|(go_simp;rfl));intro gb448 hg w13 hbox hb;have n0_:=m_ (l5_ (puL HB.out) hb);have n1_:=m_ (hbox);have n2_:=m_ ((by rw [hg];exact (l6_ (puL HB.out)) : w.heap.size ≤ gb448));have n3_:=m_ ((by rw [hg];exact (l6_ (puL HB.out)) : w.heap.size ≤ gb448));revert n0_ n1_ n2_ n3_;clear HB;intro HB BK448 GW448 GE448;clear hb hbox hg;have hcz14_0 : w13.cell? ⟨gb448,0,none⟩ = some (.string a0_0):=(c_ BK448.out 0).trans rfl;have hcz14_1 : w13.cell? ⟨gb448,1,none⟩ = some (.slice A0_1 l0_1.length c0_1):=(c_ BK448.out 1).trans rfl)|((with_reducible refine gate_callee (f:=21) rfl ?_);refine goesL_ (some 6) rfl rfl Tryz.func21 (by kernel_rfl) rfl #[.agg #[.string a0_0,.slice A0_1 l0_1.length c0_1]] rfl lens ?_;(with_reducible refine (impl_StreamOk.calls k a0_0 _ _ l0_1 true _ ?side1 ?side2 ?side3 A3.out).mono ?_);(case side1=>exact puC (Kd.C_below HR0_1.out HB.out));(case side2=>exact HC0_1.out);(case side3=>first|(with_reducible exact HG.out)|exact GV_below HG.out (puM HB.out GE448.out));rintro e w15 ⟨rfl,hb⟩;refine ⟨_,rfl,?_⟩;have n0_:=m_ (blk_below (g:=gb448) (o:=.cells #[.string a0_0,.slice A0_1 l0_1.length c0_1] 25 (0,0)) (puB BK448.out) hb);have n1_:=m_ (l5_ (puM HB.out GE448.out) hb);revert n0_ n1_;clear BK448 HB;intro BK448 HB;(try clear hb);(try clear hb2);(try clear hk);(try clear hi);have hcz16_0 : w15.cell? ⟨gb448,0,none⟩ = some (.string a0_0):=(c_ BK448.out 0).trans rfl;have hcz16_1 : w15.cell? ⟨gb448,1,none⟩ = some (.slice A0_1 l0_1.length c0_1):=(c_ BK448.out 1).trans rfl)|(go_at_call 25;(with_reducible refine (impl_within.calls a1 0 (a0_0.size : Int) false _ A5.out).mono ?_);rintro e w' ⟨rfl,⟨nd,rfl⟩⟩))
   go_ret
   exact ⟨eqs,puM HB.out GE448.out⟩
 ·replace c4:=Bool.eq_false_iff.mpr c4
  subst c4
  replace H:=ifn H
  obtain rfl:=Option.some.inj H
  go_enter Tryz.func9,Tryz.ntmps9
  go_wp2_with (first|((with_reducible refine gate_dst (N:=2) rfl ?_);(try (refine gate_guard (by rfl) ?_;dsimp only));refine box_event ?hg (N:=2) ?hd (cs:=#[.string a0_0,.slice A0_1 l0_1.length c0_1]) (t:=25) ?hr ?_;(case hd=>rfl);(case hg=>rfl);(case hr=>first|(go_simp;done)|(go_simp;rfl));intro gb448 hg w17 hbox hb;have n0_:=m_ (l5_ (puL HB.out) hb);have n1_:=m_ (hbox);have n2_:=m_ ((by rw [hg];exact (l6_ (puL HB.out)) : w.heap.size ≤ gb448));have n3_:=m_ ((by rw [hg];exact (l6_ (puL HB.out)) : w.heap.size ≤ gb448));revert n0_ n1_ n2_ n3_;clear HB;intro HB BK448 GW448 GE448;clear hb hbox hg;have hcz18_0 : w17.cell? ⟨gb448,0,none⟩ = some (.string a0_0):=(c_ BK448.out 0).trans rfl;have hcz18_1 : w17.cell? ⟨gb448,1,none⟩ = some (.slice A0_1 l0_1.length c0_1):=(c_ BK448.out 1).trans rfl)|((with_reducible refine gate_callee (f:=21) rfl ?_);refine goesL_ (some 6) rfl rfl Tryz.func21 (by kernel_rfl) rfl #[.agg #[.string a0_0,.slice A0_1 l0_1.length c0_1]] rfl lens ?_;(with_reducible refine (impl_StreamOk.calls k a0_0 _ _ l0_1 false _ ?side1 ?side2 ?side3 A3.out).mono ?_);(case side1=>exact puC (Kd.C_below HR0_1.out HB.out));(case side2=>exact HC0_1.out);(case side3=>first|(with_reducible exact HG.out)|exact GV_below HG.out (puM HB.out GE448.out));rintro e w19 ⟨rfl,hb⟩;refine ⟨_,rfl,?_⟩;have n0_:=m_ (blk_below (g:=gb448) (o:=.cells #[.string a0_0,.slice A0_1 l0_1.length c0_1] 25 (0,0)) (puB BK448.out) hb);have n1_:=m_ (l5_ (puM HB.out GE448.out) hb);revert n0_ n1_;clear BK448 HB;intro BK448 HB;(try clear hb);(try clear hb2);(try clear hk);(try clear hi)))
  go_ret
  exact ⟨eqs,puM HB.out GE448.out⟩

end Go.Proofs.YtkcjmmhleepjeaaGreatDoor.A
