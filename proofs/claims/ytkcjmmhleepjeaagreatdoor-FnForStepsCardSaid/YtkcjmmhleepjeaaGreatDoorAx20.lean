-- Printed by myprint.py (wip/tools) out of the translation. Not trusted: Lean checks it.
import Derived.Test.YtkcjmmhleepjeaaGreatDoorAx0
import Derived.Test.YtkcjmmhleepjeaaGreatDoorAx12
import Derived.Test.YtkcjmmhleepjeaaGreatDoorAx15
import Derived.Test.YtkcjmmhleepjeaaGreatDoorAx17
namespace Go.Proofs.YtkcjmmhleepjeaaGreatDoor.A
open Go.RowKit Go.Proofs.YtkcjmmhleepjeaaGreatDoorW.PrintWords Go.Proofs.YtkcjmmhleepjeaaGreatDoorW.PrintLast Go.Proofs.YtkcjmmhleepjeaaGreatDoorW.PrintMore
attribute [local go_sem] max2_int min2_int max_two min_two max_three min_three max_four min_four
set_option linter.unusedVariables false
set_option linter.unusedSimpArgs false

/-! ### impl_Stream_back: function 32 -/
def impl_Stream_back.l0 : Nat → Int → Int → List (S31) → Int → Int → Option (Int)
 | 0, _, _, _, _, _ => none
 | k + 1, x1, x5, x9, x10, x11 => if x11 < x10 then (if 0 ≤ x11 then (if x11 < (x9.length : Int) then (if (wrap64 (x1 - (((rd_T31 x9 x11).f1).size : Int))) < 0 then (some x5) else (impl_Stream_back.l0 k (wrap64 (x1 - (((rd_T31 x9 x11).f1).size : Int))) (wrap64 (x5 + ((rd_T31 x9 x11).f0))) x9 x10 (wrap64 (x11 + 1)))) else (none)) else (none)) else (some x5)
def impl_Stream_back.f (k : Nat) (a0_0 : ByteArray) (l0_1 : List (S31)) (a1 : Int) : Option (Int) := impl_Stream_back.l0 k a1 0 l0_1 (l0_1.length : Int) 0
theorem impl_Stream_back.mono_l : ∀ k, (∀ y0 y1 y2 y3 y4, LeO (impl_Stream_back.l0 k y0 y1 y2 y3 y4) (impl_Stream_back.l0 (k + 1) y0 y1 y2 y3 y4))
 | 0 => fun _ _ _ _ _ r h => by simp [impl_Stream_back.l0] at h
 | k + 1 => by
  have ih0:=impl_Stream_back.mono_l k
  ·intro y0 y1 y2 y3 y4
   unfold impl_Stream_back.l0
   exact leo1 ih0
theorem impl_Stream_back.mono : ∀ a0 a1 a2 k, LeO (impl_Stream_back.f k a0 a1 a2) (impl_Stream_back.f (k + 1) a0 a1 a2) := by
 intro a0 a1 a2 k
 have ih0:=impl_Stream_back.mono_l k
 unfold impl_Stream_back.f
 exact leo1 ih0
set_option maxHeartbeats 8000000 in
set_option maxRecDepth 100000 in
theorem impl_Stream_back.calls (k : Nat) (a0_0 : ByteArray) (A0_1 : Option Addr) (c0_1 : Nat) (l0_1 : List (S31)) (a1 : Int) (r : Int) (w : World) (hr0_1 : Kd.C k31 w A0_1 l0_1.length l0_1) (hc0_1 : l0_1.length ≤ c0_1) (h : impl_Stream_back.f k a0_0 l0_1 a1 = some r) :
  Calls Tryz.prog 32 #[.agg #[.string a0_0,.slice A0_1 l0_1.length c0_1],.int .i64 a1] w fun e w'=>e = .returned (.int .i64 r) ∧ Below w.heap.size w w':=by
 have hu25:=Tryz.underlying25
 have hu31:=Tryz.underlying31
 have HR0_1:=m_ hr0_1
 have HC0_1:=m_ hc0_1
 clear hr0_1 hc0_1
 have HB:=m_ (Below.refl w.heap.size w)
 have H : (impl_Stream_back.l0 k a1 0 l0_1 (l0_1.length : Int) 0) = some r:=h
 clear h
 have H':=m_ H
 clear H
 go_enter Tryz.func32,Tryz.ntmps32
 go_wp2_with (first|((with_reducible refine gate_dst (N:=2) rfl ?_);refine box_event ?hg (N:=2) ?hd (cs:=#[.string a0_0,.slice A0_1 l0_1.length c0_1]) (t:=25) ?hr ?_;(case hd=>rfl);(case hg=>rfl);(case hr=>first|(go_simp;done)|(go_simp;rfl));intro gb479 hg w3 hbox hb;have n0_:=m_ (l5_ (puL HB.out) hb);have n1_:=m_ (hbox);have n2_:=m_ ((by rw [hg];exact (l6_ (puL HB.out)) : w.heap.size ≤ gb479));have n3_:=n2_;revert n0_ n1_ n2_ n3_;clear HB;intro HB BK479 GW479 GE479;clear hb hbox hg;have hcz4_0 : w3.cell? ⟨gb479,0,none⟩ = some (.string a0_0):=(c_ BK479.out 0).trans rfl;have hcz4_1 : w3.cell? ⟨gb479,1,none⟩ = some (.slice A0_1 l0_1.length c0_1):=(c_ BK479.out 1).trans rfl;have hfz4_0:=f_ BK479.out 0;have hfz4_1:=f_ BK479.out 1))
 go_loopg [1,5,11] k (fun kq v1 v5 v11 w'=>∃ (x1_1 : Int) (x5_1 : Int) (x11_1 : Int),v1 = .int .i64 x1_1 ∧ v5 = .int .i64 x5_1 ∧ v11 = .int .i64 x11_1 ∧ Aside0 (impl_Stream_back.l0 kq x1_1 x5_1 l0_1 (l0_1.length : Int) x11_1 = some r) ∧ Aside0 (kq ≤ k) ∧ Aside0 (w'.heap[gb479]? = some (.cells #[.string a0_0,(.slice A0_1 l0_1.length c0_1)] 25 (0,0))) ∧ Aside0 (Below w.heap.size w w'))
 case atStart=>exact ⟨(a1),(0),(0),(by first|rfl|(simp;done)|(simp [*];done)),(by first|rfl|(simp;done)|(simp [*];done)),(by first|rfl|(simp;done)|(simp [*];done)),H',⟨Nat.le_refl _⟩,⟨by (with_reducible repeat first|apply b1_|apply b2_|apply b3_);exact BK479.out⟩,⟨puM HB.out GE479.out⟩⟩
 case round =>
  clear H'
  try clear p2
  try clear c3
  try clear hcz4_0
  try clear hcz4_1
  try clear hfz4_0
  try clear hfz4_1
  obtain ⟨x1_1,x5_1,x11_1,rfl,rfl,rfl,HA,HK1,BK479,HB⟩:=hrel
  cases gk with
  | zero => exact absurd HA.out (by simp [impl_Stream_back.l0])
  | succ k1 =>
   have H:=HA.out
   clear HA
   simp only [impl_Stream_back.l0] at H
   by_cases c5 : x11_1 < (l0_1.length : Int)
   ·rw [if_pos c5] at H
    have c5b0 : decide (x11_1 < (l0_1.length : Int)) = true:=decide_eq_true c5
    clear c5
    by_cases c6 : 0 ≤ x11_1
    rotate_left
    ·rw [if_neg c6] at H
     exact absurd H (by simp)
    rw [if_pos c6] at H
    have c6b0 : decide (0 ≤ x11_1) = true:=decide_eq_true c6
    clear c6
    by_cases c7 : x11_1 < (l0_1.length : Int)
    rotate_left
    ·rw [if_neg c7] at H
     exact absurd H (by simp)
    rw [if_pos c7] at H
    have c7b0 : decide (x11_1 < (l0_1.length : Int)) = true:=decide_eq_true c7
    clear c7
    by_cases c8 : (wrap64 (x1_1 - (((rd_T31 l0_1 x11_1).f1).size : Int))) < 0
    ·rw [if_pos c8] at H
     have c8b0 : decide ((wrap64 (x1_1 - (((rd_T31 l0_1 x11_1).f1).size : Int))) < 0) = true:=decide_eq_true c8
     clear c8
     obtain rfl:=Option.some.inj H
     have p480 : 0 ≤ (x11_1 : Int):=of_decide_eq_true asm
     have q480 : x11_1 < (l0_1.length : Int):=of_decide_eq_true asm
     obtain ⟨ad480,e480,hx480_0,hx480_1⟩:=at_T31 HR0_1.out x11_1 p480 q480
     cases e480
     replace hx480_0:=(HB.out.cell (World.block_lt_of_cell? w _ hx480_0)).trans hx480_0
     replace hx480_1:=(HB.out.cell (World.block_lt_of_cell? w _ hx480_1)).trans hx480_1
     replace p480:=eq_true p480
     replace q480:=eq_true q480
     go_wp2_with (first|((with_reducible refine gate_dst (N:=7) rfl ?_);refine box_event ?hg (N:=7) ?hd (cs:=#[.int .i64 0,.string (⟨#[]⟩ : ByteArray)]) (t:=31) ?hr ?_;(case hd=>rfl);(case hg=>rfl);(case hr=>first|(go_simp;done)|(go_simp;rfl));intro gb481 hg w9 hbox hb;have n0_:=m_ (blk_below (g:=gb479) (o:=.cells #[.string a0_0,.slice (some ad480) l0_1.length c0_1] 25 (0,0)) (puB BK479.out) hb);have n1_:=m_ (l5_ (puM HB.out GE479.out) hb);have n2_:=m_ (hbox);have n3_:=m_ ((by rw [hg];exact (l6_ (puM HB.out GE479.out)) : w.heap.size ≤ gb481));have n4_:=n3_;have n5_:=m_ ((by rw [hg];exact Nat.ne_of_lt (blk_lt (g:=gb479) (o:=.cells #[.string a0_0,.slice (some ad480) l0_1.length c0_1] 25 (0,0)) (puB BK479.out)) : gb479 ≠ gb481));have n6_:=m_ n5_.out.symm;revert n0_ n1_ n2_ n3_ n4_ n5_ n6_;clear BK479 HB;intro BK479 HB BK481 GW481 GE481 NB479_481 NB481_479;clear hb hbox hg;have hnb10:=NB481_479.out;have hnc10:=NB479_481.out;have hcz11_0 : w9.cell? ⟨gb481,0,none⟩ = some (.int .i64 0):=(c_ BK481.out 0).trans rfl;have hcz11_1 : w9.cell? ⟨gb481,1,none⟩ = some (.string (⟨#[]⟩ : ByteArray)):=(c_ BK481.out 1).trans rfl;have hfz11_0:=f_ BK481.out 0;have hfz11_1:=f_ BK481.out 1))
     go_ret
     exact ⟨eqs,puN HB.out GE479.out GE481.out⟩
    ·rw [if_neg c8] at H
     have c8b0 : decide ((wrap64 (x1_1 - (((rd_T31 l0_1 x11_1).f1).size : Int))) < 0) = false:=decide_eq_false c8
     clear c8
     have H':=m_ H
     clear H
     have p480 : 0 ≤ (x11_1 : Int):=of_decide_eq_true asm
     have q480 : x11_1 < (l0_1.length : Int):=of_decide_eq_true asm
     obtain ⟨ad480,e480,hx480_0,hx480_1⟩:=at_T31 HR0_1.out x11_1 p480 q480
     cases e480
     replace hx480_0:=(HB.out.cell (World.block_lt_of_cell? w _ hx480_0)).trans hx480_0
     replace hx480_1:=(HB.out.cell (World.block_lt_of_cell? w _ hx480_1)).trans hx480_1
     replace p480:=eq_true p480
     replace q480:=eq_true q480
     go_wp2_with (first|((with_reducible refine gate_dst (N:=7) rfl ?_);refine box_event ?hg (N:=7) ?hd (cs:=#[.int .i64 0,.string (⟨#[]⟩ : ByteArray)]) (t:=31) ?hr ?_;(case hd=>rfl);(case hg=>rfl);(case hr=>first|(go_simp;done)|(go_simp;rfl));intro gb481 hg w12 hbox hb;have n0_:=m_ (blk_below (g:=gb479) (o:=.cells #[.string a0_0,.slice (some ad480) l0_1.length c0_1] 25 (0,0)) (puB BK479.out) hb);have n1_:=m_ (l5_ (puM HB.out GE479.out) hb);have n2_:=m_ (hbox);have n3_:=m_ ((by rw [hg];exact (l6_ (puM HB.out GE479.out)) : w.heap.size ≤ gb481));have n4_:=n3_;have n5_:=m_ ((by rw [hg];exact Nat.ne_of_lt (blk_lt (g:=gb479) (o:=.cells #[.string a0_0,.slice (some ad480) l0_1.length c0_1] 25 (0,0)) (puB BK479.out)) : gb479 ≠ gb481));have n6_:=m_ n5_.out.symm;revert n0_ n1_ n2_ n3_ n4_ n5_ n6_;clear BK479 HB;intro BK479 HB BK481 GW481 GE481 NB479_481 NB481_479;clear hb hbox hg;have hnb13:=NB481_479.out;have hnc13:=NB479_481.out;have hcz14_0 : w12.cell? ⟨gb481,0,none⟩ = some (.int .i64 0):=(c_ BK481.out 0).trans rfl;have hcz14_1 : w12.cell? ⟨gb481,1,none⟩ = some (.string (⟨#[]⟩ : ByteArray)):=(c_ BK481.out 1).trans rfl;have hfz14_0:=f_ BK481.out 0;have hfz14_1:=f_ BK481.out 1))
     go_roundg k1
     case measure=>have:=HK1.out;omega
     case rel=>exact ⟨(wrap64 (x1_1 - (((rd_T31 l0_1 x11_1).f1).size : Int))),(wrap64 (x5_1 + ((rd_T31 l0_1 x11_1).f0))),(wrap64 (x11_1 + 1)),(by first|rfl|(simp;done)|(simp [*];done)),(by first|rfl|(simp;done)|(simp [*];done)),(by first|rfl|(simp;done)|(simp [*];done)),H',⟨by have:=HK1.out;omega⟩,⟨by (with_reducible repeat first|apply b1_|apply b2_|apply b3_);refine b4_ ?_ NB479_481.out _;(with_reducible repeat first|apply b1_|apply b2_|apply b3_);refine b4_ ?_ NB479_481.out _;(with_reducible repeat first|apply b1_|apply b2_|apply b3_);exact BK479.out⟩,⟨puN HB.out GE479.out GE481.out⟩⟩
   ·rw [if_neg c5] at H
    have c5b0 : decide (x11_1 < (l0_1.length : Int)) = false:=decide_eq_false c5
    clear c5
    obtain rfl:=Option.some.inj H
    go_wp2
    go_ret
    exact ⟨eqs,puM HB.out GE479.out⟩

/-! ### impl_StreamBack: function 12 -/
def impl_StreamBack.f (k : Nat) (a0_0 : ByteArray) (l0_1 : List (S31)) (a1 : Int) : Option (Int) := (impl_StreamOk.f k a0_0 l0_1).bind fun t483 => (if t483 = true then ((impl_Stream_out.f a0_0 l0_1).bind fun t484 => ((impl_within.f a1 0 (t484.size : Int)).bind fun t485 => (if t485 = true then ((impl_Stream_back.f k a0_0 l0_1 a1).bind fun t486 => (some t486)) else (some (-1))))) else (some (-1)))
theorem impl_StreamBack.mono : ∀ a0 a1 a2 k, LeO (impl_StreamBack.f k a0 a1 a2) (impl_StreamBack.f (k + 1) a0 a1 a2) := by
 intro a0 a1 a2 k
 unfold impl_StreamBack.f
 exact leo2 impl_StreamOk.mono impl_Stream_back.mono
set_option maxHeartbeats 8000000 in
set_option maxRecDepth 100000 in
theorem impl_StreamBack.calls (k : Nat) (a0_0 : ByteArray) (A0_1 : Option Addr) (c0_1 : Nat) (l0_1 : List (S31)) (a1 : Int) (r : Int) (w : World) (hr0_1 : Kd.C k31 w A0_1 l0_1.length l0_1) (hc0_1 : l0_1.length ≤ c0_1) (hG : GV w) (h : impl_StreamBack.f k a0_0 l0_1 a1 = some r) :
  Calls Tryz.prog 12 #[.agg #[.string a0_0,.slice A0_1 l0_1.length c0_1],.int .i64 a1] w fun e w'=>e = .returned (.int .i64 r) ∧ Below w.heap.size w w':=by
 have hu25:=Tryz.underlying25
 have HG:=m_ hG
 clear hG
 have HR0_1:=m_ hr0_1
 have HC0_1:=m_ hc0_1
 clear hr0_1 hc0_1
 have HB:=m_ (Below.refl w.heap.size w)
 have H : ((impl_StreamOk.f k a0_0 l0_1).bind fun t483=>(if t483 = true then ((impl_Stream_out.f a0_0 l0_1).bind fun t484=>((impl_within.f a1 0 (t484.size : Int)).bind fun t485=>(if t485 = true then ((impl_Stream_back.f k a0_0 l0_1 a1).bind fun t486=>(some t486)) else (some (-1))))) else (some (-1)))) = some r:=h
 clear h
 replace H:=Option.bind_eq_some_iff.mp H
 obtain ⟨t483,A30,H⟩:=H
 have A3:=m_ A30
 clear A30
 by_cases c4 : t483 = true
 ·subst c4
  replace H:=ifp H rfl
  replace H:=Option.bind_eq_some_iff.mp H
  obtain ⟨t484,A50,H⟩:=H
  have A5:=m_ A50
  clear A50
  replace H:=Option.bind_eq_some_iff.mp H
  obtain ⟨t485,A60,H⟩:=H
  have A6:=m_ A60
  clear A60
  by_cases c7 : t485 = true
  ·subst c7
   replace H:=ifp H rfl
   replace H:=Option.bind_eq_some_iff.mp H
   obtain ⟨t486,A80,H⟩:=H
   have A8:=m_ A80
   clear A80
   obtain rfl:=Option.some.inj H
   go_enter Tryz.func12,Tryz.ntmps12
   go_wp2_with (first|((with_reducible refine gate_dst (N:=2) rfl ?_);(try (refine gate_guard (by rfl) ?_;dsimp only));refine box_event ?hg (N:=2) ?hd (cs:=#[.string a0_0,.slice A0_1 l0_1.length c0_1]) (t:=25) ?hr ?_;(case hd=>rfl);(case hg=>rfl);(case hr=>first|(go_simp;done)|(go_simp;rfl));intro gb482 hg w9 hbox hb;have n0_:=m_ (l5_ (puL HB.out) hb);have n1_:=m_ (hbox);have n2_:=m_ ((by rw [hg];exact (l6_ (puL HB.out)) : w.heap.size ≤ gb482));have n3_:=m_ ((by rw [hg];exact (l6_ (puL HB.out)) : w.heap.size ≤ gb482));revert n0_ n1_ n2_ n3_;clear HB;intro HB BK482 GW482 GE482;clear hb hbox hg;have hcz10_0 : w9.cell? ⟨gb482,0,none⟩ = some (.string a0_0):=(c_ BK482.out 0).trans rfl;have hcz10_1 : w9.cell? ⟨gb482,1,none⟩ = some (.slice A0_1 l0_1.length c0_1):=(c_ BK482.out 1).trans rfl)|((with_reducible refine gate_callee (f:=21) rfl ?_);refine goesL_ (some 6) rfl rfl Tryz.func21 (by kernel_rfl) rfl #[.agg #[.string a0_0,.slice A0_1 l0_1.length c0_1]] rfl lens ?_;(with_reducible refine (impl_StreamOk.calls k a0_0 _ _ l0_1 true _ ?side1 ?side2 ?side3 A3.out).mono ?_);(case side1=>exact puC (Kd.C_below HR0_1.out HB.out));(case side2=>exact HC0_1.out);(case side3=>first|(with_reducible exact HG.out)|exact GV_below HG.out (puM HB.out GE482.out));rintro e w11 ⟨rfl,hb⟩;refine ⟨_,rfl,?_⟩;have n0_:=m_ (blk_below (g:=gb482) (o:=.cells #[.string a0_0,.slice A0_1 l0_1.length c0_1] 25 (0,0)) (puB BK482.out) hb);have n1_:=m_ (l5_ (puM HB.out GE482.out) hb);revert n0_ n1_;clear BK482 HB;intro BK482 HB;(try clear hb);(try clear hb2);(try clear hk);(try clear hi);have hcz12_0 : w11.cell? ⟨gb482,0,none⟩ = some (.string a0_0):=(c_ BK482.out 0).trans rfl;have hcz12_1 : w11.cell? ⟨gb482,1,none⟩ = some (.slice A0_1 l0_1.length c0_1):=(c_ BK482.out 1).trans rfl)|(go_at_call 31;(with_reducible refine (impl_Stream_out.calls a0_0 _ _ l0_1 t484 _ ?side1 ?side2 A5.out).mono ?_);(case side1=>exact puC (Kd.C_below HR0_1.out HB.out));(case side2=>exact HC0_1.out);rintro e w13 ⟨rfl,hb⟩;have n0_:=m_ (blk_below (g:=gb482) (o:=.cells #[.string a0_0,.slice A0_1 l0_1.length c0_1] 25 (0,0)) (puB BK482.out) hb);have n1_:=m_ (l5_ (puM HB.out GE482.out) hb);revert n0_ n1_;clear BK482 HB;intro BK482 HB;(try clear hb);(try clear hb2);(try clear hk);(try clear hi))|(go_at_call 25;(with_reducible refine (impl_within.calls a1 0 (t484.size : Int) true _ A6.out).mono ?_);rintro e w' ⟨rfl,⟨nd,rfl⟩⟩;have hcz14_0 : w13.cell? ⟨gb482,0,none⟩ = some (.string a0_0):=(c_ BK482.out 0).trans rfl;have hcz14_1 : w13.cell? ⟨gb482,1,none⟩ = some (.slice A0_1 l0_1.length c0_1):=(c_ BK482.out 1).trans rfl)|((with_reducible refine gate_callee (f:=32) rfl ?_);refine goesL_ (some 18) rfl rfl Tryz.func32 (by kernel_rfl) rfl #[.agg #[.string a0_0,.slice A0_1 l0_1.length c0_1],.int .i64 a1] rfl lens ?_;(with_reducible refine (impl_Stream_back.calls k a0_0 _ _ l0_1 a1 t486 _ ?side1 ?side2 A8.out).mono ?_);(case side1=>repeat (first|exact (Kd.C_below HR0_1.out (puM HB.out GE482.out))|(with_reducible refine Kd.C_alloc ?_ _)|(with_reducible refine Kd.C_drewN ?_ _)|(with_reducible refine Kd.C_drew ?_)));(case side2=>exact HC0_1.out);rintro e w15 ⟨rfl,hb⟩;refine ⟨_,rfl,?_⟩;have n0_:=m_ (blk_below (g:=gb482) (o:=.cells #[.string a0_0,.slice A0_1 l0_1.length c0_1] 25 (0,0)) (puB BK482.out) hb);have n1_:=m_ (l5_ (puM HB.out GE482.out) hb);revert n0_ n1_;clear BK482 HB;intro BK482 HB;(try clear hb);(try clear hb2);(try clear hk);(try clear hi)))
   go_ret
   exact ⟨eqs,puM HB.out GE482.out⟩
  ·replace c7:=Bool.eq_false_iff.mpr c7
   subst c7
   replace H:=ifn H
   obtain rfl:=Option.some.inj H
   go_enter Tryz.func12,Tryz.ntmps12
   go_wp2_with (first|((with_reducible refine gate_dst (N:=2) rfl ?_);(try (refine gate_guard (by rfl) ?_;dsimp only));refine box_event ?hg (N:=2) ?hd (cs:=#[.string a0_0,.slice A0_1 l0_1.length c0_1]) (t:=25) ?hr ?_;(case hd=>rfl);(case hg=>rfl);(case hr=>first|(go_simp;done)|(go_simp;rfl));intro gb482 hg w16 hbox hb;have n0_:=m_ (l5_ (puL HB.out) hb);have n1_:=m_ (hbox);have n2_:=m_ ((by rw [hg];exact (l6_ (puL HB.out)) : w.heap.size ≤ gb482));have n3_:=m_ ((by rw [hg];exact (l6_ (puL HB.out)) : w.heap.size ≤ gb482));revert n0_ n1_ n2_ n3_;clear HB;intro HB BK482 GW482 GE482;clear hb hbox hg;have hcz17_0 : w16.cell? ⟨gb482,0,none⟩ = some (.string a0_0):=(c_ BK482.out 0).trans rfl;have hcz17_1 : w16.cell? ⟨gb482,1,none⟩ = some (.slice A0_1 l0_1.length c0_1):=(c_ BK482.out 1).trans rfl)|((with_reducible refine gate_callee (f:=21) rfl ?_);refine goesL_ (some 6) rfl rfl Tryz.func21 (by kernel_rfl) rfl #[.agg #[.string a0_0,.slice A0_1 l0_1.length c0_1]] rfl lens ?_;(with_reducible refine (impl_StreamOk.calls k a0_0 _ _ l0_1 true _ ?side1 ?side2 ?side3 A3.out).mono ?_);(case side1=>exact puC (Kd.C_below HR0_1.out HB.out));(case side2=>exact HC0_1.out);(case side3=>first|(with_reducible exact HG.out)|exact GV_below HG.out (puM HB.out GE482.out));rintro e w18 ⟨rfl,hb⟩;refine ⟨_,rfl,?_⟩;have n0_:=m_ (blk_below (g:=gb482) (o:=.cells #[.string a0_0,.slice A0_1 l0_1.length c0_1] 25 (0,0)) (puB BK482.out) hb);have n1_:=m_ (l5_ (puM HB.out GE482.out) hb);revert n0_ n1_;clear BK482 HB;intro BK482 HB;(try clear hb);(try clear hb2);(try clear hk);(try clear hi);have hcz19_0 : w18.cell? ⟨gb482,0,none⟩ = some (.string a0_0):=(c_ BK482.out 0).trans rfl;have hcz19_1 : w18.cell? ⟨gb482,1,none⟩ = some (.slice A0_1 l0_1.length c0_1):=(c_ BK482.out 1).trans rfl)|(go_at_call 31;(with_reducible refine (impl_Stream_out.calls a0_0 _ _ l0_1 t484 _ ?side1 ?side2 A5.out).mono ?_);(case side1=>exact puC (Kd.C_below HR0_1.out HB.out));(case side2=>exact HC0_1.out);rintro e w20 ⟨rfl,hb⟩;have n0_:=m_ (blk_below (g:=gb482) (o:=.cells #[.string a0_0,.slice A0_1 l0_1.length c0_1] 25 (0,0)) (puB BK482.out) hb);have n1_:=m_ (l5_ (puM HB.out GE482.out) hb);revert n0_ n1_;clear BK482 HB;intro BK482 HB;(try clear hb);(try clear hb2);(try clear hk);(try clear hi))|(go_at_call 25;(with_reducible refine (impl_within.calls a1 0 (t484.size : Int) false _ A6.out).mono ?_);rintro e w' ⟨rfl,⟨nd,rfl⟩⟩))
   go_ret
   exact ⟨eqs,puM HB.out GE482.out⟩
 ·replace c4:=Bool.eq_false_iff.mpr c4
  subst c4
  replace H:=ifn H
  obtain rfl:=Option.some.inj H
  go_enter Tryz.func12,Tryz.ntmps12
  go_wp2_with (first|((with_reducible refine gate_dst (N:=2) rfl ?_);(try (refine gate_guard (by rfl) ?_;dsimp only));refine box_event ?hg (N:=2) ?hd (cs:=#[.string a0_0,.slice A0_1 l0_1.length c0_1]) (t:=25) ?hr ?_;(case hd=>rfl);(case hg=>rfl);(case hr=>first|(go_simp;done)|(go_simp;rfl));intro gb482 hg w21 hbox hb;have n0_:=m_ (l5_ (puL HB.out) hb);have n1_:=m_ (hbox);have n2_:=m_ ((by rw [hg];exact (l6_ (puL HB.out)) : w.heap.size ≤ gb482));have n3_:=m_ ((by rw [hg];exact (l6_ (puL HB.out)) : w.heap.size ≤ gb482));revert n0_ n1_ n2_ n3_;clear HB;intro HB BK482 GW482 GE482;clear hb hbox hg;have hcz22_0 : w21.cell? ⟨gb482,0,none⟩ = some (.string a0_0):=(c_ BK482.out 0).trans rfl;have hcz22_1 : w21.cell? ⟨gb482,1,none⟩ = some (.slice A0_1 l0_1.length c0_1):=(c_ BK482.out 1).trans rfl)|((with_reducible refine gate_callee (f:=21) rfl ?_);refine goesL_ (some 6) rfl rfl Tryz.func21 (by kernel_rfl) rfl #[.agg #[.string a0_0,.slice A0_1 l0_1.length c0_1]] rfl lens ?_;(with_reducible refine (impl_StreamOk.calls k a0_0 _ _ l0_1 false _ ?side1 ?side2 ?side3 A3.out).mono ?_);(case side1=>exact puC (Kd.C_below HR0_1.out HB.out));(case side2=>exact HC0_1.out);(case side3=>first|(with_reducible exact HG.out)|exact GV_below HG.out (puM HB.out GE482.out));rintro e w23 ⟨rfl,hb⟩;refine ⟨_,rfl,?_⟩;have n0_:=m_ (blk_below (g:=gb482) (o:=.cells #[.string a0_0,.slice A0_1 l0_1.length c0_1] 25 (0,0)) (puB BK482.out) hb);have n1_:=m_ (l5_ (puM HB.out GE482.out) hb);revert n0_ n1_;clear BK482 HB;intro BK482 HB;(try clear hb);(try clear hb2);(try clear hk);(try clear hi)))
  go_ret
  exact ⟨eqs,puM HB.out GE482.out⟩

end Go.Proofs.YtkcjmmhleepjeaaGreatDoor.A
