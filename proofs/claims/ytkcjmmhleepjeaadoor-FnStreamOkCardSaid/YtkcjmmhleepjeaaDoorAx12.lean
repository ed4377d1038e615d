-- Printed by myprint.py (wip/tools) out of the translation. Not trusted: Lean checks it.
import Derived.Test.YtkcjmmhleepjeaaDoorAx0
import Derived.Test.YtkcjmmhleepjeaaDoorAx3
import Derived.Test.YtkcjmmhleepjeaaDoorAx11
namespace Go.Proofs.YtkcjmmhleepjeaaDoor.A
open Go.RowKit Go.Proofs.YtkcjmmhleepjeaaDoorW.PrintWords Go.Proofs.YtkcjmmhleepjeaaDoorW.PrintLast Go.Proofs.YtkcjmmhleepjeaaDoorW.PrintMore
attribute [local go_sem] max2_int min2_int max_two min_two max_three min_three max_four min_four
set_option linter.unusedVariables false
set_option linter.unusedSimpArgs false

/-! ### spec_l3PieceIn: function 70 -/
def spec_l3PieceIn.j0 : Nat → List (S98) → ByteArray → Bool → Int → Bool → Int → Int → Option (ByteArray)
 | 0, _, _, _, _, _, _, _ => none
 | k + 1, x0, x2, x17, x365000, x365001, x365002, x365003 => if x17 = true then (some x2) else ((spec_l3In.f x0 x365003).bind fun bt366 => (if bt366.2.2 = true then ((spec_EndText.f k bt366.1 bt366.2.1).bind fun t370 => (if 1 + t370.size ≤ 9223372036854775807 then (if 1 + t370.size + 1 ≤ 9223372036854775807 then (some (((⟨#[64]⟩ : ByteArray) ++ t370) ++ (⟨#[59]⟩ : ByteArray))) else (none)) else (none))) else (some x2)))
def spec_l3PieceIn.f (k : Nat) (l0 : List (S98)) (a1_0 : Int) (a1_1 : Bool) (a1_2 : Int) (a1_3 : Int) (a2 : ByteArray) : Option (ByteArray) := if a1_1 = true then ((spec_EndDoor.f a1_2 a1_3).bind fun t365 => (spec_l3PieceIn.j0 k l0 a2 (!t365) a1_0 a1_1 a1_2 a1_3)) else (spec_l3PieceIn.j0 k l0 a2 true a1_0 a1_1 a1_2 a1_3)
theorem spec_l3PieceIn.mono_l : ∀ k, (∀ y0 y1 y2 y3 y4 y5 y6, LeO (spec_l3PieceIn.j0 k y0 y1 y2 y3 y4 y5 y6) (spec_l3PieceIn.j0 (k + 1) y0 y1 y2 y3 y4 y5 y6))
 | 0 => fun _ _ _ _ _ _ _ r h => by simp [spec_l3PieceIn.j0] at h
 | k + 1 => by
  have ih0:=spec_l3PieceIn.mono_l k
  ·intro y0 y1 y2 y3 y4 y5 y6
   unfold spec_l3PieceIn.j0
   repeat' first
   | (with_reducible exact ih0 _ _ _ _ _ _ _)
   | (with_reducible exact spec_EndText.mono _ _ _)
   | (with_reducible exact LeO.refl _)
   | (with_reducible exact LeO.none _)
   | (with_reducible refine LeO.ite ?_ ?_)
   | (with_reducible refine LeO.bind ?_ (fun _ => ?_))
   | exact ih0 _ _ _ _ _ _ _
   | exact spec_EndText.mono _ _ _
   | exact LeO.none _
   | refine LeO.ite ?_ ?_
   | refine LeO.bind ?_ (fun _ => ?_)
theorem spec_l3PieceIn.mono : ∀ a0 a1 a2 a3 a4 a5 k, LeO (spec_l3PieceIn.f k a0 a1 a2 a3 a4 a5) (spec_l3PieceIn.f (k + 1) a0 a1 a2 a3 a4 a5) := by
 intro a0 a1 a2 a3 a4 a5 k
 have ih0:=spec_l3PieceIn.mono_l k
 unfold spec_l3PieceIn.f
 repeat' first
   | (with_reducible exact ih0 _ _ _ _ _ _ _)
   | (with_reducible exact spec_EndText.mono _ _ _)
   | (with_reducible exact LeO.refl _)
   | (with_reducible exact LeO.none _)
   | (with_reducible refine LeO.ite ?_ ?_)
   | (with_reducible refine LeO.bind ?_ (fun _ => ?_))
   | exact ih0 _ _ _ _ _ _ _
   | exact spec_EndText.mono _ _ _
   | exact LeO.none _
   | refine LeO.ite ?_ ?_
   | refine LeO.bind ?_ (fun _ => ?_)
set_option maxHeartbeats 8000000 in
set_option maxRecDepth 100000 in
theorem spec_l3PieceIn.calls (k : Nat) (A0 : Option Addr) (c0 : Nat) (l0 : List (S98)) (a1_0 : Int) (a1_1 : Bool) (a1_2 : Int) (a1_3 : Int) (a2 : ByteArray) (r : ByteArray) (w : World) (hr0 : Kd.C k98 w A0 l0.length l0) (hc0 : l0.length ≤ c0) (h : spec_l3PieceIn.f k l0 a1_0 a1_1 a1_2 a1_3 a2 = some r) :
  Calls Tryd.prog 70 #[.slice A0 l0.length c0,.agg #[.int .i64 a1_0,.bool a1_1,.int .i64 a1_2,.int .i64 a1_3],.string a2] w fun e w'=>e = .returned (.string r) ∧ Below w.heap.size w w':=by
 have hu45:=Tryd.underlying45
 have hu43:=Tryd.underlying43
 have HR0:=m_ hr0
 have HC0:=m_ hc0
 clear hr0 hc0
 have HB:=m_ (Below.refl w.heap.size w)
 have H : (if a1_1 = true then ((spec_EndDoor.f a1_2 a1_3).bind fun t365=>(spec_l3PieceIn.j0 k l0 a2 (!t365) a1_0 a1_1 a1_2 a1_3)) else (spec_l3PieceIn.j0 k l0 a2 true a1_0 a1_1 a1_2 a1_3)) = some r:=h
 clear h
 have HC4:=m_ H
 clear H
 go_enter Tryd.func70,Tryd.ntmps70
 go_upto_region 1 with (first|((with_reducible refine gate_dst (N:=4) rfl ?_);refine box_event ?hg (N:=4) ?hd (cs:=#[.int .i64 a1_0,.bool a1_1,.int .i64 a1_2,.int .i64 a1_3]) (t:=45) ?hr ?_;(case hd=>rfl);(case hg=>rfl);(case hr=>first|(go_simp;done)|(go_simp;rfl));intro gb364 hg w5 hbox hb;have n0_:=m_ (l5_ (puL HB.out) hb);have n1_:=m_ (hbox);have n2_:=m_ ((by rw [hg];exact (l6_ (puL HB.out)) : w.heap.size ≤ gb364));have n3_:=n2_;revert n0_ n1_ n2_ n3_;clear HB;intro HB BK364 GW364 GE364;clear hb hbox hg))
 (try simp only [Act.put,s1_,s2_,s3_])
 go_cut [17] (fun v17 wc=>∃ (kq : Nat) (x17_3 : Bool),v17 = .bool x17_3 ∧ Aside0 (spec_l3PieceIn.j0 kq l0 a2 x17_3 a1_0 a1_1 a1_2 a1_3 = some r) ∧ Aside0 (kq ≤ k) ∧ Aside0 (wc.heap[gb364]? = some (.cells #[.int .i64 a1_0,.bool a1_1,.int .i64 a1_2,.int .i64 a1_3] 45 (0,0))) ∧ Aside0 (Below w.heap.size w wc))
 case first =>
  have H:=HC4.out
  clear HC4
  by_cases c6 : a1_1 = true
  ·subst c6
   have H1 : ((spec_EndDoor.f a1_2 a1_3).bind fun t365=>(spec_l3PieceIn.j0 k l0 a2 (!t365) a1_0 true a1_2 a1_3)) = some r:=by rw [if_pos rfl] at H;exact H
   clear H
   have H:=H1
   clear H1
   replace H:=Option.bind_eq_some_iff.mp H
   obtain ⟨t365,A70,H⟩:=H
   replace H : (spec_l3PieceIn.j0 k l0 a2 (!t365) a1_0 true a1_2 a1_3) = some r:=H
   have A7:=m_ A70
   clear A70
   have H':=m_ H
   clear H
   have hcz8_0 : w5.cell? ⟨gb364,0,none⟩ = some (.int .i64 a1_0):=(c_ BK364.out 0).trans rfl
   have hcz8_1 : w5.cell? ⟨gb364,1,none⟩ = some (.bool true):=(c_ BK364.out 1).trans rfl
   have hcz8_2 : w5.cell? ⟨gb364,2,none⟩ = some (.int .i64 a1_2):=(c_ BK364.out 2).trans rfl
   have hcz8_3 : w5.cell? ⟨gb364,3,none⟩ = some (.int .i64 a1_3):=(c_ BK364.out 3).trans rfl
   have hfz8_0:=f_ BK364.out 0
   have hfz8_1:=f_ BK364.out 1
   have hfz8_2:=f_ BK364.out 2
   have hfz8_3:=f_ BK364.out 3
   go_wp2_with (first|(go_at_call 81;(with_reducible refine (spec_EndDoor.calls a1_2 a1_3 t365 _ A7.out).mono ?_);rintro e w9 ⟨rfl,hb⟩;have n0_:=m_ (blk_below (g:=gb364) (o:=.cells #[.int .i64 a1_0,.bool true,.int .i64 a1_2,.int .i64 a1_3] 45 (0,0)) (puB BK364.out) hb);have n1_:=m_ (l5_ (puM HB.out GE364.out) hb);revert n0_ n1_;clear BK364 HB;intro BK364 HB;(try clear hb);(try clear hb2);(try clear hk);(try clear hi)))
   go_meet
   case rel=>exact ⟨_,(!t365),(by first|rfl|(simp;done)|(simp [*];done)),H',⟨by first|omega|exact Nat.le_refl _⟩,⟨by (with_reducible repeat first|apply b1_|apply b2_|apply b3_);exact BK364.out⟩,⟨puM HB.out GE364.out⟩⟩
  ·replace c6:=Bool.eq_false_iff.mpr c6
   subst c6
   have H1 : (spec_l3PieceIn.j0 k l0 a2 true a1_0 false a1_2 a1_3) = some r:=by rw [if_neg (show ¬ (false = true) by decide)] at H;exact H
   clear H
   have H:=H1
   clear H1
   have H':=m_ H
   clear H
   have hcz10_0 : w5.cell? ⟨gb364,0,none⟩ = some (.int .i64 a1_0):=(c_ BK364.out 0).trans rfl
   have hcz10_1 : w5.cell? ⟨gb364,1,none⟩ = some (.bool false):=(c_ BK364.out 1).trans rfl
   have hcz10_2 : w5.cell? ⟨gb364,2,none⟩ = some (.int .i64 a1_2):=(c_ BK364.out 2).trans rfl
   have hcz10_3 : w5.cell? ⟨gb364,3,none⟩ = some (.int .i64 a1_3):=(c_ BK364.out 3).trans rfl
   have hfz10_0:=f_ BK364.out 0
   have hfz10_1:=f_ BK364.out 1
   have hfz10_2:=f_ BK364.out 2
   have hfz10_3:=f_ BK364.out 3
   go_wp2
   go_meet
   case rel=>exact ⟨_,(true),(by first|rfl|(simp;done)|(simp [*];done)),H',⟨by first|omega|exact Nat.le_refl _⟩,⟨by (with_reducible repeat first|apply b1_|apply b2_|apply b3_);exact BK364.out⟩,⟨puM HB.out GE364.out⟩⟩
 case rest =>
  clear HC4
  try clear p2
  try clear c6
  try clear c7
  try clear hcz10_0
  try clear hcz10_1
  try clear hcz10_2
  try clear hcz10_3
  try clear hcz8_0
  try clear hcz8_1
  try clear hcz8_2
  try clear hcz8_3
  try clear hfz10_0
  try clear hfz10_1
  try clear hfz10_2
  try clear hfz10_3
  try clear hfz8_0
  try clear hfz8_1
  try clear hfz8_2
  try clear hfz8_3
  obtain ⟨kq,x17_3,rfl,HA,HJ3,BK364,HB⟩:=hcut
  cases kq with
  | zero => exact absurd HA.out (by simp [spec_l3PieceIn.j0])
  | succ kj3 =>
   have H:=HA.out
   clear HA
   simp only [spec_l3PieceIn.j0] at H
   by_cases c11 : x17_3 = true
   ·subst c11
    have H1 : (some a2) = some r:=by rw [if_pos rfl] at H;exact H
    clear H
    have H:=H1
    clear H1
    obtain rfl:=Option.some.inj H
    go_wp2
    go_ret
    exact ⟨eqs,puM HB.out GE364.out⟩
   ·replace c11:=Bool.eq_false_iff.mpr c11
    subst c11
    have H1 : ((spec_l3In.f l0 a1_3).bind fun bt366=>(if bt366.2.2 = true then ((spec_EndText.f kj3 bt366.1 bt366.2.1).bind fun t370=>(if 1 + t370.size ≤ 9223372036854775807 then (if 1 + t370.size + 1 ≤ 9223372036854775807 then (some (((⟨#[64]⟩ : ByteArray) ++ t370) ++ (⟨#[59]⟩ : ByteArray))) else (none)) else (none))) else (some a2))) = some r:=by rw [if_neg (show ¬ (false = true) by decide)] at H;exact H
    clear H
    have H:=H1
    clear H1
    replace H:=Option.bind_eq_some_iff.mp H
    obtain ⟨⟨t366,t367,t368⟩,A120,H⟩:=H
    replace H : (if t368 = true then ((spec_EndText.f kj3 t366 t367).bind fun t370=>(if 1 + t370.size ≤ 9223372036854775807 then (if 1 + t370.size + 1 ≤ 9223372036854775807 then (some (((⟨#[64]⟩ : ByteArray) ++ t370) ++ (⟨#[59]⟩ : ByteArray))) else (none)) else (none))) else (some a2)) = some r:=H
    have A12:=m_ A120
    clear A120
    by_cases c13 : t368 = true
    ·subst c13
     have H1 : ((spec_EndText.f kj3 t366 t367).bind fun t370=>(if 1 + t370.size ≤ 9223372036854775807 then (if 1 + t370.size + 1 ≤ 9223372036854775807 then (some (((⟨#[64]⟩ : ByteArray) ++ t370) ++ (⟨#[59]⟩ : ByteArray))) else (none)) else (none))) = some r:=by rw [if_pos rfl] at H;exact H
     clear H
     have H:=H1
     clear H1
     replace H:=Option.bind_eq_some_iff.mp H
     obtain ⟨t370,A140,H⟩:=H
     replace H : (if 1 + t370.size ≤ 9223372036854775807 then (if 1 + t370.size + 1 ≤ 9223372036854775807 then (some (((⟨#[64]⟩ : ByteArray) ++ t370) ++ (⟨#[59]⟩ : ByteArray))) else (none)) else (none)) = some r:=H
     have A14:=m_ A140
     clear A140
     by_cases c15 : 1 + t370.size ≤ 9223372036854775807
     rotate_left
     ·rw [if_neg c15] at H
      exact absurd H (by simp)
     rw [if_pos c15] at H
     have c15b0:=eq_true c15
     have c15b1:=decide_eq_true c15
     try have c15b2 : (9223372036854775807 < 1 + t370.size) = False:=eq_false (Nat.not_lt.2 c15)
     by_cases c16 : 1 + t370.size + 1 ≤ 9223372036854775807
     rotate_left
     ·rw [if_neg c16] at H
      exact absurd H (by simp)
     rw [if_pos c16] at H
     have c16b0:=eq_true c16
     have c16b1:=decide_eq_true c16
     try have c16b2 : (9223372036854775807 < 1 + t370.size + 1) = False:=eq_false (Nat.not_lt.2 c16)
     obtain rfl:=Option.some.inj H
     have hcz17_0 : wc.cell? ⟨gb364,0,none⟩ = some (.int .i64 a1_0):=(c_ BK364.out 0).trans rfl
     have hcz17_1 : wc.cell? ⟨gb364,1,none⟩ = some (.bool a1_1):=(c_ BK364.out 1).trans rfl
     have hcz17_2 : wc.cell? ⟨gb364,2,none⟩ = some (.int .i64 a1_2):=(c_ BK364.out 2).trans rfl
     have hcz17_3 : wc.cell? ⟨gb364,3,none⟩ = some (.int .i64 a1_3):=(c_ BK364.out 3).trans rfl
     have hfz17_0:=f_ BK364.out 0
     have hfz17_1:=f_ BK364.out 1
     have hfz17_2:=f_ BK364.out 2
     have hfz17_3:=f_ BK364.out 3
     go_wp2_with (first|((with_reducible refine gate_callee (f:=82) rfl ?_);refine goesL_ (some 24) rfl rfl Tryd.func82 (by kernel_rfl) rfl #[.slice A0 l0.length c0,.int .i64 a1_3] rfl lens ?_;(with_reducible refine (spec_l3In.calls _ _ l0 a1_3 t366 t367 true _ ?side1 ?side2 A12.out).mono ?_);(case side1=>repeat (first|exact (Kd.C_below HR0.out HB.out)|(with_reducible refine Kd.C_alloc ?_ _)|(with_reducible refine Kd.C_drewN ?_ _)|(with_reducible refine Kd.C_drew ?_)));(case side2=>exact HC0.out);rintro e w18 ⟨rfl,hb⟩;refine ⟨_,rfl,?_⟩;have n0_:=m_ (blk_below (g:=gb364) (o:=.cells #[.int .i64 a1_0,.bool a1_1,.int .i64 a1_2,.int .i64 a1_3] 45 (0,0)) (puB BK364.out) hb);have n1_:=m_ (l5_ (puM HB.out GE364.out) hb);revert n0_ n1_;clear BK364 HB;intro BK364 HB;(try clear hb);(try clear hb2);(try clear hk);(try clear hi))|((with_reducible refine gate_dst (N:=7) rfl ?_);refine box_event ?hg (N:=7) ?hd (cs:=#[.int .i64 0,.int .i64 0]) (t:=43) ?hr ?_;(case hd=>rfl);(case hg=>rfl);(case hr=>first|(go_simp;done)|(go_simp;rfl));intro gb369 hg w19 hbox hb;have n0_:=m_ (blk_below (g:=gb364) (o:=.cells #[.int .i64 a1_0,.bool a1_1,.int .i64 a1_2,.int .i64 a1_3] 45 (0,0)) (puB BK364.out) hb);have n1_:=m_ (l5_ (puM HB.out GE364.out) hb);have n2_:=m_ (hbox);have n3_:=m_ ((by rw [hg];exact (l6_ (puM HB.out GE364.out)) : w.heap.size ≤ gb369));have n4_:=n3_;have n5_:=m_ ((by rw [hg];exact Nat.ne_of_lt (blk_lt (g:=gb364) (o:=.cells #[.int .i64 a1_0,.bool a1_1,.int .i64 a1_2,.int .i64 a1_3] 45 (0,0)) (puB BK364.out)) : gb364 ≠ gb369));have n6_:=m_ ((by rw [hg];exact Nat.ne_of_gt (blk_lt (g:=gb364) (o:=.cells #[.int .i64 a1_0,.bool a1_1,.int .i64 a1_2,.int .i64 a1_3] 45 (0,0)) (puB BK364.out)) : gb369 ≠ gb364));revert n0_ n1_ n2_ n3_ n4_ n5_ n6_;clear BK364 HB;intro BK364 HB BK369 GW369 GE369 NB364_369 NB369_364;clear hb hbox hg;have hnb20:=NB369_364.out;have hnc20:=NB364_369.out;have hcz21_0 : w19.cell? ⟨gb369,0,none⟩ = some (.int .i64 0):=(c_ BK369.out 0).trans rfl;have hcz21_1 : w19.cell? ⟨gb369,1,none⟩ = some (.int .i64 0):=(c_ BK369.out 1).trans rfl;have hfz21_0:=f_ BK369.out 0;have hfz21_1:=f_ BK369.out 1)|((with_reducible refine gate_callee (f:=67) rfl ?_);refine goesL_ (some 31) rfl rfl Tryd.func67 (by kernel_rfl) rfl #[.agg #[.int .i64 t366,.int .i64 t367]] rfl lens ?_;(with_reducible refine (spec_EndText.calls kj3 t366 t367 t370 _ A14.out).mono ?_);rintro e w22 ⟨rfl,hb⟩;refine ⟨_,rfl,?_⟩;have n0_:=m_ (blk_below (g:=gb364) (o:=.cells #[.int .i64 a1_0,.bool a1_1,.int .i64 a1_2,.int .i64 a1_3] 45 (0,0)) (by (with_reducible repeat first|apply b1_|apply b2_|apply b3_);refine b4_ ?_ NB364_369.out _;(with_reducible repeat first|apply b1_|apply b2_|apply b3_);refine b4_ ?_ NB364_369.out _;(with_reducible repeat first|apply b1_|apply b2_|apply b3_);exact BK364.out) hb);have n1_:=m_ (blk_below (g:=gb369) (o:=.cells #[.int .i64 t366,.int .i64 t367] 43 (0,0)) (by (with_reducible repeat first|apply b1_|apply b2_|apply b3_);refine blk_put (cs:=#[.int .i64 t366,.int .i64 0]) ?_ 1 _ rfl;(with_reducible repeat first|apply b1_|apply b2_|apply b3_);refine blk_put (cs:=#[.int .i64 0,.int .i64 0]) ?_ 0 _ rfl;(with_reducible repeat first|apply b1_|apply b2_|apply b3_);exact BK369.out) hb);have n2_:=m_ (l5_ (puN HB.out GE364.out GE369.out) hb);revert n0_ n1_ n2_;clear BK364 BK369 HB;intro BK364 BK369 HB;(try clear hb);(try clear hb2);(try clear hk);(try clear hi)))
     go_ret
     exact ⟨eqs,puN HB.out GE364.out GE369.out⟩
    ·replace c13:=Bool.eq_false_iff.mpr c13
     subst c13
     have H1 : (some a2) = some r:=by rw [if_neg (show ¬ (false = true) by decide)] at H;exact H
     clear H
     have H:=H1
     clear H1
     obtain rfl:=Option.some.inj H
     have hcz23_0 : wc.cell? ⟨gb364,0,none⟩ = some (.int .i64 a1_0):=(c_ BK364.out 0).trans rfl
     have hcz23_1 : wc.cell? ⟨gb364,1,none⟩ = some (.bool a1_1):=(c_ BK364.out 1).trans rfl
     have hcz23_2 : wc.cell? ⟨gb364,2,none⟩ = some (.int .i64 a1_2):=(c_ BK364.out 2).trans rfl
     have hcz23_3 : wc.cell? ⟨gb364,3,none⟩ = some (.int .i64 a1_3):=(c_ BK364.out 3).trans rfl
     have hfz23_0:=f_ BK364.out 0
     have hfz23_1:=f_ BK364.out 1
     have hfz23_2:=f_ BK364.out 2
     have hfz23_3:=f_ BK364.out 3
     go_wp2_with (first|((with_reducible refine gate_callee (f:=82) rfl ?_);refine goesL_ (some 24) rfl rfl Tryd.func82 (by kernel_rfl) rfl #[.slice A0 l0.length c0,.int .i64 a1_3] rfl lens ?_;(with_reducible refine (spec_l3In.calls _ _ l0 a1_3 t366 t367 false _ ?side1 ?side2 A12.out).mono ?_);(case side1=>repeat (first|exact (Kd.C_below HR0.out HB.out)|(with_reducible refine Kd.C_alloc ?_ _)|(with_reducible refine Kd.C_drewN ?_ _)|(with_reducible refine Kd.C_drew ?_)));(case side2=>exact HC0.out);rintro e w24 ⟨rfl,hb⟩;refine ⟨_,rfl,?_⟩;have n0_:=m_ (blk_below (g:=gb364) (o:=.cells #[.int .i64 a1_0,.bool a1_1,.int .i64 a1_2,.int .i64 a1_3] 45 (0,0)) (puB BK364.out) hb);have n1_:=m_ (l5_ (puM HB.out GE364.out) hb);revert n0_ n1_;clear BK364 HB;intro BK364 HB;(try clear hb);(try clear hb2);(try clear hk);(try clear hi))|((with_reducible refine gate_dst (N:=7) rfl ?_);refine box_event ?hg (N:=7) ?hd (cs:=#[.int .i64 0,.int .i64 0]) (t:=43) ?hr ?_;(case hd=>rfl);(case hg=>rfl);(case hr=>first|(go_simp;done)|(go_simp;rfl));intro gb369 hg w25 hbox hb;have n0_:=m_ (blk_below (g:=gb364) (o:=.cells #[.int .i64 a1_0,.bool a1_1,.int .i64 a1_2,.int .i64 a1_3] 45 (0,0)) (puB BK364.out) hb);have n1_:=m_ (l5_ (puM HB.out GE364.out) hb);have n2_:=m_ (hbox);have n3_:=m_ ((by rw [hg];exact (l6_ (puM HB.out GE364.out)) : w.heap.size ≤ gb369));have n4_:=n3_;have n5_:=m_ ((by rw [hg];exact Nat.ne_of_lt (blk_lt (g:=gb364) (o:=.cells #[.int .i64 a1_0,.bool a1_1,.int .i64 a1_2,.int .i64 a1_3] 45 (0,0)) (puB BK364.out)) : gb364 ≠ gb369));have n6_:=m_ n5_.out.symm;revert n0_ n1_ n2_ n3_ n4_ n5_ n6_;clear BK364 HB;intro BK364 HB BK369 GW369 GE369 NB364_369 NB369_364;clear hb hbox hg;have hnb26:=NB369_364.out;have hnc26:=NB364_369.out;have hcz27_0 : w25.cell? ⟨gb369,0,none⟩ = some (.int .i64 0):=(c_ BK369.out 0).trans rfl;have hcz27_1 : w25.cell? ⟨gb369,1,none⟩ = some (.int .i64 0):=(c_ BK369.out 1).trans rfl;have hfz27_0:=f_ BK369.out 0;have hfz27_1:=f_ BK369.out 1))
     go_ret
     exact ⟨eqs,puN HB.out GE364.out GE369.out⟩

end Go.Proofs.YtkcjmmhleepjeaaDoor.A
