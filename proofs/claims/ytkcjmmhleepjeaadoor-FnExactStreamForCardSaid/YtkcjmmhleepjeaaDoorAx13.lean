-- Printed by myprint.py (wip/tools) out of the translation. Not trusted: Lean checks it.
import Derived.Test.YtkcjmmhleepjeaaDoorAx0
import Derived.Test.YtkcjmmhleepjeaaDoorAx2
import Derived.Test.YtkcjmmhleepjeaaDoorAx5
import Derived.Test.YtkcjmmhleepjeaaDoorAx6
import Derived.Test.YtkcjmmhleepjeaaDoorAx8
namespace Go.Proofs.YtkcjmmhleepjeaaDoor.A
open Go.RowKit Go.Proofs.YtkcjmmhleepjeaaDoorW.PrintWords Go.Proofs.YtkcjmmhleepjeaaDoorW.PrintLast Go.Proofs.YtkcjmmhleepjeaaDoorW.PrintMore
attribute [local go_sem] max2_int min2_int max_two min_two max_three min_three max_four min_four   -- for this text's walks alone
set_option linter.unusedVariables false
set_option linter.unusedSimpArgs false

/-! ### spec_l11For: function 32 -/
def spec_l11For.l0 : Nat → Int → Int → Int → ByteArray → List (S41) → Option (Int)
 | 0, _, _, _, _, _ => none
 | k + 1, x1, x5, x6, x319000, x319001 => if x6 < (x319001.length : Int) then (if 0 ≤ x6 then (if ((rd_T41 x319001 x6).f0) ≤ x1 then (spec_l11For.l0 k (wrap64 (x1 - ((rd_T41 x319001 x6).f0))) (wrap64 (x5 + (((rd_T41 x319001 x6).f1).size : Int))) (wrap64 (x6 + 1)) x319000 x319001) else (some x5)) else (none)) else (some x5)
def spec_l11For.f (k : Nat) (a0_0 : ByteArray) (l0_1 : List (S41)) (a1 : Int) : Option (Int) := spec_l11For.l0 k a1 0 0 a0_0 l0_1
theorem spec_l11For.mono_l : ∀ k, (∀ y0 y1 y2 y3 y4, LeO (spec_l11For.l0 k y0 y1 y2 y3 y4) (spec_l11For.l0 (k + 1) y0 y1 y2 y3 y4))
 | 0 => fun _ _ _ _ _ r h => by simp [spec_l11For.l0] at h
 | k + 1 => by
  have ih0:=spec_l11For.mono_l k
  ·intro y0 y1 y2 y3 y4
   unfold spec_l11For.l0
   repeat' first
   | (with_reducible exact ih0 _ _ _ _ _)
   | (with_reducible exact LeO.refl _)
   | (with_reducible exact LeO.none _)
   | (with_reducible refine LeO.ite ?_ ?_)
   | (with_reducible refine LeO.bind ?_ (fun _ => ?_))
   | exact ih0 _ _ _ _ _
   | exact LeO.none _
   | refine LeO.ite ?_ ?_
   | refine LeO.bind ?_ (fun _ => ?_)
theorem spec_l11For.mono : ∀ a0 a1 a2 k, LeO (spec_l11For.f k a0 a1 a2) (spec_l11For.f (k + 1) a0 a1 a2) := by
 intro a0 a1 a2 k
 have ih0:=spec_l11For.mono_l k
 unfold spec_l11For.f
 repeat' first
   | (with_reducible exact ih0 _ _ _ _ _)
   | (with_reducible exact LeO.refl _)
   | (with_reducible exact LeO.none _)
   | (with_reducible refine LeO.ite ?_ ?_)
   | (with_reducible refine LeO.bind ?_ (fun _ => ?_))
   | exact ih0 _ _ _ _ _
   | exact LeO.none _
   | refine LeO.ite ?_ ?_
   | refine LeO.bind ?_ (fun _ => ?_)
set_option maxHeartbeats 8000000 in
set_option maxRecDepth 100000 in
theorem spec_l11For.calls (k : Nat) (a0_0 : ByteArray) (A0_1 : Option Addr) (c0_1 : Nat) (l0_1 : List (S41)) (a1 : Int) (r : Int) (w : World) (hr0_1 : Kd.C k41 w A0_1 l0_1.length l0_1) (hc0_1 : l0_1.length ≤ c0_1) (h : spec_l11For.f k a0_0 l0_1 a1 = some r) :
  Calls Tryd.prog 32 #[.agg #[.string a0_0,.slice A0_1 l0_1.length c0_1],.int .i64 a1] w fun e w'=>e = .returned (.int .i64 r) ∧ Below w.heap.size w w':=by
 have hu29:=Tryd.underlying29
 have HR0_1:=m_ hr0_1
 have HC0_1:=m_ hc0_1
 clear hr0_1 hc0_1
 have HB:=m_ (Below.refl w.heap.size w)
 have H : (spec_l11For.l0 k a1 0 0 a0_0 l0_1) = some r:=h
 clear h
 have H':=m_ H
 clear H
 go_enter Tryd.func32,Tryd.ntmps32
 go_wp2_with (first|((with_reducible refine gate_dst (N:=2) rfl ?_);refine box_event ?hg (N:=2) ?hd (cs:=#[.string a0_0,.slice A0_1 l0_1.length c0_1]) (t:=29) ?hr ?_;(case hd=>rfl);(case hg=>rfl);(case hr=>first|(go_simp;done)|(go_simp;rfl));intro gb318 hg w3 hbox hb;have n0_:=m_ (l5_ (by repeat (first|(with_reducible first|exact HB.out|apply l1_|apply l2_|apply l3_)|exact HB.out)) hb);have n1_:=m_ (hbox);have n2_:=m_ ((by rw [hg];exact (l6_ (by repeat (first|(with_reducible first|exact HB.out|apply l1_|apply l2_|apply l3_)|exact HB.out))) : w.heap.size ≤ gb318));have n3_:=n2_;clear HB;have HB:=n0_;have BK318:=n1_;have GW318:=n2_;have GE318:=n3_;clear n0_ n1_ n2_ n3_;clear hb hbox hg))
 go_loopg [1,5,6] k (fun kq v1 v5 v6 w'=>∃ (x1_1 : Int) (x5_1 : Int) (x6_1 : Int),v1 = .int .i64 x1_1 ∧ v5 = .int .i64 x5_1 ∧ v6 = .int .i64 x6_1 ∧ Aside0 (spec_l11For.l0 kq x1_1 x5_1 x6_1 a0_0 l0_1 = some r) ∧ Aside0 (kq ≤ k) ∧ Aside0 (w'.heap[gb318]? = some (.cells #[.string a0_0,(.slice A0_1 l0_1.length c0_1)] 29 (0,0))) ∧ Aside0 (Below w.heap.size w w'))
 case atStart=>exact ⟨(a1),(0),(0),(by first|rfl|(simp;done)|(simp [*];done)),(by first|rfl|(simp;done)|(simp [*];done)),(by first|rfl|(simp;done)|(simp [*];done)),H',⟨Nat.le_refl _⟩,⟨by (with_reducible repeat first|apply b1_|apply b2_|apply b3_);exact BK318.out⟩,⟨by repeat (first|(with_reducible first|exact HB.out|apply l1_|apply l2_|apply l3_|refine l4_ ?_ GE318.out)|exact HB.out)⟩⟩
 case round =>
  clear H'
  try clear p2
  try clear c3
  obtain ⟨x1_1,x5_1,x6_1,rfl,rfl,rfl,HA,HK1,BK318,HB⟩:=hrel
  cases gk with
  | zero => exact absurd HA.out (by simp [spec_l11For.l0])
  | succ k1 =>
   have H:=HA.out
   clear HA
   simp only [spec_l11For.l0] at H
   by_cases c4 : x6_1 < (l0_1.length : Int)
   ·rw [if_pos c4] at H
    have c4b0 : decide (x6_1 < (l0_1.length : Int)) = true:=decide_eq_true c4
    clear c4
    by_cases c5 : 0 ≤ x6_1
    ·rw [if_pos c5] at H
     have c5b0 : decide (0 ≤ x6_1) = true:=decide_eq_true c5
     clear c5
     by_cases c6 : ((rd_T41 l0_1 x6_1).f0) ≤ x1_1
     ·rw [if_pos c6] at H
      have c6b0 : decide (((rd_T41 l0_1 x6_1).f0) ≤ x1_1) = true:=decide_eq_true c6
      clear c6
      have H':=m_ H
      clear H
      have hcz7_0 : wr.cell? ⟨gb318,0,none⟩ = some (.string a0_0):=(c_ BK318.out 0).trans rfl
      have hcz7_1 : wr.cell? ⟨gb318,1,none⟩ = some (.slice A0_1 l0_1.length c0_1):=(c_ BK318.out 1).trans rfl
      have p319 : 0 ≤ (x6_1 : Int):=of_decide_eq_true (by first|(with_reducible assumption)|assumption)
      have q319 : x6_1 < (l0_1.length : Int):=of_decide_eq_true (by first|(with_reducible assumption)|assumption)
      obtain ⟨ad319,e319,hx319_0,hx319_1⟩:=at_T41 HR0_1.out x6_1 p319 q319
      cases e319
      replace hx319_0:=(HB.out.cell (World.block_lt_of_cell? w _ hx319_0)).trans hx319_0
      replace hx319_1:=(HB.out.cell (World.block_lt_of_cell? w _ hx319_1)).trans hx319_1
      replace p319:=eq_true p319
      replace q319:=eq_true q319
      have p320 : 0 ≤ (x6_1 : Int):=of_decide_eq_true (by first|(with_reducible assumption)|assumption)
      have q320 : x6_1 < (l0_1.length : Int):=of_decide_eq_true (by first|(with_reducible assumption)|assumption)
      obtain ⟨ad320,e320,hx320_0,hx320_1⟩:=at_T41 HR0_1.out x6_1 p320 q320
      obtain rfl : ad319 = ad320:=(by injection e320)
      replace hx320_0:=(HB.out.cell (World.block_lt_of_cell? w _ hx320_0)).trans hx320_0
      replace hx320_1:=(HB.out.cell (World.block_lt_of_cell? w _ hx320_1)).trans hx320_1
      replace p320:=eq_true p320
      replace q320:=eq_true q320
      have p321 : 0 ≤ (x6_1 : Int):=of_decide_eq_true (by first|(with_reducible assumption)|assumption)
      have q321 : x6_1 < (l0_1.length : Int):=of_decide_eq_true (by first|(with_reducible assumption)|assumption)
      obtain ⟨ad321,e321,hx321_0,hx321_1⟩:=at_T41 HR0_1.out x6_1 p321 q321
      obtain rfl : ad319 = ad321:=(by injection e321)
      replace hx321_0:=(HB.out.cell (World.block_lt_of_cell? w _ hx321_0)).trans hx321_0
      replace hx321_1:=(HB.out.cell (World.block_lt_of_cell? w _ hx321_1)).trans hx321_1
      replace p321:=eq_true p321
      replace q321:=eq_true q321
      go_wp2
      go_roundg k1
      case measure=>have:=HK1.out;omega
      case rel=>exact ⟨(wrap64 (x1_1 - ((rd_T41 l0_1 x6_1).f0))),(wrap64 (x5_1 + (((rd_T41 l0_1 x6_1).f1).size : Int))),(wrap64 (x6_1 + 1)),(by first|rfl|(simp;done)|(simp [*];done)),(by first|rfl|(simp;done)|(simp [*];done)),(by first|rfl|(simp;done)|(simp [*];done)),H',⟨by have:=HK1.out;omega⟩,⟨by (with_reducible repeat first|apply b1_|apply b2_|apply b3_);exact BK318.out⟩,⟨by repeat (first|(with_reducible first|exact HB.out|apply l1_|apply l2_|apply l3_|refine l4_ ?_ GE318.out)|exact HB.out)⟩⟩
     ·rw [if_neg c6] at H
      have c6b0 : decide (((rd_T41 l0_1 x6_1).f0) ≤ x1_1) = false:=decide_eq_false c6
      clear c6
      obtain rfl:=Option.some.inj H
      have hcz8_0 : wr.cell? ⟨gb318,0,none⟩ = some (.string a0_0):=(c_ BK318.out 0).trans rfl
      have hcz8_1 : wr.cell? ⟨gb318,1,none⟩ = some (.slice A0_1 l0_1.length c0_1):=(c_ BK318.out 1).trans rfl
      have p319 : 0 ≤ (x6_1 : Int):=of_decide_eq_true (by first|(with_reducible assumption)|assumption)
      have q319 : x6_1 < (l0_1.length : Int):=of_decide_eq_true (by first|(with_reducible assumption)|assumption)
      obtain ⟨ad319,e319,hx319_0,hx319_1⟩:=at_T41 HR0_1.out x6_1 p319 q319
      cases e319
      replace hx319_0:=(HB.out.cell (World.block_lt_of_cell? w _ hx319_0)).trans hx319_0
      replace hx319_1:=(HB.out.cell (World.block_lt_of_cell? w _ hx319_1)).trans hx319_1
      replace p319:=eq_true p319
      replace q319:=eq_true q319
      go_wp2
      go_ret
      exact ⟨by first|rfl|(simp [e1_,e2_] <;> rfl)|(simp [*,e1_,e2_] <;> rfl)|(simp [e1_,e2_,pk_empty1,pk_empty2];done)|(simp [*,e1_,e2_,pk_empty1,pk_empty2];done),by repeat (first|(with_reducible first|exact HB.out|apply l1_|apply l2_|apply l3_|refine l4_ ?_ GE318.out)|exact HB.out)⟩
    ·rw [if_neg c5] at H
     exact absurd H (by simp)
   ·rw [if_neg c4] at H
    have c4b0 : decide (x6_1 < (l0_1.length : Int)) = false:=decide_eq_false c4
    clear c4
    obtain rfl:=Option.some.inj H
    have hcz9_0 : wr.cell? ⟨gb318,0,none⟩ = some (.string a0_0):=(c_ BK318.out 0).trans rfl
    have hcz9_1 : wr.cell? ⟨gb318,1,none⟩ = some (.slice A0_1 l0_1.length c0_1):=(c_ BK318.out 1).trans rfl
    go_wp2
    go_ret
    exact ⟨by first|rfl|(simp [e1_,e2_] <;> rfl)|(simp [*,e1_,e2_] <;> rfl)|(simp [e1_,e2_,pk_empty1,pk_empty2];done)|(simp [*,e1_,e2_,pk_empty1,pk_empty2];done),by repeat (first|(with_reducible first|exact HB.out|apply l1_|apply l2_|apply l3_|refine l4_ ?_ GE318.out)|exact HB.out)⟩

/-! ### spec_StreamFor: function 13 -/
def spec_StreamFor.f (k : Nat) (a0_0 : ByteArray) (l0_1 : List (S41)) (a1 : Int) : Option (Int) := (spec_StreamOk.f k a0_0 l0_1).bind fun t323 => (if t323 = true then ((spec_l6In.f a1 0 (a0_0.size : Int)).bind fun t324 => (if t324 = true then ((spec_l11For.f k a0_0 l0_1 a1).bind fun t325 => (some t325)) else (some (-1)))) else (some (-1)))
theorem spec_StreamFor.mono : ∀ a0 a1 a2 k, LeO (spec_StreamFor.f k a0 a1 a2) (spec_StreamFor.f (k + 1) a0 a1 a2) := by
 intro a0 a1 a2 k
 unfold spec_StreamFor.f
 repeat' first
   | (with_reducible exact spec_StreamOk.mono _ _ _)
   | (with_reducible exact spec_l11For.mono _ _ _ _)
   | (with_reducible exact LeO.refl _)
   | (with_reducible exact LeO.none _)
   | (with_reducible refine LeO.ite ?_ ?_)
   | (with_reducible refine LeO.bind ?_ (fun _ => ?_))
   | exact spec_StreamOk.mono _ _ _
   | exact spec_l11For.mono _ _ _ _
   | exact LeO.none _
   | refine LeO.ite ?_ ?_
   | refine LeO.bind ?_ (fun _ => ?_)
set_option maxHeartbeats 8000000 in
set_option maxRecDepth 100000 in
theorem spec_StreamFor.calls (k : Nat) (a0_0 : ByteArray) (A0_1 : Option Addr) (c0_1 : Nat) (l0_1 : List (S41)) (a1 : Int) (r : Int) (w : World) (hr0_1 : Kd.C k41 w A0_1 l0_1.length l0_1) (hc0_1 : l0_1.length ≤ c0_1) (h : spec_StreamFor.f k a0_0 l0_1 a1 = some r) :
  Calls Tryd.prog 13 #[.agg #[.string a0_0,.slice A0_1 l0_1.length c0_1],.int .i64 a1] w fun e w'=>e = .returned (.int .i64 r) ∧ Below w.heap.size w w':=by
 have hu29:=Tryd.underlying29
 have HR0_1:=m_ hr0_1
 have HC0_1:=m_ hc0_1
 clear hr0_1 hc0_1
 have HB:=m_ (Below.refl w.heap.size w)
 have H : ((spec_StreamOk.f k a0_0 l0_1).bind fun t323=>(if t323 = true then ((spec_l6In.f a1 0 (a0_0.size : Int)).bind fun t324=>(if t324 = true then ((spec_l11For.f k a0_0 l0_1 a1).bind fun t325=>(some t325)) else (some (-1)))) else (some (-1)))) = some r:=h
 clear h
 replace H:=Option.bind_eq_some_iff.mp H
 obtain ⟨t323,A30,H⟩:=H
 replace H : (if t323 = true then ((spec_l6In.f a1 0 (a0_0.size : Int)).bind fun t324=>(if t324 = true then ((spec_l11For.f k a0_0 l0_1 a1).bind fun t325=>(some t325)) else (some (-1)))) else (some (-1))) = some r:=H
 have A3:=m_ A30
 clear A30
 by_cases c4 : t323 = true
 ·subst c4
  have H1 : ((spec_l6In.f a1 0 (a0_0.size : Int)).bind fun t324=>(if t324 = true then ((spec_l11For.f k a0_0 l0_1 a1).bind fun t325=>(some t325)) else (some (-1)))) = some r:=by rw [if_pos rfl] at H;exact H
  clear H
  have H:=H1
  clear H1
  replace H:=Option.bind_eq_some_iff.mp H
  obtain ⟨t324,A50,H⟩:=H
  replace H : (if t324 = true then ((spec_l11For.f k a0_0 l0_1 a1).bind fun t325=>(some t325)) else (some (-1))) = some r:=H
  have A5:=m_ A50
  clear A50
  by_cases c6 : t324 = true
  ·subst c6
   have H1 : ((spec_l11For.f k a0_0 l0_1 a1).bind fun t325=>(some t325)) = some r:=by rw [if_pos rfl] at H;exact H
   clear H
   have H:=H1
   clear H1
   replace H:=Option.bind_eq_some_iff.mp H
   obtain ⟨t325,A70,H⟩:=H
   replace H : (some t325) = some r:=H
   have A7:=m_ A70
   clear A70
   obtain rfl:=Option.some.inj H
   go_enter Tryd.func13,Tryd.ntmps13
   go_wp2_with (first|((with_reducible refine gate_dst (N:=2) rfl ?_);(try (refine gate_guard (by rfl) ?_;dsimp only));refine box_event ?hg (N:=2) ?hd (cs:=#[.string a0_0,.slice A0_1 l0_1.length c0_1]) (t:=29) ?hr ?_;(case hd=>rfl);(case hg=>rfl);(case hr=>first|(go_simp;done)|(go_simp;rfl));intro gb322 hg w8 hbox hb;have n0_:=m_ (l5_ (by repeat (first|(with_reducible first|exact HB.out|apply l1_|apply l2_|apply l3_)|exact HB.out)) hb);have n1_:=m_ (hbox);have n2_:=m_ ((by rw [hg];exact (l6_ (by repeat (first|(with_reducible first|exact HB.out|apply l1_|apply l2_|apply l3_)|exact HB.out))) : w.heap.size ≤ gb322));have n3_:=m_ ((by rw [hg];exact (l6_ (by repeat (first|(with_reducible first|exact HB.out|apply l1_|apply l2_|apply l3_)|exact HB.out))) : w.heap.size ≤ gb322));clear HB;have HB:=n0_;have BK322:=n1_;have GW322:=n2_;have GE322:=n3_;clear n0_ n1_ n2_ n3_;clear hb hbox hg;have hcz9_0 : w8.cell? ⟨gb322,0,none⟩ = some (.string a0_0):=(c_ BK322.out 0).trans rfl;have hcz9_1 : w8.cell? ⟨gb322,1,none⟩ = some (.slice A0_1 l0_1.length c0_1):=(c_ BK322.out 1).trans rfl)|((with_reducible refine gate_callee (f:=9) rfl ?_);refine goesL_ (some 6) rfl rfl Tryd.func9 (by kernel_rfl) rfl #[.agg #[.string a0_0,.slice A0_1 l0_1.length c0_1]] rfl (by (try simp only [List.map_toArray,List.map_cons,List.map_nil]);first|done|rfl|(simp only [List.length_drop,List.length_take];rfl)) ?_;(with_reducible refine (spec_StreamOk.calls k a0_0 _ _ l0_1 true _ ?side1 ?side2 A3.out).mono ?_);(case side1=>repeat (first|exact (Kd.C_below HR0_1.out HB.out)|(with_reducible refine Kd.C_alloc ?_ _)|(with_reducible refine Kd.C_drewN ?_ _)|(with_reducible refine Kd.C_drew ?_)));(case side2=>exact HC0_1.out);rintro e w10 ⟨rfl,hb⟩;refine ⟨_,rfl,?_⟩;have n0_:=m_ (blk_below (g:=gb322) (o:=.cells #[.string a0_0,.slice A0_1 l0_1.length c0_1] 29 (0,0)) (by (with_reducible repeat first|apply b1_|apply b2_|apply b3_);exact BK322.out) hb);have n1_:=m_ (l5_ (by repeat (first|(with_reducible first|exact HB.out|apply l1_|apply l2_|apply l3_|refine l4_ ?_ GE322.out)|exact HB.out)) hb);clear BK322;clear HB;have BK322:=n0_;have HB:=n1_;clear n0_ n1_;(try clear hb);(try clear hb2);(try clear hk);(try clear hi);have hcz11_0 : w10.cell? ⟨gb322,0,none⟩ = some (.string a0_0):=(c_ BK322.out 0).trans rfl;have hcz11_1 : w10.cell? ⟨gb322,1,none⟩ = some (.slice A0_1 l0_1.length c0_1):=(c_ BK322.out 1).trans rfl)|(go_at_call 31;(with_reducible refine (spec_l6In.calls a1 0 (a0_0.size : Int) true _ A5.out).mono ?_);rintro e w' ⟨rfl,⟨nd,rfl⟩⟩)|((with_reducible refine gate_callee (f:=32) rfl ?_);refine goesL_ (some 18) rfl rfl Tryd.func32 (by kernel_rfl) rfl #[.agg #[.string a0_0,.slice A0_1 l0_1.length c0_1],.int .i64 a1] rfl (by (try simp only [List.map_toArray,List.map_cons,List.map_nil]);first|done|rfl|(simp only [List.length_drop,List.length_take];rfl)) ?_;(with_reducible refine (spec_l11For.calls k a0_0 _ _ l0_1 a1 t325 _ ?side1 ?side2 A7.out).mono ?_);(case side1=>repeat (first|exact (Kd.C_below HR0_1.out (by repeat (first|(with_reducible first|exact HB.out|apply l1_|apply l2_|apply l3_|refine l4_ ?_ GE322.out)|exact HB.out)))|(with_reducible refine Kd.C_alloc ?_ _)|(with_reducible refine Kd.C_drewN ?_ _)|(with_reducible refine Kd.C_drew ?_)));(case side2=>exact HC0_1.out);rintro e w12 ⟨rfl,hb⟩;refine ⟨_,rfl,?_⟩;have n0_:=m_ (blk_below (g:=gb322) (o:=.cells #[.string a0_0,.slice A0_1 l0_1.length c0_1] 29 (0,0)) (by (with_reducible repeat first|apply b1_|apply b2_|apply b3_);exact BK322.out) hb);have n1_:=m_ (l5_ (by repeat (first|(with_reducible first|exact HB.out|apply l1_|apply l2_|apply l3_|refine l4_ ?_ GE322.out)|exact HB.out)) hb);clear BK322;clear HB;have BK322:=n0_;have HB:=n1_;clear n0_ n1_;(try clear hb);(try clear hb2);(try clear hk);(try clear hi)))
   go_ret
   exact ⟨by first|rfl|(simp [e1_,e2_] <;> rfl)|(simp [*,e1_,e2_] <;> rfl)|(simp [e1_,e2_,pk_empty1,pk_empty2];done)|(simp [*,e1_,e2_,pk_empty1,pk_empty2];done),by repeat (first|(with_reducible first|exact HB.out|apply l1_|apply l2_|apply l3_|refine l4_ ?_ GE322.out)|exact HB.out)⟩
  ·replace c6:=Bool.eq_false_iff.mpr c6
   subst c6
   have H1 : (some (-1)) = some r:=by rw [if_neg (show ¬ (false = true) by decide)] at H;exact H
   clear H
   have H:=H1
   clear H1
   obtain rfl:=Option.some.inj H
   go_enter Tryd.func13,Tryd.ntmps13
   go_wp2_with (first|((with_reducible refine gate_dst (N:=2) rfl ?_);(try (refine gate_guard (by rfl) ?_;dsimp only));refine box_event ?hg (N:=2) ?hd (cs:=#[.string a0_0,.slice A0_1 l0_1.length c0_1]) (t:=29) ?hr ?_;(case hd=>rfl);(case hg=>rfl);(case hr=>first|(go_simp;done)|(go_simp;rfl));intro gb322 hg w13 hbox hb;have n0_:=m_ (l5_ (by repeat (first|(with_reducible first|exact HB.out|apply l1_|apply l2_|apply l3_)|exact HB.out)) hb);have n1_:=m_ (hbox);have n2_:=m_ ((by rw [hg];exact (l6_ (by repeat (first|(with_reducible first|exact HB.out|apply l1_|apply l2_|apply l3_)|exact HB.out))) : w.heap.size ≤ gb322));have n3_:=m_ ((by rw [hg];exact (l6_ (by repeat (first|(with_reducible first|exact HB.out|apply l1_|apply l2_|apply l3_)|exact HB.out))) : w.heap.size ≤ gb322));clear HB;have HB:=n0_;have BK322:=n1_;have GW322:=n2_;have GE322:=n3_;clear n0_ n1_ n2_ n3_;clear hb hbox hg;have hcz14_0 : w13.cell? ⟨gb322,0,none⟩ = some (.string a0_0):=(c_ BK322.out 0).trans rfl;have hcz14_1 : w13.cell? ⟨gb322,1,none⟩ = some (.slice A0_1 l0_1.length c0_1):=(c_ BK322.out 1).trans rfl)|((with_reducible refine gate_callee (f:=9) rfl ?_);refine goesL_ (some 6) rfl rfl Tryd.func9 (by kernel_rfl) rfl #[.agg #[.string a0_0,.slice A0_1 l0_1.length c0_1]] rfl (by (try simp only [List.map_toArray,List.map_cons,List.map_nil]);first|done|rfl|(simp only [List.length_drop,List.length_take];rfl)) ?_;(with_reducible refine (spec_StreamOk.calls k a0_0 _ _ l0_1 true _ ?side1 ?side2 A3.out).mono ?_);(case side1=>repeat (first|exact (Kd.C_below HR0_1.out HB.out)|(with_reducible refine Kd.C_alloc ?_ _)|(with_reducible refine Kd.C_drewN ?_ _)|(with_reducible refine Kd.C_drew ?_)));(case side2=>exact HC0_1.out);rintro e w15 ⟨rfl,hb⟩;refine ⟨_,rfl,?_⟩;have n0_:=m_ (blk_below (g:=gb322) (o:=.cells #[.string a0_0,.slice A0_1 l0_1.length c0_1] 29 (0,0)) (by (with_reducible repeat first|apply b1_|apply b2_|apply b3_);exact BK322.out) hb);have n1_:=m_ (l5_ (by repeat (first|(with_reducible first|exact HB.out|apply l1_|apply l2_|apply l3_|refine l4_ ?_ GE322.out)|exact HB.out)) hb);clear BK322;clear HB;have BK322:=n0_;have HB:=n1_;clear n0_ n1_;(try clear hb);(try clear hb2);(try clear hk);(try clear hi);have hcz16_0 : w15.cell? ⟨gb322,0,none⟩ = some (.string a0_0):=(c_ BK322.out 0).trans rfl;have hcz16_1 : w15.cell? ⟨gb322,1,none⟩ = some (.slice A0_1 l0_1.length c0_1):=(c_ BK322.out 1).trans rfl)|(go_at_call 31;(with_reducible refine (spec_l6In.calls a1 0 (a0_0.size : Int) false _ A5.out).mono ?_);rintro e w' ⟨rfl,⟨nd,rfl⟩⟩))
   go_ret
   exact ⟨by first|rfl|(simp [e1_,e2_] <;> rfl)|(simp [*,e1_,e2_] <;> rfl)|(simp [e1_,e2_,pk_empty1,pk_empty2];done)|(simp [*,e1_,e2_,pk_empty1,pk_empty2];done),by repeat (first|(with_reducible first|exact HB.out|apply l1_|apply l2_|apply l3_|refine l4_ ?_ GE322.out)|exact HB.out)⟩
 ·replace c4:=Bool.eq_false_iff.mpr c4
  subst c4
  have H1 : (some (-1)) = some r:=by rw [if_neg (show ¬ (false = true) by decide)] at H;exact H
  clear H
  have H:=H1
  clear H1
  obtain rfl:=Option.some.inj H
  go_enter Tryd.func13,Tryd.ntmps13
  go_wp2_with (first|((with_reducible refine gate_dst (N:=2) rfl ?_);(try (refine gate_guard (by rfl) ?_;dsimp only));refine box_event ?hg (N:=2) ?hd (cs:=#[.string a0_0,.slice A0_1 l0_1.length c0_1]) (t:=29) ?hr ?_;(case hd=>rfl);(case hg=>rfl);(case hr=>first|(go_simp;done)|(go_simp;rfl));intro gb322 hg w17 hbox hb;have n0_:=m_ (l5_ (by repeat (first|(with_reducible first|exact HB.out|apply l1_|apply l2_|apply l3_)|exact HB.out)) hb);have n1_:=m_ (hbox);have n2_:=m_ ((by rw [hg];exact (l6_ (by repeat (first|(with_reducible first|exact HB.out|apply l1_|apply l2_|apply l3_)|exact HB.out))) : w.heap.size ≤ gb322));have n3_:=m_ ((by rw [hg];exact (l6_ (by repeat (first|(with_reducible first|exact HB.out|apply l1_|apply l2_|apply l3_)|exact HB.out))) : w.heap.size ≤ gb322));clear HB;have HB:=n0_;have BK322:=n1_;have GW322:=n2_;have GE322:=n3_;clear n0_ n1_ n2_ n3_;clear hb hbox hg;have hcz18_0 : w17.cell? ⟨gb322,0,none⟩ = some (.string a0_0):=(c_ BK322.out 0).trans rfl;have hcz18_1 : w17.cell? ⟨gb322,1,none⟩ = some (.slice A0_1 l0_1.length c0_1):=(c_ BK322.out 1).trans rfl)|((with_reducible refine gate_callee (f:=9) rfl ?_);refine goesL_ (some 6) rfl rfl Tryd.func9 (by kernel_rfl) rfl #[.agg #[.string a0_0,.slice A0_1 l0_1.length c0_1]] rfl (by (try simp only [List.map_toArray,List.map_cons,List.map_nil]);first|done|rfl|(simp only [List.length_drop,List.length_take];rfl)) ?_;(with_reducible refine (spec_StreamOk.calls k a0_0 _ _ l0_1 false _ ?side1 ?side2 A3.out).mono ?_);(case side1=>repeat (first|exact (Kd.C_below HR0_1.out HB.out)|(with_reducible refine Kd.C_alloc ?_ _)|(with_reducible refine Kd.C_drewN ?_ _)|(with_reducible refine Kd.C_drew ?_)));(case side2=>exact HC0_1.out);rintro e w19 ⟨rfl,hb⟩;refine ⟨_,rfl,?_⟩;have n0_:=m_ (blk_below (g:=gb322) (o:=.cells #[.string a0_0,.slice A0_1 l0_1.length c0_1] 29 (0,0)) (by (with_reducible repeat first|apply b1_|apply b2_|apply b3_);exact BK322.out) hb);have n1_:=m_ (l5_ (by repeat (first|(with_reducible first|exact HB.out|apply l1_|apply l2_|apply l3_|refine l4_ ?_ GE322.out)|exact HB.out)) hb);clear BK322;clear HB;have BK322:=n0_;have HB:=n1_;clear n0_ n1_;(try clear hb);(try clear hb2);(try clear hk);(try clear hi)))
  go_ret
  exact ⟨by first|rfl|(simp [e1_,e2_] <;> rfl)|(simp [*,e1_,e2_] <;> rfl)|(simp [e1_,e2_,pk_empty1,pk_empty2];done)|(simp [*,e1_,e2_,pk_empty1,pk_empty2];done),by repeat (first|(with_reducible first|exact HB.out|apply l1_|apply l2_|apply l3_|refine l4_ ?_ GE322.out)|exact HB.out)⟩

/-! ### impl_Stream_forth: function 33 -/
def impl_Stream_forth.l0 : Nat → Int → Int → List (S41) → Int → Int → Option (Int)
 | 0, _, _, _, _, _ => none
 | k + 1, x1, x5, x9, x10, x11 => if x11 < x10 then (if 0 ≤ x11 then (if x11 < (x9.length : Int) then (if (wrap64 (x1 - ((rd_T41 x9 x11).f0))) < 0 then (some x5) else (impl_Stream_forth.l0 k (wrap64 (x1 - ((rd_T41 x9 x11).f0))) (wrap64 (x5 + (((rd_T41 x9 x11).f1).size : Int))) x9 x10 (wrap64 (x11 + 1)))) else (none)) else (none)) else (some x5)
def impl_Stream_forth.f (k : Nat) (a0_0 : ByteArray) (l0_1 : List (S41)) (a1 : Int) : Option (Int) := impl_Stream_forth.l0 k a1 0 l0_1 (l0_1.length : Int) 0
theorem impl_Stream_forth.mono_l : ∀ k, (∀ y0 y1 y2 y3 y4, LeO (impl_Stream_forth.l0 k y0 y1 y2 y3 y4) (impl_Stream_forth.l0 (k + 1) y0 y1 y2 y3 y4))
 | 0 => fun _ _ _ _ _ r h => by simp [impl_Stream_forth.l0] at h
 | k + 1 => by
  have ih0:=impl_Stream_forth.mono_l k
  ·intro y0 y1 y2 y3 y4
   unfold impl_Stream_forth.l0
   repeat' first
   | (with_reducible exact ih0 _ _ _ _ _)
   | (with_reducible exact LeO.refl _)
   | (with_reducible exact LeO.none _)
   | (with_reducible refine LeO.ite ?_ ?_)
   | (with_reducible refine LeO.bind ?_ (fun _ => ?_))
   | exact ih0 _ _ _ _ _
   | exact LeO.none _
   | refine LeO.ite ?_ ?_
   | refine LeO.bind ?_ (fun _ => ?_)
theorem impl_Stream_forth.mono : ∀ a0 a1 a2 k, LeO (impl_Stream_forth.f k a0 a1 a2) (impl_Stream_forth.f (k + 1) a0 a1 a2) := by
 intro a0 a1 a2 k
 have ih0:=impl_Stream_forth.mono_l k
 unfold impl_Stream_forth.f
 repeat' first
   | (with_reducible exact ih0 _ _ _ _ _)
   | (with_reducible exact LeO.refl _)
   | (with_reducible exact LeO.none _)
   | (with_reducible refine LeO.ite ?_ ?_)
   | (with_reducible refine LeO.bind ?_ (fun _ => ?_))
   | exact ih0 _ _ _ _ _
   | exact LeO.none _
   | refine LeO.ite ?_ ?_
   | refine LeO.bind ?_ (fun _ => ?_)
set_option maxHeartbeats 8000000 in
set_option maxRecDepth 100000 in
theorem impl_Stream_forth.calls (k : Nat) (a0_0 : ByteArray) (A0_1 : Option Addr) (c0_1 : Nat) (l0_1 : List (S41)) (a1 : Int) (r : Int) (w : World) (hr0_1 : Kd.C k41 w A0_1 l0_1.length l0_1) (hc0_1 : l0_1.length ≤ c0_1) (h : impl_Stream_forth.f k a0_0 l0_1 a1 = some r) :
  Calls Tryd.prog 33 #[.agg #[.string a0_0,.slice A0_1 l0_1.length c0_1],.int .i64 a1] w fun e w'=>e = .returned (.int .i64 r) ∧ Below w.heap.size w w':=by
 have hu29:=Tryd.underlying29
 have hu41:=Tryd.underlying41
 have HR0_1:=m_ hr0_1
 have HC0_1:=m_ hc0_1
 clear hr0_1 hc0_1
 have HB:=m_ (Below.refl w.heap.size w)
 have H : (impl_Stream_forth.l0 k a1 0 l0_1 (l0_1.length : Int) 0) = some r:=h
 clear h
 have H':=m_ H
 clear H
 go_enter Tryd.func33,Tryd.ntmps33
 go_wp2_with (first|((with_reducible refine gate_dst (N:=2) rfl ?_);refine box_event ?hg (N:=2) ?hd (cs:=#[.string a0_0,.slice A0_1 l0_1.length c0_1]) (t:=29) ?hr ?_;(case hd=>rfl);(case hg=>rfl);(case hr=>first|(go_simp;done)|(go_simp;rfl));intro gb326 hg w3 hbox hb;have n0_:=m_ (l5_ (by repeat (first|(with_reducible first|exact HB.out|apply l1_|apply l2_|apply l3_)|exact HB.out)) hb);have n1_:=m_ (hbox);have n2_:=m_ ((by rw [hg];exact (l6_ (by repeat (first|(with_reducible first|exact HB.out|apply l1_|apply l2_|apply l3_)|exact HB.out))) : w.heap.size ≤ gb326));have n3_:=n2_;clear HB;have HB:=n0_;have BK326:=n1_;have GW326:=n2_;have GE326:=n3_;clear n0_ n1_ n2_ n3_;clear hb hbox hg;have hcz4_0 : w3.cell? ⟨gb326,0,none⟩ = some (.string a0_0):=(c_ BK326.out 0).trans rfl;have hcz4_1 : w3.cell? ⟨gb326,1,none⟩ = some (.slice A0_1 l0_1.length c0_1):=(c_ BK326.out 1).trans rfl;have hfz4_0:=f_ BK326.out 0;have hfz4_1:=f_ BK326.out 1))
 go_loopg [1,5,11] k (fun kq v1 v5 v11 w'=>∃ (x1_1 : Int) (x5_1 : Int) (x11_1 : Int),v1 = .int .i64 x1_1 ∧ v5 = .int .i64 x5_1 ∧ v11 = .int .i64 x11_1 ∧ Aside0 (impl_Stream_forth.l0 kq x1_1 x5_1 l0_1 (l0_1.length : Int) x11_1 = some r) ∧ Aside0 (kq ≤ k) ∧ Aside0 (w'.heap[gb326]? = some (.cells #[.string a0_0,(.slice A0_1 l0_1.length c0_1)] 29 (0,0))) ∧ Aside0 (Below w.heap.size w w'))
 case atStart=>exact ⟨(a1),(0),(0),(by first|rfl|(simp;done)|(simp [*];done)),(by first|rfl|(simp;done)|(simp [*];done)),(by first|rfl|(simp;done)|(simp [*];done)),H',⟨Nat.le_refl _⟩,⟨by (with_reducible repeat first|apply b1_|apply b2_|apply b3_);exact BK326.out⟩,⟨by repeat (first|(with_reducible first|exact HB.out|apply l1_|apply l2_|apply l3_|refine l4_ ?_ GE326.out)|exact HB.out)⟩⟩
 case round =>
  clear H'
  try clear p2
  try clear c3
  try clear hcz4_0
  try clear hcz4_1
  try clear hfz4_0
  try clear hfz4_1
  obtain ⟨x1_1,x5_1,x11_1,rfl,rfl,rfl,HA,HK1,BK326,HB⟩:=hrel
  cases gk with
  | zero => exact absurd HA.out (by simp [impl_Stream_forth.l0])
  | succ k1 =>
   have H:=HA.out
   clear HA
   simp only [impl_Stream_forth.l0] at H
   by_cases c5 : x11_1 < (l0_1.length : Int)
   ·rw [if_pos c5] at H
    have c5b0 : decide (x11_1 < (l0_1.length : Int)) = true:=decide_eq_true c5
    clear c5
    by_cases c6 : 0 ≤ x11_1
    ·rw [if_pos c6] at H
     have c6b0 : decide (0 ≤ x11_1) = true:=decide_eq_true c6
     clear c6
     by_cases c7 : x11_1 < (l0_1.length : Int)
     ·rw [if_pos c7] at H
      have c7b0 : decide (x11_1 < (l0_1.length : Int)) = true:=decide_eq_true c7
      clear c7
      by_cases c8 : (wrap64 (x1_1 - ((rd_T41 l0_1 x11_1).f0))) < 0
      ·rw [if_pos c8] at H
       have c8b0 : decide ((wrap64 (x1_1 - ((rd_T41 l0_1 x11_1).f0))) < 0) = true:=decide_eq_true c8
       clear c8
       obtain rfl:=Option.some.inj H
       have p327 : 0 ≤ (x11_1 : Int):=of_decide_eq_true (by first|(with_reducible assumption)|assumption)
       have q327 : x11_1 < (l0_1.length : Int):=of_decide_eq_true (by first|(with_reducible assumption)|assumption)
       obtain ⟨ad327,e327,hx327_0,hx327_1⟩:=at_T41 HR0_1.out x11_1 p327 q327
       cases e327
       replace hx327_0:=(HB.out.cell (World.block_lt_of_cell? w _ hx327_0)).trans hx327_0
       replace hx327_1:=(HB.out.cell (World.block_lt_of_cell? w _ hx327_1)).trans hx327_1
       replace p327:=eq_true p327
       replace q327:=eq_true q327
       go_wp2_with (first|((with_reducible refine gate_dst (N:=7) rfl ?_);refine box_event ?hg (N:=7) ?hd (cs:=#[.int .i64 0,.string (⟨#[]⟩ : ByteArray)]) (t:=41) ?hr ?_;(case hd=>rfl);(case hg=>rfl);(case hr=>first|(go_simp;done)|(go_simp;rfl));intro gb328 hg w9 hbox hb;have n0_:=m_ (blk_below (g:=gb326) (o:=.cells #[.string a0_0,.slice (some ad327) l0_1.length c0_1] 29 (0,0)) (by (with_reducible repeat first|apply b1_|apply b2_|apply b3_);exact BK326.out) hb);have n1_:=m_ (l5_ (by repeat (first|(with_reducible first|exact HB.out|apply l1_|apply l2_|apply l3_|refine l4_ ?_ GE326.out)|exact HB.out)) hb);have n2_:=m_ (hbox);have n3_:=m_ ((by rw [hg];exact (l6_ (by repeat (first|(with_reducible first|exact HB.out|apply l1_|apply l2_|apply l3_|refine l4_ ?_ GE326.out)|exact HB.out))) : w.heap.size ≤ gb328));have n4_:=n3_;have n5_:=m_ ((by rw [hg];exact Nat.ne_of_lt (blk_lt (g:=gb326) (o:=.cells #[.string a0_0,.slice (some ad327) l0_1.length c0_1] 29 (0,0)) (by (with_reducible repeat first|apply b1_|apply b2_|apply b3_);exact BK326.out)) : gb326 ≠ gb328));have n6_:=m_ n5_.out.symm;clear BK326;clear HB;have BK326:=n0_;have HB:=n1_;have BK328:=n2_;have GW328:=n3_;have GE328:=n4_;have NB326_328:=n5_;have NB328_326:=n6_;clear n0_ n1_ n2_ n3_ n4_ n5_ n6_;clear hb hbox hg;have hnb10:=NB328_326.out;have hnc10:=NB326_328.out;have hcz11_0 : w9.cell? ⟨gb328,0,none⟩ = some (.int .i64 0):=(c_ BK328.out 0).trans rfl;have hcz11_1 : w9.cell? ⟨gb328,1,none⟩ = some (.string (⟨#[]⟩ : ByteArray)):=(c_ BK328.out 1).trans rfl;have hfz11_0:=f_ BK328.out 0;have hfz11_1:=f_ BK328.out 1))
       go_ret
       exact ⟨by first|rfl|(simp [e1_,e2_] <;> rfl)|(simp [*,e1_,e2_] <;> rfl)|(simp [e1_,e2_,pk_empty1,pk_empty2];done)|(simp [*,e1_,e2_,pk_empty1,pk_empty2];done),by repeat (first|(with_reducible first|exact HB.out|apply l1_|apply l2_|apply l3_|refine l4_ ?_ GE326.out|refine l4_ ?_ GE328.out)|exact HB.out)⟩
      ·rw [if_neg c8] at H
       have c8b0 : decide ((wrap64 (x1_1 - ((rd_T41 l0_1 x11_1).f0))) < 0) = false:=decide_eq_false c8
       clear c8
       have H':=m_ H
       clear H
       have p327 : 0 ≤ (x11_1 : Int):=of_decide_eq_true (by first|(with_reducible assumption)|assumption)
       have q327 : x11_1 < (l0_1.length : Int):=of_decide_eq_true (by first|(with_reducible assumption)|assumption)
       obtain ⟨ad327,e327,hx327_0,hx327_1⟩:=at_T41 HR0_1.out x11_1 p327 q327
       cases e327
       replace hx327_0:=(HB.out.cell (World.block_lt_of_cell? w _ hx327_0)).trans hx327_0
       replace hx327_1:=(HB.out.cell (World.block_lt_of_cell? w _ hx327_1)).trans hx327_1
       replace p327:=eq_true p327
       replace q327:=eq_true q327
       go_wp2_with (first|((with_reducible refine gate_dst (N:=7) rfl ?_);refine box_event ?hg (N:=7) ?hd (cs:=#[.int .i64 0,.string (⟨#[]⟩ : ByteArray)]) (t:=41) ?hr ?_;(case hd=>rfl);(case hg=>rfl);(case hr=>first|(go_simp;done)|(go_simp;rfl));intro gb328 hg w12 hbox hb;have n0_:=m_ (blk_below (g:=gb326) (o:=.cells #[.string a0_0,.slice (some ad327) l0_1.length c0_1] 29 (0,0)) (by (with_reducible repeat first|apply b1_|apply b2_|apply b3_);exact BK326.out) hb);have n1_:=m_ (l5_ (by repeat (first|(with_reducible first|exact HB.out|apply l1_|apply l2_|apply l3_|refine l4_ ?_ GE326.out)|exact HB.out)) hb);have n2_:=m_ (hbox);have n3_:=m_ ((by rw [hg];exact (l6_ (by repeat (first|(with_reducible first|exact HB.out|apply l1_|apply l2_|apply l3_|refine l4_ ?_ GE326.out)|exact HB.out))) : w.heap.size ≤ gb328));have n4_:=n3_;have n5_:=m_ ((by rw [hg];exact Nat.ne_of_lt (blk_lt (g:=gb326) (o:=.cells #[.string a0_0,.slice (some ad327) l0_1.length c0_1] 29 (0,0)) (by (with_reducible repeat first|apply b1_|apply b2_|apply b3_);exact BK326.out)) : gb326 ≠ gb328));have n6_:=m_ n5_.out.symm;clear BK326;clear HB;have BK326:=n0_;have HB:=n1_;have BK328:=n2_;have GW328:=n3_;have GE328:=n4_;have NB326_328:=n5_;have NB328_326:=n6_;clear n0_ n1_ n2_ n3_ n4_ n5_ n6_;clear hb hbox hg;have hnb13:=NB328_326.out;have hnc13:=NB326_328.out;have hcz14_0 : w12.cell? ⟨gb328,0,none⟩ = some (.int .i64 0):=(c_ BK328.out 0).trans rfl;have hcz14_1 : w12.cell? ⟨gb328,1,none⟩ = some (.string (⟨#[]⟩ : ByteArray)):=(c_ BK328.out 1).trans rfl;have hfz14_0:=f_ BK328.out 0;have hfz14_1:=f_ BK328.out 1))
       go_roundg k1
       case measure=>have:=HK1.out;omega
       case rel=>exact ⟨(wrap64 (x1_1 - ((rd_T41 l0_1 x11_1).f0))),(wrap64 (x5_1 + (((rd_T41 l0_1 x11_1).f1).size : Int))),(wrap64 (x11_1 + 1)),(by first|rfl|(simp;done)|(simp [*];done)),(by first|rfl|(simp;done)|(simp [*];done)),(by first|rfl|(simp;done)|(simp [*];done)),H',⟨by have:=HK1.out;omega⟩,⟨by (with_reducible repeat first|apply b1_|apply b2_|apply b3_);refine b4_ ?_ NB326_328.out _;(with_reducible repeat first|apply b1_|apply b2_|apply b3_);refine b4_ ?_ NB326_328.out _;(with_reducible repeat first|apply b1_|apply b2_|apply b3_);exact BK326.out⟩,⟨by repeat (first|(with_reducible first|exact HB.out|apply l1_|apply l2_|apply l3_|refine l4_ ?_ GE326.out|refine l4_ ?_ GE328.out)|exact HB.out)⟩⟩
     ·rw [if_neg c7] at H
      exact absurd H (by simp)
    ·rw [if_neg c6] at H
     exact absurd H (by simp)
   ·rw [if_neg c5] at H
    have c5b0 : decide (x11_1 < (l0_1.length : Int)) = false:=decide_eq_false c5
    clear c5
    obtain rfl:=Option.some.inj H
    go_wp2
    go_ret
    exact ⟨by first|rfl|(simp [e1_,e2_] <;> rfl)|(simp [*,e1_,e2_] <;> rfl)|(simp [e1_,e2_,pk_empty1,pk_empty2];done)|(simp [*,e1_,e2_,pk_empty1,pk_empty2];done),by repeat (first|(with_reducible first|exact HB.out|apply l1_|apply l2_|apply l3_|refine l4_ ?_ GE326.out)|exact HB.out)⟩

/-! ### impl_StreamFor: function 14 -/
def impl_StreamFor.f (k : Nat) (a0_0 : ByteArray) (l0_1 : List (S41)) (a1 : Int) : Option (Int) := (impl_StreamOk.f k a0_0 l0_1).bind fun t330 => (if t330 = true then ((impl_within.f a1 0 (a0_0.size : Int)).bind fun t331 => (if t331 = true then ((impl_Stream_forth.f k a0_0 l0_1 a1).bind fun t332 => (some t332)) else (some (-1)))) else (some (-1)))
theorem impl_StreamFor.mono : ∀ a0 a1 a2 k, LeO (impl_StreamFor.f k a0 a1 a2) (impl_StreamFor.f (k + 1) a0 a1 a2) := by
 intro a0 a1 a2 k
 unfold impl_StreamFor.f
 repeat' first
   | (with_reducible exact impl_StreamOk.mono _ _ _)
   | (with_reducible exact impl_Stream_forth.mono _ _ _ _)
   | (with_reducible exact LeO.refl _)
   | (with_reducible exact LeO.none _)
   | (with_reducible refine LeO.ite ?_ ?_)
   | (with_reducible refine LeO.bind ?_ (fun _ => ?_))
   | exact impl_StreamOk.mono _ _ _
   | exact impl_Stream_forth.mono _ _ _ _
   | exact LeO.none _
   | refine LeO.ite ?_ ?_
   | refine LeO.bind ?_ (fun _ => ?_)
set_option maxHeartbeats 8000000 in
set_option maxRecDepth 100000 in
theorem impl_StreamFor.calls (k : Nat) (a0_0 : ByteArray) (A0_1 : Option Addr) (c0_1 : Nat) (l0_1 : List (S41)) (a1 : Int) (r : Int) (w : World) (hr0_1 : Kd.C k41 w A0_1 l0_1.length l0_1) (hc0_1 : l0_1.length ≤ c0_1) (hG : GV w) (h : impl_StreamFor.f k a0_0 l0_1 a1 = some r) :
  Calls Tryd.prog 14 #[.agg #[.string a0_0,.slice A0_1 l0_1.length c0_1],.int .i64 a1] w fun e w'=>e = .returned (.int .i64 r) ∧ Below w.heap.size w w':=by
 have hu29:=Tryd.underlying29
 have HG:=m_ hG
 clear hG
 have HR0_1:=m_ hr0_1
 have HC0_1:=m_ hc0_1
 clear hr0_1 hc0_1
 have HB:=m_ (Below.refl w.heap.size w)
 have H : ((impl_StreamOk.f k a0_0 l0_1).bind fun t330=>(if t330 = true then ((impl_within.f a1 0 (a0_0.size : Int)).bind fun t331=>(if t331 = true then ((impl_Stream_forth.f k a0_0 l0_1 a1).bind fun t332=>(some t332)) else (some (-1)))) else (some (-1)))) = some r:=h
 clear h
 replace H:=Option.bind_eq_some_iff.mp H
 obtain ⟨t330,A30,H⟩:=H
 replace H : (if t330 = true then ((impl_within.f a1 0 (a0_0.size : Int)).bind fun t331=>(if t331 = true then ((impl_Stream_forth.f k a0_0 l0_1 a1).bind fun t332=>(some t332)) else (some (-1)))) else (some (-1))) = some r:=H
 have A3:=m_ A30
 clear A30
 by_cases c4 : t330 = true
 ·subst c4
  have H1 : ((impl_within.f a1 0 (a0_0.size : Int)).bind fun t331=>(if t331 = true then ((impl_Stream_forth.f k a0_0 l0_1 a1).bind fun t332=>(some t332)) else (some (-1)))) = some r:=by rw [if_pos rfl] at H;exact H
  clear H
  have H:=H1
  clear H1
  replace H:=Option.bind_eq_some_iff.mp H
  obtain ⟨t331,A50,H⟩:=H
  replace H : (if t331 = true then ((impl_Stream_forth.f k a0_0 l0_1 a1).bind fun t332=>(some t332)) else (some (-1))) = some r:=H
  have A5:=m_ A50
  clear A50
  by_cases c6 : t331 = true
  ·subst c6
   have H1 : ((impl_Stream_forth.f k a0_0 l0_1 a1).bind fun t332=>(some t332)) = some r:=by rw [if_pos rfl] at H;exact H
   clear H
   have H:=H1
   clear H1
   replace H:=Option.bind_eq_some_iff.mp H
   obtain ⟨t332,A70,H⟩:=H
   replace H : (some t332) = some r:=H
   have A7:=m_ A70
   clear A70
   obtain rfl:=Option.some.inj H
   go_enter Tryd.func14,Tryd.ntmps14
   go_wp2_with (first|((with_reducible refine gate_dst (N:=2) rfl ?_);(try (refine gate_guard (by rfl) ?_;dsimp only));refine box_event ?hg (N:=2) ?hd (cs:=#[.string a0_0,.slice A0_1 l0_1.length c0_1]) (t:=29) ?hr ?_;(case hd=>rfl);(case hg=>rfl);(case hr=>first|(go_simp;done)|(go_simp;rfl));intro gb329 hg w8 hbox hb;have n0_:=m_ (l5_ (by repeat (first|(with_reducible first|exact HB.out|apply l1_|apply l2_|apply l3_)|exact HB.out)) hb);have n1_:=m_ (hbox);have n2_:=m_ ((by rw [hg];exact (l6_ (by repeat (first|(with_reducible first|exact HB.out|apply l1_|apply l2_|apply l3_)|exact HB.out))) : w.heap.size ≤ gb329));have n3_:=m_ ((by rw [hg];exact (l6_ (by repeat (first|(with_reducible first|exact HB.out|apply l1_|apply l2_|apply l3_)|exact HB.out))) : w.heap.size ≤ gb329));clear HB;have HB:=n0_;have BK329:=n1_;have GW329:=n2_;have GE329:=n3_;clear n0_ n1_ n2_ n3_;clear hb hbox hg;have hcz9_0 : w8.cell? ⟨gb329,0,none⟩ = some (.string a0_0):=(c_ BK329.out 0).trans rfl;have hcz9_1 : w8.cell? ⟨gb329,1,none⟩ = some (.slice A0_1 l0_1.length c0_1):=(c_ BK329.out 1).trans rfl)|((with_reducible refine gate_callee (f:=11) rfl ?_);refine goesL_ (some 6) rfl rfl Tryd.func11 (by kernel_rfl) rfl #[.agg #[.string a0_0,.slice A0_1 l0_1.length c0_1]] rfl (by (try simp only [List.map_toArray,List.map_cons,List.map_nil]);first|done|rfl|(simp only [List.length_drop,List.length_take];rfl)) ?_;(with_reducible refine (impl_StreamOk.calls k a0_0 _ _ l0_1 true _ ?side1 ?side2 ?side3 A3.out).mono ?_);(case side1=>repeat (first|exact (Kd.C_below HR0_1.out HB.out)|(with_reducible refine Kd.C_alloc ?_ _)|(with_reducible refine Kd.C_drewN ?_ _)|(with_reducible refine Kd.C_drew ?_)));(case side2=>exact HC0_1.out);(case side3=>first|(with_reducible exact HG.out)|exact GV_below HG.out (by repeat (first|(with_reducible first|exact HB.out|apply l1_|apply l2_|apply l3_|refine l4_ ?_ GE329.out)|exact HB.out)));rintro e w10 ⟨rfl,hb⟩;refine ⟨_,rfl,?_⟩;have n0_:=m_ (blk_below (g:=gb329) (o:=.cells #[.string a0_0,.slice A0_1 l0_1.length c0_1] 29 (0,0)) (by (with_reducible repeat first|apply b1_|apply b2_|apply b3_);exact BK329.out) hb);have n1_:=m_ (l5_ (by repeat (first|(with_reducible first|exact HB.out|apply l1_|apply l2_|apply l3_|refine l4_ ?_ GE329.out)|exact HB.out)) hb);clear BK329;clear HB;have BK329:=n0_;have HB:=n1_;clear n0_ n1_;(try clear hb);(try clear hb2);(try clear hk);(try clear hi);have hcz11_0 : w10.cell? ⟨gb329,0,none⟩ = some (.string a0_0):=(c_ BK329.out 0).trans rfl;have hcz11_1 : w10.cell? ⟨gb329,1,none⟩ = some (.slice A0_1 l0_1.length c0_1):=(c_ BK329.out 1).trans rfl)|(go_at_call 29;(with_reducible refine (impl_within.calls a1 0 (a0_0.size : Int) true _ A5.out).mono ?_);rintro e w' ⟨rfl,⟨nd,rfl⟩⟩)|((with_reducible refine gate_callee (f:=33) rfl ?_);refine goesL_ (some 18) rfl rfl Tryd.func33 (by kernel_rfl) rfl #[.agg #[.string a0_0,.slice A0_1 l0_1.length c0_1],.int .i64 a1] rfl (by (try simp only [List.map_toArray,List.map_cons,List.map_nil]);first|done|rfl|(simp only [List.length_drop,List.length_take];rfl)) ?_;(with_reducible refine (impl_Stream_forth.calls k a0_0 _ _ l0_1 a1 t332 _ ?side1 ?side2 A7.out).mono ?_);(case side1=>repeat (first|exact (Kd.C_below HR0_1.out (by repeat (first|(with_reducible first|exact HB.out|apply l1_|apply l2_|apply l3_|refine l4_ ?_ GE329.out)|exact HB.out)))|(with_reducible refine Kd.C_alloc ?_ _)|(with_reducible refine Kd.C_drewN ?_ _)|(with_reducible refine Kd.C_drew ?_)));(case side2=>exact HC0_1.out);rintro e w12 ⟨rfl,hb⟩;refine ⟨_,rfl,?_⟩;have n0_:=m_ (blk_below (g:=gb329) (o:=.cells #[.string a0_0,.slice A0_1 l0_1.length c0_1] 29 (0,0)) (by (with_reducible repeat first|apply b1_|apply b2_|apply b3_);exact BK329.out) hb);have n1_:=m_ (l5_ (by repeat (first|(with_reducible first|exact HB.out|apply l1_|apply l2_|apply l3_|refine l4_ ?_ GE329.out)|exact HB.out)) hb);clear BK329;clear HB;have BK329:=n0_;have HB:=n1_;clear n0_ n1_;(try clear hb);(try clear hb2);(try clear hk);(try clear hi)))
   go_ret
   exact ⟨by first|rfl|(simp [e1_,e2_] <;> rfl)|(simp [*,e1_,e2_] <;> rfl)|(simp [e1_,e2_,pk_empty1,pk_empty2];done)|(simp [*,e1_,e2_,pk_empty1,pk_empty2];done),by repeat (first|(with_reducible first|exact HB.out|apply l1_|apply l2_|apply l3_|refine l4_ ?_ GE329.out)|exact HB.out)⟩
  ·replace c6:=Bool.eq_false_iff.mpr c6
   subst c6
   have H1 : (some (-1)) = some r:=by rw [if_neg (show ¬ (false = true) by decide)] at H;exact H
   clear H
   have H:=H1
   clear H1
   obtain rfl:=Option.some.inj H
   go_enter Tryd.func14,Tryd.ntmps14
   go_wp2_with (first|((with_reducible refine gate_dst (N:=2) rfl ?_);(try (refine gate_guard (by rfl) ?_;dsimp only));refine box_event ?hg (N:=2) ?hd (cs:=#[.string a0_0,.slice A0_1 l0_1.length c0_1]) (t:=29) ?hr ?_;(case hd=>rfl);(case hg=>rfl);(case hr=>first|(go_simp;done)|(go_simp;rfl));intro gb329 hg w13 hbox hb;have n0_:=m_ (l5_ (by repeat (first|(with_reducible first|exact HB.out|apply l1_|apply l2_|apply l3_)|exact HB.out)) hb);have n1_:=m_ (hbox);have n2_:=m_ ((by rw [hg];exact (l6_ (by repeat (first|(with_reducible first|exact HB.out|apply l1_|apply l2_|apply l3_)|exact HB.out))) : w.heap.size ≤ gb329));have n3_:=m_ ((by rw [hg];exact (l6_ (by repeat (first|(with_reducible first|exact HB.out|apply l1_|apply l2_|apply l3_)|exact HB.out))) : w.heap.size ≤ gb329));clear HB;have HB:=n0_;have BK329:=n1_;have GW329:=n2_;have GE329:=n3_;clear n0_ n1_ n2_ n3_;clear hb hbox hg;have hcz14_0 : w13.cell? ⟨gb329,0,none⟩ = some (.string a0_0):=(c_ BK329.out 0).trans rfl;have hcz14_1 : w13.cell? ⟨gb329,1,none⟩ = some (.slice A0_1 l0_1.length c0_1):=(c_ BK329.out 1).trans rfl)|((with_reducible refine gate_callee (f:=11) rfl ?_);refine goesL_ (some 6) rfl rfl Tryd.func11 (by kernel_rfl) rfl #[.agg #[.string a0_0,.slice A0_1 l0_1.length c0_1]] rfl (by (try simp only [List.map_toArray,List.map_cons,List.map_nil]);first|done|rfl|(simp only [List.length_drop,List.length_take];rfl)) ?_;(with_reducible refine (impl_StreamOk.calls k a0_0 _ _ l0_1 true _ ?side1 ?side2 ?side3 A3.out).mono ?_);(case side1=>repeat (first|exact (Kd.C_below HR0_1.out HB.out)|(with_reducible refine Kd.C_alloc ?_ _)|(with_reducible refine Kd.C_drewN ?_ _)|(with_reducible refine Kd.C_drew ?_)));(case side2=>exact HC0_1.out);(case side3=>first|(with_reducible exact HG.out)|exact GV_below HG.out (by repeat (first|(with_reducible first|exact HB.out|apply l1_|apply l2_|apply l3_|refine l4_ ?_ GE329.out)|exact HB.out)));rintro e w15 ⟨rfl,hb⟩;refine ⟨_,rfl,?_⟩;have n0_:=m_ (blk_below (g:=gb329) (o:=.cells #[.string a0_0,.slice A0_1 l0_1.length c0_1] 29 (0,0)) (by (with_reducible repeat first|apply b1_|apply b2_|apply b3_);exact BK329.out) hb);have n1_:=m_ (l5_ (by repeat (first|(with_reducible first|exact HB.out|apply l1_|apply l2_|apply l3_|refine l4_ ?_ GE329.out)|exact HB.out)) hb);clear BK329;clear HB;have BK329:=n0_;have HB:=n1_;clear n0_ n1_;(try clear hb);(try clear hb2);(try clear hk);(try clear hi);have hcz16_0 : w15.cell? ⟨gb329,0,none⟩ = some (.string a0_0):=(c_ BK329.out 0).trans rfl;have hcz16_1 : w15.cell? ⟨gb329,1,none⟩ = some (.slice A0_1 l0_1.length c0_1):=(c_ BK329.out 1).trans rfl)|(go_at_call 29;(with_reducible refine (impl_within.calls a1 0 (a0_0.size : Int) false _ A5.out).mono ?_);rintro e w' ⟨rfl,⟨nd,rfl⟩⟩))
   go_ret
   exact ⟨by first|rfl|(simp [e1_,e2_] <;> rfl)|(simp [*,e1_,e2_] <;> rfl)|(simp [e1_,e2_,pk_empty1,pk_empty2];done)|(simp [*,e1_,e2_,pk_empty1,pk_empty2];done),by repeat (first|(with_reducible first|exact HB.out|apply l1_|apply l2_|apply l3_|refine l4_ ?_ GE329.out)|exact HB.out)⟩
 ·replace c4:=Bool.eq_false_iff.mpr c4
  subst c4
  have H1 : (some (-1)) = some r:=by rw [if_neg (show ¬ (false = true) by decide)] at H;exact H
  clear H
  have H:=H1
  clear H1
  obtain rfl:=Option.some.inj H
  go_enter Tryd.func14,Tryd.ntmps14
  go_wp2_with (first|((with_reducible refine gate_dst (N:=2) rfl ?_);(try (refine gate_guard (by rfl) ?_;dsimp only));refine box_event ?hg (N:=2) ?hd (cs:=#[.string a0_0,.slice A0_1 l0_1.length c0_1]) (t:=29) ?hr ?_;(case hd=>rfl);(case hg=>rfl);(case hr=>first|(go_simp;done)|(go_simp;rfl));intro gb329 hg w17 hbox hb;have n0_:=m_ (l5_ (by repeat (first|(with_reducible first|exact HB.out|apply l1_|apply l2_|apply l3_)|exact HB.out)) hb);have n1_:=m_ (hbox);have n2_:=m_ ((by rw [hg];exact (l6_ (by repeat (first|(with_reducible first|exact HB.out|apply l1_|apply l2_|apply l3_)|exact HB.out))) : w.heap.size ≤ gb329));have n3_:=m_ ((by rw [hg];exact (l6_ (by repeat (first|(with_reducible first|exact HB.out|apply l1_|apply l2_|apply l3_)|exact HB.out))) : w.heap.size ≤ gb329));clear HB;have HB:=n0_;have BK329:=n1_;have GW329:=n2_;have GE329:=n3_;clear n0_ n1_ n2_ n3_;clear hb hbox hg;have hcz18_0 : w17.cell? ⟨gb329,0,none⟩ = some (.string a0_0):=(c_ BK329.out 0).trans rfl;have hcz18_1 : w17.cell? ⟨gb329,1,none⟩ = some (.slice A0_1 l0_1.length c0_1):=(c_ BK329.out 1).trans rfl)|((with_reducible refine gate_callee (f:=11) rfl ?_);refine goesL_ (some 6) rfl rfl Tryd.func11 (by kernel_rfl) rfl #[.agg #[.string a0_0,.slice A0_1 l0_1.length c0_1]] rfl (by (try simp only [List.map_toArray,List.map_cons,List.map_nil]);first|done|rfl|(simp only [List.length_drop,List.length_take];rfl)) ?_;(with_reducible refine (impl_StreamOk.calls k a0_0 _ _ l0_1 false _ ?side1 ?side2 ?side3 A3.out).mono ?_);(case side1=>repeat (first|exact (Kd.C_below HR0_1.out HB.out)|(with_reducible refine Kd.C_alloc ?_ _)|(with_reducible refine Kd.C_drewN ?_ _)|(with_reducible refine Kd.C_drew ?_)));(case side2=>exact HC0_1.out);(case side3=>first|(with_reducible exact HG.out)|exact GV_below HG.out (by repeat (first|(with_reducible first|exact HB.out|apply l1_|apply l2_|apply l3_|refine l4_ ?_ GE329.out)|exact HB.out)));rintro e w19 ⟨rfl,hb⟩;refine ⟨_,rfl,?_⟩;have n0_:=m_ (blk_below (g:=gb329) (o:=.cells #[.string a0_0,.slice A0_1 l0_1.length c0_1] 29 (0,0)) (by (with_reducible repeat first|apply b1_|apply b2_|apply b3_);exact BK329.out) hb);have n1_:=m_ (l5_ (by repeat (first|(with_reducible first|exact HB.out|apply l1_|apply l2_|apply l3_|refine l4_ ?_ GE329.out)|exact HB.out)) hb);clear BK329;clear HB;have BK329:=n0_;have HB:=n1_;clear n0_ n1_;(try clear hb);(try clear hb2);(try clear hk);(try clear hi)))
  go_ret
  exact ⟨by first|rfl|(simp [e1_,e2_] <;> rfl)|(simp [*,e1_,e2_] <;> rfl)|(simp [e1_,e2_,pk_empty1,pk_empty2];done)|(simp [*,e1_,e2_,pk_empty1,pk_empty2];done),by repeat (first|(with_reducible first|exact HB.out|apply l1_|apply l2_|apply l3_|refine l4_ ?_ GE329.out)|exact HB.out)⟩

end Go.Proofs.YtkcjmmhleepjeaaDoor.A
