-- Printed by myprint.py (wip/tools) out of the translation. Not trusted: Lean checks it.
import Derived.Test.YtkcjmmhleepjeaaDoorAx0
import Derived.Test.YtkcjmmhleepjeaaDoorAx2
import Derived.Test.YtkcjmmhleepjeaaDoorAx5
import Derived.Test.YtkcjmmhleepjeaaDoorAx6
import Derived.Test.YtkcjmmhleepjeaaDoorAx8
import Derived.Test.YtkcjmmhleepjeaaDoorAx11
namespace Go.Proofs.YtkcjmmhleepjeaaDoor.A
open Go.RowKit Go.Proofs.YtkcjmmhleepjeaaDoorW.PrintWords Go.Proofs.YtkcjmmhleepjeaaDoorW.PrintLast Go.Proofs.YtkcjmmhleepjeaaDoorW.PrintMore
attribute [local go_sem] max2_int min2_int max_two min_two max_three min_three max_four min_four   -- for this text's walks alone
set_option linter.unusedVariables false
set_option linter.unusedSimpArgs false

/-! ### spec_l11Back: function 36 -/
def spec_l11Back.l0 : Nat → Int → Int → Int → ByteArray → List (S41) → Option (Int)
 | 0, _, _, _, _, _ => none
 | k + 1, x1, x5, x6, x378000, x378001 => if x6 < (x378001.length : Int) then (if 0 ≤ x6 then (if (((rd_T41 x378001 x6).f1).size : Int) ≤ x1 then (spec_l11Back.l0 k (wrap64 (x1 - (((rd_T41 x378001 x6).f1).size : Int))) (wrap64 (x5 + ((rd_T41 x378001 x6).f0))) (wrap64 (x6 + 1)) x378000 x378001) else (some x5)) else (none)) else (some x5)
def spec_l11Back.f (k : Nat) (a0_0 : ByteArray) (l0_1 : List (S41)) (a1 : Int) : Option (Int) := spec_l11Back.l0 k a1 0 0 a0_0 l0_1
theorem spec_l11Back.mono_l : ∀ k, (∀ y0 y1 y2 y3 y4, LeO (spec_l11Back.l0 k y0 y1 y2 y3 y4) (spec_l11Back.l0 (k + 1) y0 y1 y2 y3 y4))
 | 0 => fun _ _ _ _ _ r h => by simp [spec_l11Back.l0] at h
 | k + 1 => by
  have ih0:=spec_l11Back.mono_l k
  ·intro y0 y1 y2 y3 y4
   unfold spec_l11Back.l0
   repeat' first
   | (with_reducible exact ih0 _ _ _ _ _)
   | (with_reducible exact LeO.refl _)
   | (with_reducible exact LeO.none _)
   | (with_reducible refine LeO.ite ?_ ?_)
   | (with_reducible refine LeO.bind ?_ (fun _ => ?_))
   | exact ih0 _ _ _ _ _
   | exact LeO.none _
   | refine LeO.ite ?_ ?_
   | refine LeO.bind ?_ (fun _ => ?_)
theorem spec_l11Back.mono : ∀ a0 a1 a2 k, LeO (spec_l11Back.f k a0 a1 a2) (spec_l11Back.f (k + 1) a0 a1 a2) := by
 intro a0 a1 a2 k
 have ih0:=spec_l11Back.mono_l k
 unfold spec_l11Back.f
 repeat' first
   | (with_reducible exact ih0 _ _ _ _ _)
   | (with_reducible exact LeO.refl _)
   | (with_reducible exact LeO.none _)
   | (with_reducible refine LeO.ite ?_ ?_)
   | (with_reducible refine LeO.bind ?_ (fun _ => ?_))
   | exact ih0 _ _ _ _ _
   | exact LeO.none _
   | refine LeO.ite ?_ ?_
   | refine LeO.bind ?_ (fun _ => ?_)
set_option maxHeartbeats 8000000 in
set_option maxRecDepth 100000 in
theorem spec_l11Back.calls (k : Nat) (a0_0 : ByteArray) (A0_1 : Option Addr) (c0_1 : Nat) (l0_1 : List (S41)) (a1 : Int) (r : Int) (w : World) (hr0_1 : Kd.C k41 w A0_1 l0_1.length l0_1) (hc0_1 : l0_1.length ≤ c0_1) (h : spec_l11Back.f k a0_0 l0_1 a1 = some r) :
  Calls Tryd.prog 36 #[.agg #[.string a0_0,.slice A0_1 l0_1.length c0_1],.int .i64 a1] w fun e w'=>e = .returned (.int .i64 r) ∧ Below w.heap.size w w':=by
 have hu29:=Tryd.underlying29
 have HR0_1:=m_ hr0_1
 have HC0_1:=m_ hc0_1
 clear hr0_1 hc0_1
 have HB:=m_ (Below.refl w.heap.size w)
 have H : (spec_l11Back.l0 k a1 0 0 a0_0 l0_1) = some r:=h
 clear h
 have H':=m_ H
 clear H
 go_enter Tryd.func36,Tryd.ntmps36
 go_wp2_with (first|((with_reducible refine gate_dst (N:=2) rfl ?_);(try (refine gate_guard (by rfl) ?_;dsimp only));refine box_event ?hg (N:=2) ?hd (cs:=#[.string a0_0,.slice A0_1 l0_1.length c0_1]) (t:=29) ?hr ?_;(case hd=>rfl);(case hg=>rfl);(case hr=>first|(go_simp;done)|(go_simp;rfl));intro gb377 hg w3 hbox hb;have n0_:=m_ (l5_ (by repeat (first|(with_reducible first|exact HB.out|apply l1_|apply l2_|apply l3_)|exact HB.out)) hb);have n1_:=m_ (hbox);have n2_:=m_ ((by rw [hg];exact (l6_ (by repeat (first|(with_reducible first|exact HB.out|apply l1_|apply l2_|apply l3_)|exact HB.out))) : w.heap.size ≤ gb377));have n3_:=n2_;clear HB;have HB:=n0_;have BK377:=n1_;have GW377:=n2_;have GE377:=n3_;clear n0_ n1_ n2_ n3_;clear hb hbox hg))
 go_loopg [1,5,6] k (fun kq v1 v5 v6 w'=>∃ (x1_1 : Int) (x5_1 : Int) (x6_1 : Int),v1 = .int .i64 x1_1 ∧ v5 = .int .i64 x5_1 ∧ v6 = .int .i64 x6_1 ∧ Aside0 (spec_l11Back.l0 kq x1_1 x5_1 x6_1 a0_0 l0_1 = some r) ∧ Aside0 (kq ≤ k) ∧ Aside0 (w'.heap[gb377]? = some (.cells #[.string a0_0,(.slice A0_1 l0_1.length c0_1)] 29 (0,0))) ∧ Aside0 (Below w.heap.size w w'))
 case atStart=>exact ⟨(a1),(0),(0),(by first|rfl|(simp;done)|(simp [*];done)),(by first|rfl|(simp;done)|(simp [*];done)),(by first|rfl|(simp;done)|(simp [*];done)),H',⟨Nat.le_refl _⟩,⟨by (with_reducible repeat first|apply b1_|apply b2_|apply b3_);exact BK377.out⟩,⟨by repeat (first|(with_reducible first|exact HB.out|apply l1_|apply l2_|apply l3_|refine l4_ ?_ GE377.out)|exact HB.out)⟩⟩
 case round =>
  clear H'
  try clear p2
  try clear c3
  obtain ⟨x1_1,x5_1,x6_1,rfl,rfl,rfl,HA,HK1,BK377,HB⟩:=hrel
  cases gk with
  | zero => exact absurd HA.out (by simp [spec_l11Back.l0])
  | succ k1 =>
   have H:=HA.out
   clear HA
   simp only [spec_l11Back.l0] at H
   by_cases c4 : x6_1 < (l0_1.length : Int)
   ·rw [if_pos c4] at H
    have c4b0 : decide (x6_1 < (l0_1.length : Int)) = true:=decide_eq_true c4
    clear c4
    by_cases c5 : 0 ≤ x6_1
    ·rw [if_pos c5] at H
     have c5b0 : decide (0 ≤ x6_1) = true:=decide_eq_true c5
     clear c5
     by_cases c6 : (((rd_T41 l0_1 x6_1).f1).size : Int) ≤ x1_1
     ·rw [if_pos c6] at H
      have c6b0 : decide ((((rd_T41 l0_1 x6_1).f1).size : Int) ≤ x1_1) = true:=decide_eq_true c6
      clear c6
      have H':=m_ H
      clear H
      have hcz7_0 : wr.cell? ⟨gb377,0,none⟩ = some (.string a0_0):=(c_ BK377.out 0).trans rfl
      have hcz7_1 : wr.cell? ⟨gb377,1,none⟩ = some (.slice A0_1 l0_1.length c0_1):=(c_ BK377.out 1).trans rfl
      have p378 : 0 ≤ (x6_1 : Int):=of_decide_eq_true (by first|(with_reducible assumption)|assumption)
      have q378 : x6_1 < (l0_1.length : Int):=of_decide_eq_true (by first|(with_reducible assumption)|assumption)
      obtain ⟨ad378,e378,hx378_0,hx378_1⟩:=at_T41 HR0_1.out x6_1 p378 q378
      cases e378
      replace hx378_0:=(HB.out.cell (World.block_lt_of_cell? w _ hx378_0)).trans hx378_0
      replace hx378_1:=(HB.out.cell (World.block_lt_of_cell? w _ hx378_1)).trans hx378_1
      replace p378:=eq_true p378
      replace q378:=eq_true q378
      have p379 : 0 ≤ (x6_1 : Int):=of_decide_eq_true (by first|(with_reducible assumption)|assumption)
      have q379 : x6_1 < (l0_1.length : Int):=of_decide_eq_true (by first|(with_reducible assumption)|assumption)
      obtain ⟨ad379,e379,hx379_0,hx379_1⟩:=at_T41 HR0_1.out x6_1 p379 q379
      obtain rfl : ad378 = ad379:=(by injection e379)
      replace hx379_0:=(HB.out.cell (World.block_lt_of_cell? w _ hx379_0)).trans hx379_0
      replace hx379_1:=(HB.out.cell (World.block_lt_of_cell? w _ hx379_1)).trans hx379_1
      replace p379:=eq_true p379
      replace q379:=eq_true q379
      have p380 : 0 ≤ (x6_1 : Int):=of_decide_eq_true (by first|(with_reducible assumption)|assumption)
      have q380 : x6_1 < (l0_1.length : Int):=of_decide_eq_true (by first|(with_reducible assumption)|assumption)
      obtain ⟨ad380,e380,hx380_0,hx380_1⟩:=at_T41 HR0_1.out x6_1 p380 q380
      obtain rfl : ad378 = ad380:=(by injection e380)
      replace hx380_0:=(HB.out.cell (World.block_lt_of_cell? w _ hx380_0)).trans hx380_0
      replace hx380_1:=(HB.out.cell (World.block_lt_of_cell? w _ hx380_1)).trans hx380_1
      replace p380:=eq_true p380
      replace q380:=eq_true q380
      go_wp2
      go_roundg k1
      case measure=>have:=HK1.out;omega
      case rel=>exact ⟨(wrap64 (x1_1 - (((rd_T41 l0_1 x6_1).f1).size : Int))),(wrap64 (x5_1 + ((rd_T41 l0_1 x6_1).f0))),(wrap64 (x6_1 + 1)),(by first|rfl|(simp;done)|(simp [*];done)),(by first|rfl|(simp;done)|(simp [*];done)),(by first|rfl|(simp;done)|(simp [*];done)),H',⟨by have:=HK1.out;omega⟩,⟨by (with_reducible repeat first|apply b1_|apply b2_|apply b3_);exact BK377.out⟩,⟨by repeat (first|(with_reducible first|exact HB.out|apply l1_|apply l2_|apply l3_|refine l4_ ?_ GE377.out)|exact HB.out)⟩⟩
     ·rw [if_neg c6] at H
      have c6b0 : decide ((((rd_T41 l0_1 x6_1).f1).size : Int) ≤ x1_1) = false:=decide_eq_false c6
      clear c6
      obtain rfl:=Option.some.inj H
      have hcz8_0 : wr.cell? ⟨gb377,0,none⟩ = some (.string a0_0):=(c_ BK377.out 0).trans rfl
      have hcz8_1 : wr.cell? ⟨gb377,1,none⟩ = some (.slice A0_1 l0_1.length c0_1):=(c_ BK377.out 1).trans rfl
      have p378 : 0 ≤ (x6_1 : Int):=of_decide_eq_true (by first|(with_reducible assumption)|assumption)
      have q378 : x6_1 < (l0_1.length : Int):=of_decide_eq_true (by first|(with_reducible assumption)|assumption)
      obtain ⟨ad378,e378,hx378_0,hx378_1⟩:=at_T41 HR0_1.out x6_1 p378 q378
      cases e378
      replace hx378_0:=(HB.out.cell (World.block_lt_of_cell? w _ hx378_0)).trans hx378_0
      replace hx378_1:=(HB.out.cell (World.block_lt_of_cell? w _ hx378_1)).trans hx378_1
      replace p378:=eq_true p378
      replace q378:=eq_true q378
      go_wp2
      go_ret
      exact ⟨by first|rfl|(simp [e1_,e2_] <;> rfl)|(simp [*,e1_,e2_] <;> rfl)|(simp [e1_,e2_,pk_empty1,pk_empty2];done)|(simp [*,e1_,e2_,pk_empty1,pk_empty2];done),by repeat (first|(with_reducible first|exact HB.out|apply l1_|apply l2_|apply l3_|refine l4_ ?_ GE377.out)|exact HB.out)⟩
    ·rw [if_neg c5] at H
     exact absurd H (by simp)
   ·rw [if_neg c4] at H
    have c4b0 : decide (x6_1 < (l0_1.length : Int)) = false:=decide_eq_false c4
    clear c4
    obtain rfl:=Option.some.inj H
    have hcz9_0 : wr.cell? ⟨gb377,0,none⟩ = some (.string a0_0):=(c_ BK377.out 0).trans rfl
    have hcz9_1 : wr.cell? ⟨gb377,1,none⟩ = some (.slice A0_1 l0_1.length c0_1):=(c_ BK377.out 1).trans rfl
    go_wp2
    go_ret
    exact ⟨by first|rfl|(simp [e1_,e2_] <;> rfl)|(simp [*,e1_,e2_] <;> rfl)|(simp [e1_,e2_,pk_empty1,pk_empty2];done)|(simp [*,e1_,e2_,pk_empty1,pk_empty2];done),by repeat (first|(with_reducible first|exact HB.out|apply l1_|apply l2_|apply l3_|refine l4_ ?_ GE377.out)|exact HB.out)⟩

/-! ### spec_StreamBack: function 17 -/
def spec_StreamBack.f (k : Nat) (a0_0 : ByteArray) (l0_1 : List (S41)) (a1 : Int) : Option (Int) := (spec_StreamOk.f k a0_0 l0_1).bind fun t382 => (if t382 = true then ((spec_l11Out.f k a0_0 l0_1).bind fun t383 => ((spec_l6In.f a1 0 (t383.size : Int)).bind fun t384 => (if t384 = true then ((spec_l11Back.f k a0_0 l0_1 a1).bind fun t385 => (some t385)) else (some (-1))))) else (some (-1)))
theorem spec_StreamBack.mono : ∀ a0 a1 a2 k, LeO (spec_StreamBack.f k a0 a1 a2) (spec_StreamBack.f (k + 1) a0 a1 a2) := by
 intro a0 a1 a2 k
 unfold spec_StreamBack.f
 repeat' first
   | (with_reducible exact spec_StreamOk.mono _ _ _)
   | (with_reducible exact spec_l11Back.mono _ _ _ _)
   | (with_reducible exact spec_l11Out.mono _ _ _)
   | (with_reducible exact LeO.refl _)
   | (with_reducible exact LeO.none _)
   | (with_reducible refine LeO.ite ?_ ?_)
   | (with_reducible refine LeO.bind ?_ (fun _ => ?_))
   | exact spec_StreamOk.mono _ _ _
   | exact spec_l11Back.mono _ _ _ _
   | exact spec_l11Out.mono _ _ _
   | exact LeO.none _
   | refine LeO.ite ?_ ?_
   | refine LeO.bind ?_ (fun _ => ?_)
set_option maxHeartbeats 8000000 in
set_option maxRecDepth 100000 in
theorem spec_StreamBack.calls (k : Nat) (a0_0 : ByteArray) (A0_1 : Option Addr) (c0_1 : Nat) (l0_1 : List (S41)) (a1 : Int) (r : Int) (w : World) (hr0_1 : Kd.C k41 w A0_1 l0_1.length l0_1) (hc0_1 : l0_1.length ≤ c0_1) (h : spec_StreamBack.f k a0_0 l0_1 a1 = some r) :
  Calls Tryd.prog 17 #[.agg #[.string a0_0,.slice A0_1 l0_1.length c0_1],.int .i64 a1] w fun e w'=>e = .returned (.int .i64 r) ∧ Below w.heap.size w w':=by
 have hu29:=Tryd.underlying29
 have HR0_1:=m_ hr0_1
 have HC0_1:=m_ hc0_1
 clear hr0_1 hc0_1
 have HB:=m_ (Below.refl w.heap.size w)
 have H : ((spec_StreamOk.f k a0_0 l0_1).bind fun t382=>(if t382 = true then ((spec_l11Out.f k a0_0 l0_1).bind fun t383=>((spec_l6In.f a1 0 (t383.size : Int)).bind fun t384=>(if t384 = true then ((spec_l11Back.f k a0_0 l0_1 a1).bind fun t385=>(some t385)) else (some (-1))))) else (some (-1)))) = some r:=h
 clear h
 replace H:=Option.bind_eq_some_iff.mp H
 obtain ⟨t382,A30,H⟩:=H
 replace H : (if t382 = true then ((spec_l11Out.f k a0_0 l0_1).bind fun t383=>((spec_l6In.f a1 0 (t383.size : Int)).bind fun t384=>(if t384 = true then ((spec_l11Back.f k a0_0 l0_1 a1).bind fun t385=>(some t385)) else (some (-1))))) else (some (-1))) = some r:=H
 have A3:=m_ A30
 clear A30
 by_cases c4 : t382 = true
 ·subst c4
  have H1 : ((spec_l11Out.f k a0_0 l0_1).bind fun t383=>((spec_l6In.f a1 0 (t383.size : Int)).bind fun t384=>(if t384 = true then ((spec_l11Back.f k a0_0 l0_1 a1).bind fun t385=>(some t385)) else (some (-1))))) = some r:=by rw [if_pos rfl] at H;exact H
  clear H
  have H:=H1
  clear H1
  replace H:=Option.bind_eq_some_iff.mp H
  obtain ⟨t383,A50,H⟩:=H
  replace H : ((spec_l6In.f a1 0 (t383.size : Int)).bind fun t384=>(if t384 = true then ((spec_l11Back.f k a0_0 l0_1 a1).bind fun t385=>(some t385)) else (some (-1)))) = some r:=H
  have A5:=m_ A50
  clear A50
  replace H:=Option.bind_eq_some_iff.mp H
  obtain ⟨t384,A60,H⟩:=H
  replace H : (if t384 = true then ((spec_l11Back.f k a0_0 l0_1 a1).bind fun t385=>(some t385)) else (some (-1))) = some r:=H
  have A6:=m_ A60
  clear A60
  by_cases c7 : t384 = true
  ·subst c7
   have H1 : ((spec_l11Back.f k a0_0 l0_1 a1).bind fun t385=>(some t385)) = some r:=by rw [if_pos rfl] at H;exact H
   clear H
   have H:=H1
   clear H1
   replace H:=Option.bind_eq_some_iff.mp H
   obtain ⟨t385,A80,H⟩:=H
   replace H : (some t385) = some r:=H
   have A8:=m_ A80
   clear A80
   obtain rfl:=Option.some.inj H
   go_enter Tryd.func17,Tryd.ntmps17
   go_wp2_with (first|((with_reducible refine gate_dst (N:=2) rfl ?_);(try (refine gate_guard (by rfl) ?_;dsimp only));refine box_event ?hg (N:=2) ?hd (cs:=#[.string a0_0,.slice A0_1 l0_1.length c0_1]) (t:=29) ?hr ?_;(case hd=>rfl);(case hg=>rfl);(case hr=>first|(go_simp;done)|(go_simp;rfl));intro gb381 hg w9 hbox hb;have n0_:=m_ (l5_ (by repeat (first|(with_reducible first|exact HB.out|apply l1_|apply l2_|apply l3_)|exact HB.out)) hb);have n1_:=m_ (hbox);have n2_:=m_ ((by rw [hg];exact (l6_ (by repeat (first|(with_reducible first|exact HB.out|apply l1_|apply l2_|apply l3_)|exact HB.out))) : w.heap.size ≤ gb381));have n3_:=m_ ((by rw [hg];exact (l6_ (by repeat (first|(with_reducible first|exact HB.out|apply l1_|apply l2_|apply l3_)|exact HB.out))) : w.heap.size ≤ gb381));clear HB;have HB:=n0_;have BK381:=n1_;have GW381:=n2_;have GE381:=n3_;clear n0_ n1_ n2_ n3_;clear hb hbox hg;have hcz10_0 : w9.cell? ⟨gb381,0,none⟩ = some (.string a0_0):=(c_ BK381.out 0).trans rfl;have hcz10_1 : w9.cell? ⟨gb381,1,none⟩ = some (.slice A0_1 l0_1.length c0_1):=(c_ BK381.out 1).trans rfl)|((with_reducible refine gate_callee (f:=9) rfl ?_);refine goesL_ (some 6) rfl rfl Tryd.func9 (by kernel_rfl) rfl #[.agg #[.string a0_0,.slice A0_1 l0_1.length c0_1]] rfl (by (try simp only [List.map_toArray,List.map_cons,List.map_nil]);first|done|rfl|(simp only [List.length_drop,List.length_take];rfl)) ?_;(with_reducible refine (spec_StreamOk.calls k a0_0 _ _ l0_1 true _ ?side1 ?side2 A3.out).mono ?_);(case side1=>repeat (first|exact (Kd.C_below HR0_1.out HB.out)|(with_reducible refine Kd.C_alloc ?_ _)|(with_reducible refine Kd.C_drewN ?_ _)|(with_reducible refine Kd.C_drew ?_)));(case side2=>exact HC0_1.out);rintro e w11 ⟨rfl,hb⟩;refine ⟨_,rfl,?_⟩;have n0_:=m_ (blk_below (g:=gb381) (o:=.cells #[.string a0_0,.slice A0_1 l0_1.length c0_1] 29 (0,0)) (by (with_reducible repeat first|apply b1_|apply b2_|apply b3_);exact BK381.out) hb);have n1_:=m_ (l5_ (by repeat (first|(with_reducible first|exact HB.out|apply l1_|apply l2_|apply l3_|refine l4_ ?_ GE381.out)|exact HB.out)) hb);clear BK381;clear HB;have BK381:=n0_;have HB:=n1_;clear n0_ n1_;(try clear hb);(try clear hb2);(try clear hk);(try clear hi);have hcz12_0 : w11.cell? ⟨gb381,0,none⟩ = some (.string a0_0):=(c_ BK381.out 0).trans rfl;have hcz12_1 : w11.cell? ⟨gb381,1,none⟩ = some (.slice A0_1 l0_1.length c0_1):=(c_ BK381.out 1).trans rfl)|(go_at_call 34;(with_reducible refine (spec_l11Out.calls k a0_0 _ _ l0_1 t383 _ ?side1 ?side2 A5.out).mono ?_);(case side1=>repeat (first|exact (Kd.C_below HR0_1.out HB.out)|(with_reducible refine Kd.C_alloc ?_ _)|(with_reducible refine Kd.C_drewN ?_ _)|(with_reducible refine Kd.C_drew ?_)));(case side2=>exact HC0_1.out);rintro e w13 ⟨rfl,hb⟩;have n0_:=m_ (blk_below (g:=gb381) (o:=.cells #[.string a0_0,.slice A0_1 l0_1.length c0_1] 29 (0,0)) (by (with_reducible repeat first|apply b1_|apply b2_|apply b3_);exact BK381.out) hb);have n1_:=m_ (l5_ (by repeat (first|(with_reducible first|exact HB.out|apply l1_|apply l2_|apply l3_|refine l4_ ?_ GE381.out)|exact HB.out)) hb);clear BK381;clear HB;have BK381:=n0_;have HB:=n1_;clear n0_ n1_;(try clear hb);(try clear hb2);(try clear hk);(try clear hi))|(go_at_call 31;(with_reducible refine (spec_l6In.calls a1 0 (t383.size : Int) true _ A6.out).mono ?_);rintro e w' ⟨rfl,⟨nd,rfl⟩⟩;have hcz14_0 : w13.cell? ⟨gb381,0,none⟩ = some (.string a0_0):=(c_ BK381.out 0).trans rfl;have hcz14_1 : w13.cell? ⟨gb381,1,none⟩ = some (.slice A0_1 l0_1.length c0_1):=(c_ BK381.out 1).trans rfl)|((with_reducible refine gate_callee (f:=36) rfl ?_);refine goesL_ (some 18) rfl rfl Tryd.func36 (by kernel_rfl) rfl #[.agg #[.string a0_0,.slice A0_1 l0_1.length c0_1],.int .i64 a1] rfl (by (try simp only [List.map_toArray,List.map_cons,List.map_nil]);first|done|rfl|(simp only [List.length_drop,List.length_take];rfl)) ?_;(with_reducible refine (spec_l11Back.calls k a0_0 _ _ l0_1 a1 t385 _ ?side1 ?side2 A8.out).mono ?_);(case side1=>repeat (first|exact (Kd.C_below HR0_1.out (by repeat (first|(with_reducible first|exact HB.out|apply l1_|apply l2_|apply l3_|refine l4_ ?_ GE381.out)|exact HB.out)))|(with_reducible refine Kd.C_alloc ?_ _)|(with_reducible refine Kd.C_drewN ?_ _)|(with_reducible refine Kd.C_drew ?_)));(case side2=>exact HC0_1.out);rintro e w15 ⟨rfl,hb⟩;refine ⟨_,rfl,?_⟩;have n0_:=m_ (blk_below (g:=gb381) (o:=.cells #[.string a0_0,.slice A0_1 l0_1.length c0_1] 29 (0,0)) (by (with_reducible repeat first|apply b1_|apply b2_|apply b3_);exact BK381.out) hb);have n1_:=m_ (l5_ (by repeat (first|(with_reducible first|exact HB.out|apply l1_|apply l2_|apply l3_|refine l4_ ?_ GE381.out)|exact HB.out)) hb);clear BK381;clear HB;have BK381:=n0_;have HB:=n1_;clear n0_ n1_;(try clear hb);(try clear hb2);(try clear hk);(try clear hi)))
   go_ret
   exact ⟨by first|rfl|(simp [e1_,e2_] <;> rfl)|(simp [*,e1_,e2_] <;> rfl)|(simp [e1_,e2_,pk_empty1,pk_empty2];done)|(simp [*,e1_,e2_,pk_empty1,pk_empty2];done),by repeat (first|(with_reducible first|exact HB.out|apply l1_|apply l2_|apply l3_|refine l4_ ?_ GE381.out)|exact HB.out)⟩
  ·replace c7:=Bool.eq_false_iff.mpr c7
   subst c7
   have H1 : (some (-1)) = some r:=by rw [if_neg (show ¬ (false = true) by decide)] at H;exact H
   clear H
   have H:=H1
   clear H1
   obtain rfl:=Option.some.inj H
   go_enter Tryd.func17,Tryd.ntmps17
   go_wp2_with (first|((with_reducible refine gate_dst (N:=2) rfl ?_);(try (refine gate_guard (by rfl) ?_;dsimp only));refine box_event ?hg (N:=2) ?hd (cs:=#[.string a0_0,.slice A0_1 l0_1.length c0_1]) (t:=29) ?hr ?_;(case hd=>rfl);(case hg=>rfl);(case hr=>first|(go_simp;done)|(go_simp;rfl));intro gb381 hg w16 hbox hb;have n0_:=m_ (l5_ (by repeat (first|(with_reducible first|exact HB.out|apply l1_|apply l2_|apply l3_)|exact HB.out)) hb);have n1_:=m_ (hbox);have n2_:=m_ ((by rw [hg];exact (l6_ (by repeat (first|(with_reducible first|exact HB.out|apply l1_|apply l2_|apply l3_)|exact HB.out))) : w.heap.size ≤ gb381));have n3_:=m_ ((by rw [hg];exact (l6_ (by repeat (first|(with_reducible first|exact HB.out|apply l1_|apply l2_|apply l3_)|exact HB.out))) : w.heap.size ≤ gb381));clear HB;have HB:=n0_;have BK381:=n1_;have GW381:=n2_;have GE381:=n3_;clear n0_ n1_ n2_ n3_;clear hb hbox hg;have hcz17_0 : w16.cell? ⟨gb381,0,none⟩ = some (.string a0_0):=(c_ BK381.out 0).trans rfl;have hcz17_1 : w16.cell? ⟨gb381,1,none⟩ = some (.slice A0_1 l0_1.length c0_1):=(c_ BK381.out 1).trans rfl)|((with_reducible refine gate_callee (f:=9) rfl ?_);refine goesL_ (some 6) rfl rfl Tryd.func9 (by kernel_rfl) rfl #[.agg #[.string a0_0,.slice A0_1 l0_1.length c0_1]] rfl (by (try simp only [List.map_toArray,List.map_cons,List.map_nil]);first|done|rfl|(simp only [List.length_drop,List.length_take];rfl)) ?_;(with_reducible refine (spec_StreamOk.calls k a0_0 _ _ l0_1 true _ ?side1 ?side2 A3.out).mono ?_);(case side1=>repeat (first|exact (Kd.C_below HR0_1.out HB.out)|(with_reducible refine Kd.C_alloc ?_ _)|(with_reducible refine Kd.C_drewN ?_ _)|(with_reducible refine Kd.C_drew ?_)));(case side2=>exact HC0_1.out);rintro e w18 ⟨rfl,hb⟩;refine ⟨_,rfl,?_⟩;have n0_:=m_ (blk_below (g:=gb381) (o:=.cells #[.string a0_0,.slice A0_1 l0_1.length c0_1] 29 (0,0)) (by (with_reducible repeat first|apply b1_|apply b2_|apply b3_);exact BK381.out) hb);have n1_:=m_ (l5_ (by repeat (first|(with_reducible first|exact HB.out|apply l1_|apply l2_|apply l3_|refine l4_ ?_ GE381.out)|exact HB.out)) hb);clear BK381;clear HB;have BK381:=n0_;have HB:=n1_;clear n0_ n1_;(try clear hb);(try clear hb2);(try clear hk);(try clear hi);have hcz19_0 : w18.cell? ⟨gb381,0,none⟩ = some (.string a0_0):=(c_ BK381.out 0).trans rfl;have hcz19_1 : w18.cell? ⟨gb381,1,none⟩ = some (.slice A0_1 l0_1.length c0_1):=(c_ BK381.out 1).trans rfl)|(go_at_call 34;(with_reducible refine (spec_l11Out.calls k a0_0 _ _ l0_1 t383 _ ?side1 ?side2 A5.out).mono ?_);(case side1=>repeat (first|exact (Kd.C_below HR0_1.out HB.out)|(with_reducible refine Kd.C_alloc ?_ _)|(with_reducible refine Kd.C_drewN ?_ _)|(with_reducible refine Kd.C_drew ?_)));(case side2=>exact HC0_1.out);rintro e w20 ⟨rfl,hb⟩;have n0_:=m_ (blk_below (g:=gb381) (o:=.cells #[.string a0_0,.slice A0_1 l0_1.length c0_1] 29 (0,0)) (by (with_reducible repeat first|apply b1_|apply b2_|apply b3_);exact BK381.out) hb);have n1_:=m_ (l5_ (by repeat (first|(with_reducible first|exact HB.out|apply l1_|apply l2_|apply l3_|refine l4_ ?_ GE381.out)|exact HB.out)) hb);clear BK381;clear HB;have BK381:=n0_;have HB:=n1_;clear n0_ n1_;(try clear hb);(try clear hb2);(try clear hk);(try clear hi))|(go_at_call 31;(with_reducible refine (spec_l6In.calls a1 0 (t383.size : Int) false _ A6.out).mono ?_);rintro e w' ⟨rfl,⟨nd,rfl⟩⟩))
   go_ret
   exact ⟨by first|rfl|(simp [e1_,e2_] <;> rfl)|(simp [*,e1_,e2_] <;> rfl)|(simp [e1_,e2_,pk_empty1,pk_empty2];done)|(simp [*,e1_,e2_,pk_empty1,pk_empty2];done),by repeat (first|(with_reducible first|exact HB.out|apply l1_|apply l2_|apply l3_|refine l4_ ?_ GE381.out)|exact HB.out)⟩
 ·replace c4:=Bool.eq_false_iff.mpr c4
  subst c4
  have H1 : (some (-1)) = some r:=by rw [if_neg (show ¬ (false = true) by decide)] at H;exact H
  clear H
  have H:=H1
  clear H1
  obtain rfl:=Option.some.inj H
  go_enter Tryd.func17,Tryd.ntmps17
  go_wp2_with (first|((with_reducible refine gate_dst (N:=2) rfl ?_);(try (refine gate_guard (by rfl) ?_;dsimp only));refine box_event ?hg (N:=2) ?hd (cs:=#[.string a0_0,.slice A0_1 l0_1.length c0_1]) (t:=29) ?hr ?_;(case hd=>rfl);(case hg=>rfl);(case hr=>first|(go_simp;done)|(go_simp;rfl));intro gb381 hg w21 hbox hb;have n0_:=m_ (l5_ (by repeat (first|(with_reducible first|exact HB.out|apply l1_|apply l2_|apply l3_)|exact HB.out)) hb);have n1_:=m_ (hbox);have n2_:=m_ ((by rw [hg];exact (l6_ (by repeat (first|(with_reducible first|exact HB.out|apply l1_|apply l2_|apply l3_)|exact HB.out))) : w.heap.size ≤ gb381));have n3_:=m_ ((by rw [hg];exact (l6_ (by repeat (first|(with_reducible first|exact HB.out|apply l1_|apply l2_|apply l3_)|exact HB.out))) : w.heap.size ≤ gb381));clear HB;have HB:=n0_;have BK381:=n1_;have GW381:=n2_;have GE381:=n3_;clear n0_ n1_ n2_ n3_;clear hb hbox hg;have hcz22_0 : w21.cell? ⟨gb381,0,none⟩ = some (.string a0_0):=(c_ BK381.out 0).trans rfl;have hcz22_1 : w21.cell? ⟨gb381,1,none⟩ = some (.slice A0_1 l0_1.length c0_1):=(c_ BK381.out 1).trans rfl)|((with_reducible refine gate_callee (f:=9) rfl ?_);refine goesL_ (some 6) rfl rfl Tryd.func9 (by kernel_rfl) rfl #[.agg #[.string a0_0,.slice A0_1 l0_1.length c0_1]] rfl (by (try simp only [List.map_toArray,List.map_cons,List.map_nil]);first|done|rfl|(simp only [List.length_drop,List.length_take];rfl)) ?_;(with_reducible refine (spec_StreamOk.calls k a0_0 _ _ l0_1 false _ ?side1 ?side2 A3.out).mono ?_);(case side1=>repeat (first|exact (Kd.C_below HR0_1.out HB.out)|(with_reducible refine Kd.C_alloc ?_ _)|(with_reducible refine Kd.C_drewN ?_ _)|(with_reducible refine Kd.C_drew ?_)));(case side2=>exact HC0_1.out);rintro e w23 ⟨rfl,hb⟩;refine ⟨_,rfl,?_⟩;have n0_:=m_ (blk_below (g:=gb381) (o:=.cells #[.string a0_0,.slice A0_1 l0_1.length c0_1] 29 (0,0)) (by (with_reducible repeat first|apply b1_|apply b2_|apply b3_);exact BK381.out) hb);have n1_:=m_ (l5_ (by repeat (first|(with_reducible first|exact HB.out|apply l1_|apply l2_|apply l3_|refine l4_ ?_ GE381.out)|exact HB.out)) hb);clear BK381;clear HB;have BK381:=n0_;have HB:=n1_;clear n0_ n1_;(try clear hb);(try clear hb2);(try clear hk);(try clear hi)))
  go_ret
  exact ⟨by first|rfl|(simp [e1_,e2_] <;> rfl)|(simp [*,e1_,e2_] <;> rfl)|(simp [e1_,e2_,pk_empty1,pk_empty2];done)|(simp [*,e1_,e2_,pk_empty1,pk_empty2];done),by repeat (first|(with_reducible first|exact HB.out|apply l1_|apply l2_|apply l3_|refine l4_ ?_ GE381.out)|exact HB.out)⟩

/-! ### impl_Stream_back: function 37 -/
def impl_Stream_back.l0 : Nat → Int → Int → List (S41) → Int → Int → Option (Int)
 | 0, _, _, _, _, _ => none
 | k + 1, x1, x5, x9, x10, x11 => if x11 < x10 then (if 0 ≤ x11 then (if x11 < (x9.length : Int) then (if (wrap64 (x1 - (((rd_T41 x9 x11).f1).size : Int))) < 0 then (some x5) else (impl_Stream_back.l0 k (wrap64 (x1 - (((rd_T41 x9 x11).f1).size : Int))) (wrap64 (x5 + ((rd_T41 x9 x11).f0))) x9 x10 (wrap64 (x11 + 1)))) else (none)) else (none)) else (some x5)
def impl_Stream_back.f (k : Nat) (a0_0 : ByteArray) (l0_1 : List (S41)) (a1 : Int) : Option (Int) := impl_Stream_back.l0 k a1 0 l0_1 (l0_1.length : Int) 0
theorem impl_Stream_back.mono_l : ∀ k, (∀ y0 y1 y2 y3 y4, LeO (impl_Stream_back.l0 k y0 y1 y2 y3 y4) (impl_Stream_back.l0 (k + 1) y0 y1 y2 y3 y4))
 | 0 => fun _ _ _ _ _ r h => by simp [impl_Stream_back.l0] at h
 | k + 1 => by
  have ih0:=impl_Stream_back.mono_l k
  ·intro y0 y1 y2 y3 y4
   unfold impl_Stream_back.l0
   repeat' first
   | (with_reducible exact ih0 _ _ _ _ _)
   | (with_reducible exact LeO.refl _)
   | (with_reducible exact LeO.none _)
   | (with_reducible refine LeO.ite ?_ ?_)
   | (with_reducible refine LeO.bind ?_ (fun _ => ?_))
   | exact ih0 _ _ _ _ _
   | exact LeO.none _
   | refine LeO.ite ?_ ?_
   | refine LeO.bind ?_ (fun _ => ?_)
theorem impl_Stream_back.mono : ∀ a0 a1 a2 k, LeO (impl_Stream_back.f k a0 a1 a2) (impl_Stream_back.f (k + 1) a0 a1 a2) := by
 intro a0 a1 a2 k
 have ih0:=impl_Stream_back.mono_l k
 unfold impl_Stream_back.f
 repeat' first
   | (with_reducible exact ih0 _ _ _ _ _)
   | (with_reducible exact LeO.refl _)
   | (with_reducible exact LeO.none _)
   | (with_reducible refine LeO.ite ?_ ?_)
   | (with_reducible refine LeO.bind ?_ (fun _ => ?_))
   | exact ih0 _ _ _ _ _
   | exact LeO.none _
   | refine LeO.ite ?_ ?_
   | refine LeO.bind ?_ (fun _ => ?_)
set_option maxHeartbeats 8000000 in
set_option maxRecDepth 100000 in
theorem impl_Stream_back.calls (k : Nat) (a0_0 : ByteArray) (A0_1 : Option Addr) (c0_1 : Nat) (l0_1 : List (S41)) (a1 : Int) (r : Int) (w : World) (hr0_1 : Kd.C k41 w A0_1 l0_1.length l0_1) (hc0_1 : l0_1.length ≤ c0_1) (h : impl_Stream_back.f k a0_0 l0_1 a1 = some r) :
  Calls Tryd.prog 37 #[.agg #[.string a0_0,.slice A0_1 l0_1.length c0_1],.int .i64 a1] w fun e w'=>e = .returned (.int .i64 r) ∧ Below w.heap.size w w':=by
 have hu29:=Tryd.underlying29
 have hu41:=Tryd.underlying41
 have HR0_1:=m_ hr0_1
 have HC0_1:=m_ hc0_1
 clear hr0_1 hc0_1
 have HB:=m_ (Below.refl w.heap.size w)
 have H : (impl_Stream_back.l0 k a1 0 l0_1 (l0_1.length : Int) 0) = some r:=h
 clear h
 have H':=m_ H
 clear H
 go_enter Tryd.func37,Tryd.ntmps37
 go_wp2_with (first|((with_reducible refine gate_dst (N:=2) rfl ?_);refine box_event ?hg (N:=2) ?hd (cs:=#[.string a0_0,.slice A0_1 l0_1.length c0_1]) (t:=29) ?hr ?_;(case hd=>rfl);(case hg=>rfl);(case hr=>first|(go_simp;done)|(go_simp;rfl));intro gb386 hg w3 hbox hb;have n0_:=m_ (l5_ (by repeat (first|(with_reducible first|exact HB.out|apply l1_|apply l2_|apply l3_)|exact HB.out)) hb);have n1_:=m_ (hbox);have n2_:=m_ ((by rw [hg];exact (l6_ (by repeat (first|(with_reducible first|exact HB.out|apply l1_|apply l2_|apply l3_)|exact HB.out))) : w.heap.size ≤ gb386));have n3_:=n2_;clear HB;have HB:=n0_;have BK386:=n1_;have GW386:=n2_;have GE386:=n3_;clear n0_ n1_ n2_ n3_;clear hb hbox hg;have hcz4_0 : w3.cell? ⟨gb386,0,none⟩ = some (.string a0_0):=(c_ BK386.out 0).trans rfl;have hcz4_1 : w3.cell? ⟨gb386,1,none⟩ = some (.slice A0_1 l0_1.length c0_1):=(c_ BK386.out 1).trans rfl;have hfz4_0:=f_ BK386.out 0;have hfz4_1:=f_ BK386.out 1))
 go_loopg [1,5,11] k (fun kq v1 v5 v11 w'=>∃ (x1_1 : Int) (x5_1 : Int) (x11_1 : Int),v1 = .int .i64 x1_1 ∧ v5 = .int .i64 x5_1 ∧ v11 = .int .i64 x11_1 ∧ Aside0 (impl_Stream_back.l0 kq x1_1 x5_1 l0_1 (l0_1.length : Int) x11_1 = some r) ∧ Aside0 (kq ≤ k) ∧ Aside0 (w'.heap[gb386]? = some (.cells #[.string a0_0,(.slice A0_1 l0_1.length c0_1)] 29 (0,0))) ∧ Aside0 (Below w.heap.size w w'))
 case atStart=>exact ⟨(a1),(0),(0),(by first|rfl|(simp;done)|(simp [*];done)),(by first|rfl|(simp;done)|(simp [*];done)),(by first|rfl|(simp;done)|(simp [*];done)),H',⟨Nat.le_refl _⟩,⟨by (with_reducible repeat first|apply b1_|apply b2_|apply b3_);exact BK386.out⟩,⟨by repeat (first|(with_reducible first|exact HB.out|apply l1_|apply l2_|apply l3_|refine l4_ ?_ GE386.out)|exact HB.out)⟩⟩
 case round =>
  clear H'
  try clear p2
  try clear c3
  try clear hcz4_0
  try clear hcz4_1
  try clear hfz4_0
  try clear hfz4_1
  obtain ⟨x1_1,x5_1,x11_1,rfl,rfl,rfl,HA,HK1,BK386,HB⟩:=hrel
  cases gk with
  | zero => exact absurd HA.out (by simp [impl_Stream_back.l0])
  | succ k1 =>
   have H:=HA.out
   clear HA
   simp only [impl_Stream_back.l0] at H
   by_cases c5 : x11_1 < (l0_1.length : Int)
   ·rw [if_pos c5] at H
    have c5b0 : decide (x11_1 < (l0_1.length : Int)) = true:=decide_eq_true c5
    clear c5
    by_cases c6 : 0 ≤ x11_1
    ·rw [if_pos c6] at H
     have c6b0 : decide (0 ≤ x11_1) = true:=decide_eq_true c6
     clear c6
     by_cases c7 : x11_1 < (l0_1.length : Int)
     ·rw [if_pos c7] at H
      have c7b0 : decide (x11_1 < (l0_1.length : Int)) = true:=decide_eq_true c7
      clear c7
      by_cases c8 : (wrap64 (x1_1 - (((rd_T41 l0_1 x11_1).f1).size : Int))) < 0
      ·rw [if_pos c8] at H
       have c8b0 : decide ((wrap64 (x1_1 - (((rd_T41 l0_1 x11_1).f1).size : Int))) < 0) = true:=decide_eq_true c8
       clear c8
       obtain rfl:=Option.some.inj H
       have p387 : 0 ≤ (x11_1 : Int):=of_decide_eq_true (by first|(with_reducible assumption)|assumption)
       have q387 : x11_1 < (l0_1.length : Int):=of_decide_eq_true (by first|(with_reducible assumption)|assumption)
       obtain ⟨ad387,e387,hx387_0,hx387_1⟩:=at_T41 HR0_1.out x11_1 p387 q387
       cases e387
       replace hx387_0:=(HB.out.cell (World.block_lt_of_cell? w _ hx387_0)).trans hx387_0
       replace hx387_1:=(HB.out.cell (World.block_lt_of_cell? w _ hx387_1)).trans hx387_1
       replace p387:=eq_true p387
       replace q387:=eq_true q387
       go_wp2_with (first|((with_reducible refine gate_dst (N:=7) rfl ?_);refine box_event ?hg (N:=7) ?hd (cs:=#[.int .i64 0,.string (⟨#[]⟩ : ByteArray)]) (t:=41) ?hr ?_;(case hd=>rfl);(case hg=>rfl);(case hr=>first|(go_simp;done)|(go_simp;rfl));intro gb388 hg w9 hbox hb;have n0_:=m_ (blk_below (g:=gb386) (o:=.cells #[.string a0_0,.slice (some ad387) l0_1.length c0_1] 29 (0,0)) (by (with_reducible repeat first|apply b1_|apply b2_|apply b3_);exact BK386.out) hb);have n1_:=m_ (l5_ (by repeat (first|(with_reducible first|exact HB.out|apply l1_|apply l2_|apply l3_|refine l4_ ?_ GE386.out)|exact HB.out)) hb);have n2_:=m_ (hbox);have n3_:=m_ ((by rw [hg];exact (l6_ (by repeat (first|(with_reducible first|exact HB.out|apply l1_|apply l2_|apply l3_|refine l4_ ?_ GE386.out)|exact HB.out))) : w.heap.size ≤ gb388));have n4_:=n3_;have n5_:=m_ ((by rw [hg];exact Nat.ne_of_lt (blk_lt (g:=gb386) (o:=.cells #[.string a0_0,.slice (some ad387) l0_1.length c0_1] 29 (0,0)) (by (with_reducible repeat first|apply b1_|apply b2_|apply b3_);exact BK386.out)) : gb386 ≠ gb388));have n6_:=m_ n5_.out.symm;clear BK386;clear HB;have BK386:=n0_;have HB:=n1_;have BK388:=n2_;have GW388:=n3_;have GE388:=n4_;have NB386_388:=n5_;have NB388_386:=n6_;clear n0_ n1_ n2_ n3_ n4_ n5_ n6_;clear hb hbox hg;have hnb10:=NB388_386.out;have hnc10:=NB386_388.out;have hcz11_0 : w9.cell? ⟨gb388,0,none⟩ = some (.int .i64 0):=(c_ BK388.out 0).trans rfl;have hcz11_1 : w9.cell? ⟨gb388,1,none⟩ = some (.string (⟨#[]⟩ : ByteArray)):=(c_ BK388.out 1).trans rfl;have hfz11_0:=f_ BK388.out 0;have hfz11_1:=f_ BK388.out 1))
       go_ret
       exact ⟨by first|rfl|(simp [e1_,e2_] <;> rfl)|(simp [*,e1_,e2_] <;> rfl)|(simp [e1_,e2_,pk_empty1,pk_empty2];done)|(simp [*,e1_,e2_,pk_empty1,pk_empty2];done),by repeat (first|(with_reducible first|exact HB.out|apply l1_|apply l2_|apply l3_|refine l4_ ?_ GE386.out|refine l4_ ?_ GE388.out)|exact HB.out)⟩
      ·rw [if_neg c8] at H
       have c8b0 : decide ((wrap64 (x1_1 - (((rd_T41 l0_1 x11_1).f1).size : Int))) < 0) = false:=decide_eq_false c8
       clear c8
       have H':=m_ H
       clear H
       have p387 : 0 ≤ (x11_1 : Int):=of_decide_eq_true (by first|(with_reducible assumption)|assumption)
       have q387 : x11_1 < (l0_1.length : Int):=of_decide_eq_true (by first|(with_reducible assumption)|assumption)
       obtain ⟨ad387,e387,hx387_0,hx387_1⟩:=at_T41 HR0_1.out x11_1 p387 q387
       cases e387
       replace hx387_0:=(HB.out.cell (World.block_lt_of_cell? w _ hx387_0)).trans hx387_0
       replace hx387_1:=(HB.out.cell (World.block_lt_of_cell? w _ hx387_1)).trans hx387_1
       replace p387:=eq_true p387
       replace q387:=eq_true q387
       go_wp2_with (first|((with_reducible refine gate_dst (N:=7) rfl ?_);refine box_event ?hg (N:=7) ?hd (cs:=#[.int .i64 0,.string (⟨#[]⟩ : ByteArray)]) (t:=41) ?hr ?_;(case hd=>rfl);(case hg=>rfl);(case hr=>first|(go_simp;done)|(go_simp;rfl));intro gb388 hg w12 hbox hb;have n0_:=m_ (blk_below (g:=gb386) (o:=.cells #[.string a0_0,.slice (some ad387) l0_1.length c0_1] 29 (0,0)) (by (with_reducible repeat first|apply b1_|apply b2_|apply b3_);exact BK386.out) hb);have n1_:=m_ (l5_ (by repeat (first|(with_reducible first|exact HB.out|apply l1_|apply l2_|apply l3_|refine l4_ ?_ GE386.out)|exact HB.out)) hb);have n2_:=m_ (hbox);have n3_:=m_ ((by rw [hg];exact (l6_ (by repeat (first|(with_reducible first|exact HB.out|apply l1_|apply l2_|apply l3_|refine l4_ ?_ GE386.out)|exact HB.out))) : w.heap.size ≤ gb388));have n4_:=n3_;have n5_:=m_ ((by rw [hg];exact Nat.ne_of_lt (blk_lt (g:=gb386) (o:=.cells #[.string a0_0,.slice (some ad387) l0_1.length c0_1] 29 (0,0)) (by (with_reducible repeat first|apply b1_|apply b2_|apply b3_);exact BK386.out)) : gb386 ≠ gb388));have n6_:=m_ n5_.out.symm;clear BK386;clear HB;have BK386:=n0_;have HB:=n1_;have BK388:=n2_;have GW388:=n3_;have GE388:=n4_;have NB386_388:=n5_;have NB388_386:=n6_;clear n0_ n1_ n2_ n3_ n4_ n5_ n6_;clear hb hbox hg;have hnb13:=NB388_386.out;have hnc13:=NB386_388.out;have hcz14_0 : w12.cell? ⟨gb388,0,none⟩ = some (.int .i64 0):=(c_ BK388.out 0).trans rfl;have hcz14_1 : w12.cell? ⟨gb388,1,none⟩ = some (.string (⟨#[]⟩ : ByteArray)):=(c_ BK388.out 1).trans rfl;have hfz14_0:=f_ BK388.out 0;have hfz14_1:=f_ BK388.out 1))
       go_roundg k1
       case measure=>have:=HK1.out;omega
       case rel=>exact ⟨(wrap64 (x1_1 - (((rd_T41 l0_1 x11_1).f1).size : Int))),(wrap64 (x5_1 + ((rd_T41 l0_1 x11_1).f0))),(wrap64 (x11_1 + 1)),(by first|rfl|(simp;done)|(simp [*];done)),(by first|rfl|(simp;done)|(simp [*];done)),(by first|rfl|(simp;done)|(simp [*];done)),H',⟨by have:=HK1.out;omega⟩,⟨by (with_reducible repeat first|apply b1_|apply b2_|apply b3_);refine b4_ ?_ NB386_388.out _;(with_reducible repeat first|apply b1_|apply b2_|apply b3_);refine b4_ ?_ NB386_388.out _;(with_reducible repeat first|apply b1_|apply b2_|apply b3_);exact BK386.out⟩,⟨by repeat (first|(with_reducible first|exact HB.out|apply l1_|apply l2_|apply l3_|refine l4_ ?_ GE386.out|refine l4_ ?_ GE388.out)|exact HB.out)⟩⟩
     ·rw [if_neg c7] at H
      exact absurd H (by simp)
    ·rw [if_neg c6] at H
     exact absurd H (by simp)
   ·rw [if_neg c5] at H
    have c5b0 : decide (x11_1 < (l0_1.length : Int)) = false:=decide_eq_false c5
    clear c5
    obtain rfl:=Option.some.inj H
    go_wp2
    go_ret
    exact ⟨by first|rfl|(simp [e1_,e2_] <;> rfl)|(simp [*,e1_,e2_] <;> rfl)|(simp [e1_,e2_,pk_empty1,pk_empty2];done)|(simp [*,e1_,e2_,pk_empty1,pk_empty2];done),by repeat (first|(with_reducible first|exact HB.out|apply l1_|apply l2_|apply l3_|refine l4_ ?_ GE386.out)|exact HB.out)⟩

/-! ### impl_StreamBack: function 18 -/
def impl_StreamBack.f (k : Nat) (a0_0 : ByteArray) (l0_1 : List (S41)) (a1 : Int) : Option (Int) := (impl_StreamOk.f k a0_0 l0_1).bind fun t390 => (if t390 = true then ((impl_Stream_out.f a0_0 l0_1).bind fun t391 => ((impl_within.f a1 0 (t391.size : Int)).bind fun t392 => (if t392 = true then ((impl_Stream_back.f k a0_0 l0_1 a1).bind fun t393 => (some t393)) else (some (-1))))) else (some (-1)))
theorem impl_StreamBack.mono : ∀ a0 a1 a2 k, LeO (impl_StreamBack.f k a0 a1 a2) (impl_StreamBack.f (k + 1) a0 a1 a2) := by
 intro a0 a1 a2 k
 unfold impl_StreamBack.f
 repeat' first
   | (with_reducible exact impl_StreamOk.mono _ _ _)
   | (with_reducible exact impl_Stream_back.mono _ _ _ _)
   | (with_reducible exact LeO.refl _)
   | (with_reducible exact LeO.none _)
   | (with_reducible refine LeO.ite ?_ ?_)
   | (with_reducible refine LeO.bind ?_ (fun _ => ?_))
   | exact impl_StreamOk.mono _ _ _
   | exact impl_Stream_back.mono _ _ _ _
   | exact LeO.none _
   | refine LeO.ite ?_ ?_
   | refine LeO.bind ?_ (fun _ => ?_)
set_option maxHeartbeats 8000000 in
set_option maxRecDepth 100000 in
theorem impl_StreamBack.calls (k : Nat) (a0_0 : ByteArray) (A0_1 : Option Addr) (c0_1 : Nat) (l0_1 : List (S41)) (a1 : Int) (r : Int) (w : World) (hr0_1 : Kd.C k41 w A0_1 l0_1.length l0_1) (hc0_1 : l0_1.length ≤ c0_1) (hG : GV w) (h : impl_StreamBack.f k a0_0 l0_1 a1 = some r) :
  Calls Tryd.prog 18 #[.agg #[.string a0_0,.slice A0_1 l0_1.length c0_1],.int .i64 a1] w fun e w'=>e = .returned (.int .i64 r) ∧ Below w.heap.size w w':=by
 have hu29:=Tryd.underlying29
 have HG:=m_ hG
 clear hG
 have HR0_1:=m_ hr0_1
 have HC0_1:=m_ hc0_1
 clear hr0_1 hc0_1
 have HB:=m_ (Below.refl w.heap.size w)
 have H : ((impl_StreamOk.f k a0_0 l0_1).bind fun t390=>(if t390 = true then ((impl_Stream_out.f a0_0 l0_1).bind fun t391=>((impl_within.f a1 0 (t391.size : Int)).bind fun t392=>(if t392 = true then ((impl_Stream_back.f k a0_0 l0_1 a1).bind fun t393=>(some t393)) else (some (-1))))) else (some (-1)))) = some r:=h
 clear h
 replace H:=Option.bind_eq_some_iff.mp H
 obtain ⟨t390,A30,H⟩:=H
 replace H : (if t390 = true then ((impl_Stream_out.f a0_0 l0_1).bind fun t391=>((impl_within.f a1 0 (t391.size : Int)).bind fun t392=>(if t392 = true then ((impl_Stream_back.f k a0_0 l0_1 a1).bind fun t393=>(some t393)) else (some (-1))))) else (some (-1))) = some r:=H
 have A3:=m_ A30
 clear A30
 by_cases c4 : t390 = true
 ·subst c4
  have H1 : ((impl_Stream_out.f a0_0 l0_1).bind fun t391=>((impl_within.f a1 0 (t391.size : Int)).bind fun t392=>(if t392 = true then ((impl_Stream_back.f k a0_0 l0_1 a1).bind fun t393=>(some t393)) else (some (-1))))) = some r:=by rw [if_pos rfl] at H;exact H
  clear H
  have H:=H1
  clear H1
  replace H:=Option.bind_eq_some_iff.mp H
  obtain ⟨t391,A50,H⟩:=H
  replace H : ((impl_within.f a1 0 (t391.size : Int)).bind fun t392=>(if t392 = true then ((impl_Stream_back.f k a0_0 l0_1 a1).bind fun t393=>(some t393)) else (some (-1)))) = some r:=H
  have A5:=m_ A50
  clear A50
  replace H:=Option.bind_eq_some_iff.mp H
  obtain ⟨t392,A60,H⟩:=H
  replace H : (if t392 = true then ((impl_Stream_back.f k a0_0 l0_1 a1).bind fun t393=>(some t393)) else (some (-1))) = some r:=H
  have A6:=m_ A60
  clear A60
  by_cases c7 : t392 = true
  ·subst c7
   have H1 : ((impl_Stream_back.f k a0_0 l0_1 a1).bind fun t393=>(some t393)) = some r:=by rw [if_pos rfl] at H;exact H
   clear H
   have H:=H1
   clear H1
   replace H:=Option.bind_eq_some_iff.mp H
   obtain ⟨t393,A80,H⟩:=H
   replace H : (some t393) = some r:=H
   have A8:=m_ A80
   clear A80
   obtain rfl:=Option.some.inj H
   go_enter Tryd.func18,Tryd.ntmps18
   go_wp2_with (first|((with_reducible refine gate_dst (N:=2) rfl ?_);(try (refine gate_guard (by rfl) ?_;dsimp only));refine box_event ?hg (N:=2) ?hd (cs:=#[.string a0_0,.slice A0_1 l0_1.length c0_1]) (t:=29) ?hr ?_;(case hd=>rfl);(case hg=>rfl);(case hr=>first|(go_simp;done)|(go_simp;rfl));intro gb389 hg w9 hbox hb;have n0_:=m_ (l5_ (by repeat (first|(with_reducible first|exact HB.out|apply l1_|apply l2_|apply l3_)|exact HB.out)) hb);have n1_:=m_ (hbox);have n2_:=m_ ((by rw [hg];exact (l6_ (by repeat (first|(with_reducible first|exact HB.out|apply l1_|apply l2_|apply l3_)|exact HB.out))) : w.heap.size ≤ gb389));have n3_:=m_ ((by rw [hg];exact (l6_ (by repeat (first|(with_reducible first|exact HB.out|apply l1_|apply l2_|apply l3_)|exact HB.out))) : w.heap.size ≤ gb389));clear HB;have HB:=n0_;have BK389:=n1_;have GW389:=n2_;have GE389:=n3_;clear n0_ n1_ n2_ n3_;clear hb hbox hg;have hcz10_0 : w9.cell? ⟨gb389,0,none⟩ = some (.string a0_0):=(c_ BK389.out 0).trans rfl;have hcz10_1 : w9.cell? ⟨gb389,1,none⟩ = some (.slice A0_1 l0_1.length c0_1):=(c_ BK389.out 1).trans rfl)|((with_reducible refine gate_callee (f:=11) rfl ?_);refine goesL_ (some 6) rfl rfl Tryd.func11 (by kernel_rfl) rfl #[.agg #[.string a0_0,.slice A0_1 l0_1.length c0_1]] rfl (by (try simp only [List.map_toArray,List.map_cons,List.map_nil]);first|done|rfl|(simp only [List.length_drop,List.length_take];rfl)) ?_;(with_reducible refine (impl_StreamOk.calls k a0_0 _ _ l0_1 true _ ?side1 ?side2 ?side3 A3.out).mono ?_);(case side1=>repeat (first|exact (Kd.C_below HR0_1.out HB.out)|(with_reducible refine Kd.C_alloc ?_ _)|(with_reducible refine Kd.C_drewN ?_ _)|(with_reducible refine Kd.C_drew ?_)));(case side2=>exact HC0_1.out);(case side3=>first|(with_reducible exact HG.out)|exact GV_below HG.out (by repeat (first|(with_reducible first|exact HB.out|apply l1_|apply l2_|apply l3_|refine l4_ ?_ GE389.out)|exact HB.out)));rintro e w11 ⟨rfl,hb⟩;refine ⟨_,rfl,?_⟩;have n0_:=m_ (blk_below (g:=gb389) (o:=.cells #[.string a0_0,.slice A0_1 l0_1.length c0_1] 29 (0,0)) (by (with_reducible repeat first|apply b1_|apply b2_|apply b3_);exact BK389.out) hb);have n1_:=m_ (l5_ (by repeat (first|(with_reducible first|exact HB.out|apply l1_|apply l2_|apply l3_|refine l4_ ?_ GE389.out)|exact HB.out)) hb);clear BK389;clear HB;have BK389:=n0_;have HB:=n1_;clear n0_ n1_;(try clear hb);(try clear hb2);(try clear hk);(try clear hi);have hcz12_0 : w11.cell? ⟨gb389,0,none⟩ = some (.string a0_0):=(c_ BK389.out 0).trans rfl;have hcz12_1 : w11.cell? ⟨gb389,1,none⟩ = some (.slice A0_1 l0_1.length c0_1):=(c_ BK389.out 1).trans rfl)|(go_at_call 35;(with_reducible refine (impl_Stream_out.calls a0_0 _ _ l0_1 t391 _ ?side1 ?side2 A5.out).mono ?_);(case side1=>repeat (first|exact (Kd.C_below HR0_1.out HB.out)|(with_reducible refine Kd.C_alloc ?_ _)|(with_reducible refine Kd.C_drewN ?_ _)|(with_reducible refine Kd.C_drew ?_)));(case side2=>exact HC0_1.out);rintro e w13 ⟨rfl,hb⟩;have n0_:=m_ (blk_below (g:=gb389) (o:=.cells #[.string a0_0,.slice A0_1 l0_1.length c0_1] 29 (0,0)) (by (with_reducible repeat first|apply b1_|apply b2_|apply b3_);exact BK389.out) hb);have n1_:=m_ (l5_ (by repeat (first|(with_reducible first|exact HB.out|apply l1_|apply l2_|apply l3_|refine l4_ ?_ GE389.out)|exact HB.out)) hb);clear BK389;clear HB;have BK389:=n0_;have HB:=n1_;clear n0_ n1_;(try clear hb);(try clear hb2);(try clear hk);(try clear hi))|(go_at_call 29;(with_reducible refine (impl_within.calls a1 0 (t391.size : Int) true _ A6.out).mono ?_);rintro e w' ⟨rfl,⟨nd,rfl⟩⟩;have hcz14_0 : w13.cell? ⟨gb389,0,none⟩ = some (.string a0_0):=(c_ BK389.out 0).trans rfl;have hcz14_1 : w13.cell? ⟨gb389,1,none⟩ = some (.slice A0_1 l0_1.length c0_1):=(c_ BK389.out 1).trans rfl)|((with_reducible refine gate_callee (f:=37) rfl ?_);refine goesL_ (some 18) rfl rfl Tryd.func37 (by kernel_rfl) rfl #[.agg #[.string a0_0,.slice A0_1 l0_1.length c0_1],.int .i64 a1] rfl (by (try simp only [List.map_toArray,List.map_cons,List.map_nil]);first|done|rfl|(simp only [List.length_drop,List.length_take];rfl)) ?_;(with_reducible refine (impl_Stream_back.calls k a0_0 _ _ l0_1 a1 t393 _ ?side1 ?side2 A8.out).mono ?_);(case side1=>repeat (first|exact (Kd.C_below HR0_1.out (by repeat (first|(with_reducible first|exact HB.out|apply l1_|apply l2_|apply l3_|refine l4_ ?_ GE389.out)|exact HB.out)))|(with_reducible refine Kd.C_alloc ?_ _)|(with_reducible refine Kd.C_drewN ?_ _)|(with_reducible refine Kd.C_drew ?_)));(case side2=>exact HC0_1.out);rintro e w15 ⟨rfl,hb⟩;refine ⟨_,rfl,?_⟩;have n0_:=m_ (blk_below (g:=gb389) (o:=.cells #[.string a0_0,.slice A0_1 l0_1.length c0_1] 29 (0,0)) (by (with_reducible repeat first|apply b1_|apply b2_|apply b3_);exact BK389.out) hb);have n1_:=m_ (l5_ (by repeat (first|(with_reducible first|exact HB.out|apply l1_|apply l2_|apply l3_|refine l4_ ?_ GE389.out)|exact HB.out)) hb);clear BK389;clear HB;have BK389:=n0_;have HB:=n1_;clear n0_ n1_;(try clear hb);(try clear hb2);(try clear hk);(try clear hi)))
   go_ret
   exact ⟨by first|rfl|(simp [e1_,e2_] <;> rfl)|(simp [*,e1_,e2_] <;> rfl)|(simp [e1_,e2_,pk_empty1,pk_empty2];done)|(simp [*,e1_,e2_,pk_empty1,pk_empty2];done),by repeat (first|(with_reducible first|exact HB.out|apply l1_|apply l2_|apply l3_|refine l4_ ?_ GE389.out)|exact HB.out)⟩
  ·replace c7:=Bool.eq_false_iff.mpr c7
   subst c7
   have H1 : (some (-1)) = some r:=by rw [if_neg (show ¬ (false = true) by decide)] at H;exact H
   clear H
   have H:=H1
   clear H1
   obtain rfl:=Option.some.inj H
   go_enter Tryd.func18,Tryd.ntmps18
   go_wp2_with (first|((with_reducible refine gate_dst (N:=2) rfl ?_);(try (refine gate_guard (by rfl) ?_;dsimp only));refine box_event ?hg (N:=2) ?hd (cs:=#[.string a0_0,.slice A0_1 l0_1.length c0_1]) (t:=29) ?hr ?_;(case hd=>rfl);(case hg=>rfl);(case hr=>first|(go_simp;done)|(go_simp;rfl));intro gb389 hg w16 hbox hb;have n0_:=m_ (l5_ (by repeat (first|(with_reducible first|exact HB.out|apply l1_|apply l2_|apply l3_)|exact HB.out)) hb);have n1_:=m_ (hbox);have n2_:=m_ ((by rw [hg];exact (l6_ (by repeat (first|(with_reducible first|exact HB.out|apply l1_|apply l2_|apply l3_)|exact HB.out))) : w.heap.size ≤ gb389));have n3_:=m_ ((by rw [hg];exact (l6_ (by repeat (first|(with_reducible first|exact HB.out|apply l1_|apply l2_|apply l3_)|exact HB.out))) : w.heap.size ≤ gb389));clear HB;have HB:=n0_;have BK389:=n1_;have GW389:=n2_;have GE389:=n3_;clear n0_ n1_ n2_ n3_;clear hb hbox hg;have hcz17_0 : w16.cell? ⟨gb389,0,none⟩ = some (.string a0_0):=(c_ BK389.out 0).trans rfl;have hcz17_1 : w16.cell? ⟨gb389,1,none⟩ = some (.slice A0_1 l0_1.length c0_1):=(c_ BK389.out 1).trans rfl)|((with_reducible refine gate_callee (f:=11) rfl ?_);refine goesL_ (some 6) rfl rfl Tryd.func11 (by kernel_rfl) rfl #[.agg #[.string a0_0,.slice A0_1 l0_1.length c0_1]] rfl (by (try simp only [List.map_toArray,List.map_cons,List.map_nil]);first|done|rfl|(simp only [List.length_drop,List.length_take];rfl)) ?_;(with_reducible refine (impl_StreamOk.calls k a0_0 _ _ l0_1 true _ ?side1 ?side2 ?side3 A3.out).mono ?_);(case side1=>repeat (first|exact (Kd.C_below HR0_1.out HB.out)|(with_reducible refine Kd.C_alloc ?_ _)|(with_reducible refine Kd.C_drewN ?_ _)|(with_reducible refine Kd.C_drew ?_)));(case side2=>exact HC0_1.out);(case side3=>first|(with_reducible exact HG.out)|exact GV_below HG.out (by repeat (first|(with_reducible first|exact HB.out|apply l1_|apply l2_|apply l3_|refine l4_ ?_ GE389.out)|exact HB.out)));rintro e w18 ⟨rfl,hb⟩;refine ⟨_,rfl,?_⟩;have n0_:=m_ (blk_below (g:=gb389) (o:=.cells #[.string a0_0,.slice A0_1 l0_1.length c0_1] 29 (0,0)) (by (with_reducible repeat first|apply b1_|apply b2_|apply b3_);exact BK389.out) hb);have n1_:=m_ (l5_ (by repeat (first|(with_reducible first|exact HB.out|apply l1_|apply l2_|apply l3_|refine l4_ ?_ GE389.out)|exact HB.out)) hb);clear BK389;clear HB;have BK389:=n0_;have HB:=n1_;clear n0_ n1_;(try clear hb);(try clear hb2);(try clear hk);(try clear hi);have hcz19_0 : w18.cell? ⟨gb389,0,none⟩ = some (.string a0_0):=(c_ BK389.out 0).trans rfl;have hcz19_1 : w18.cell? ⟨gb389,1,none⟩ = some (.slice A0_1 l0_1.length c0_1):=(c_ BK389.out 1).trans rfl)|(go_at_call 35;(with_reducible refine (impl_Stream_out.calls a0_0 _ _ l0_1 t391 _ ?side1 ?side2 A5.out).mono ?_);(case side1=>repeat (first|exact (Kd.C_below HR0_1.out HB.out)|(with_reducible refine Kd.C_alloc ?_ _)|(with_reducible refine Kd.C_drewN ?_ _)|(with_reducible refine Kd.C_drew ?_)));(case side2=>exact HC0_1.out);rintro e w20 ⟨rfl,hb⟩;have n0_:=m_ (blk_below (g:=gb389) (o:=.cells #[.string a0_0,.slice A0_1 l0_1.length c0_1] 29 (0,0)) (by (with_reducible repeat first|apply b1_|apply b2_|apply b3_);exact BK389.out) hb);have n1_:=m_ (l5_ (by repeat (first|(with_reducible first|exact HB.out|apply l1_|apply l2_|apply l3_|refine l4_ ?_ GE389.out)|exact HB.out)) hb);clear BK389;clear HB;have BK389:=n0_;have HB:=n1_;clear n0_ n1_;(try clear hb);(try clear hb2);(try clear hk);(try clear hi))|(go_at_call 29;(with_reducible refine (impl_within.calls a1 0 (t391.size : Int) false _ A6.out).mono ?_);rintro e w' ⟨rfl,⟨nd,rfl⟩⟩))
   go_ret
   exact ⟨by first|rfl|(simp [e1_,e2_] <;> rfl)|(simp [*,e1_,e2_] <;> rfl)|(simp [e1_,e2_,pk_empty1,pk_empty2];done)|(simp [*,e1_,e2_,pk_empty1,pk_empty2];done),by repeat (first|(with_reducible first|exact HB.out|apply l1_|apply l2_|apply l3_|refine l4_ ?_ GE389.out)|exact HB.out)⟩
 ·replace c4:=Bool.eq_false_iff.mpr c4
  subst c4
  have H1 : (some (-1)) = some r:=by rw [if_neg (show ¬ (false = true) by decide)] at H;exact H
  clear H
  have H:=H1
  clear H1
  obtain rfl:=Option.some.inj H
  go_enter Tryd.func18,Tryd.ntmps18
  go_wp2_with (first|((with_reducible refine gate_dst (N:=2) rfl ?_);(try (refine gate_guard (by rfl) ?_;dsimp only));refine box_event ?hg (N:=2) ?hd (cs:=#[.string a0_0,.slice A0_1 l0_1.length c0_1]) (t:=29) ?hr ?_;(case hd=>rfl);(case hg=>rfl);(case hr=>first|(go_simp;done)|(go_simp;rfl));intro gb389 hg w21 hbox hb;have n0_:=m_ (l5_ (by repeat (first|(with_reducible first|exact HB.out|apply l1_|apply l2_|apply l3_)|exact HB.out)) hb);have n1_:=m_ (hbox);have n2_:=m_ ((by rw [hg];exact (l6_ (by repeat (first|(with_reducible first|exact HB.out|apply l1_|apply l2_|apply l3_)|exact HB.out))) : w.heap.size ≤ gb389));have n3_:=m_ ((by rw [hg];exact (l6_ (by repeat (first|(with_reducible first|exact HB.out|apply l1_|apply l2_|apply l3_)|exact HB.out))) : w.heap.size ≤ gb389));clear HB;have HB:=n0_;have BK389:=n1_;have GW389:=n2_;have GE389:=n3_;clear n0_ n1_ n2_ n3_;clear hb hbox hg;have hcz22_0 : w21.cell? ⟨gb389,0,none⟩ = some (.string a0_0):=(c_ BK389.out 0).trans rfl;have hcz22_1 : w21.cell? ⟨gb389,1,none⟩ = some (.slice A0_1 l0_1.length c0_1):=(c_ BK389.out 1).trans rfl)|((with_reducible refine gate_callee (f:=11) rfl ?_);refine goesL_ (some 6) rfl rfl Tryd.func11 (by kernel_rfl) rfl #[.agg #[.string a0_0,.slice A0_1 l0_1.length c0_1]] rfl (by (try simp only [List.map_toArray,List.map_cons,List.map_nil]);first|done|rfl|(simp only [List.length_drop,List.length_take];rfl)) ?_;(with_reducible refine (impl_StreamOk.calls k a0_0 _ _ l0_1 false _ ?side1 ?side2 ?side3 A3.out).mono ?_);(case side1=>repeat (first|exact (Kd.C_below HR0_1.out HB.out)|(with_reducible refine Kd.C_alloc ?_ _)|(with_reducible refine Kd.C_drewN ?_ _)|(with_reducible refine Kd.C_drew ?_)));(case side2=>exact HC0_1.out);(case side3=>first|(with_reducible exact HG.out)|exact GV_below HG.out (by repeat (first|(with_reducible first|exact HB.out|apply l1_|apply l2_|apply l3_|refine l4_ ?_ GE389.out)|exact HB.out)));rintro e w23 ⟨rfl,hb⟩;refine ⟨_,rfl,?_⟩;have n0_:=m_ (blk_below (g:=gb389) (o:=.cells #[.string a0_0,.slice A0_1 l0_1.length c0_1] 29 (0,0)) (by (with_reducible repeat first|apply b1_|apply b2_|apply b3_);exact BK389.out) hb);have n1_:=m_ (l5_ (by repeat (first|(with_reducible first|exact HB.out|apply l1_|apply l2_|apply l3_|refine l4_ ?_ GE389.out)|exact HB.out)) hb);clear BK389;clear HB;have BK389:=n0_;have HB:=n1_;clear n0_ n1_;(try clear hb);(try clear hb2);(try clear hk);(try clear hi)))
  go_ret
  exact ⟨by first|rfl|(simp [e1_,e2_] <;> rfl)|(simp [*,e1_,e2_] <;> rfl)|(simp [e1_,e2_,pk_empty1,pk_empty2];done)|(simp [*,e1_,e2_,pk_empty1,pk_empty2];done),by repeat (first|(with_reducible first|exact HB.out|apply l1_|apply l2_|apply l3_|refine l4_ ?_ GE389.out)|exact HB.out)⟩

end Go.Proofs.YtkcjmmhleepjeaaDoor.A
