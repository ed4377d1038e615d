-- Printed by myprint.py (wip/tools) out of the translation. Not trusted: Lean checks it.
import Derived.Test.YtkcjmmhleepjeaaDoorAx0
import Derived.Test.YtkcjmmhleepjeaaDoorAx2
namespace Go.Proofs.YtkcjmmhleepjeaaDoor.A
open Go.RowKit Go.Proofs.YtkcjmmhleepjeaaDoorW.PrintWords Go.Proofs.YtkcjmmhleepjeaaDoorW.PrintLast Go.Proofs.YtkcjmmhleepjeaaDoorW.PrintMore
attribute [local go_sem] max2_int min2_int max_two min_two max_three min_three max_four min_four
set_option linter.unusedVariables false
set_option maxHeartbeats 8000000
set_option maxRecDepth 100000
set_option linter.unusedSimpArgs false

/-! ### spec_l2Held: function 57 -/
def spec_l2Held.l0 : Nat → ByteArray → Int → Option (Int)
 | 0, _, _ => none
 | k + 1, x0, x3 => if x3 > 0 then (if 0 ≤ (wrap64 ((x0.size : Int) - x3)) then (if (wrap64 ((x0.size : Int) - x3)) ≤ (x0.size : Int) then ((spec_l2Begins.f (x0.extract ((wrap64 ((x0.size : Int) - x3)) : Int).toNat x0.size)).bind fun t116 => (if t116 = true then (some x3) else (spec_l2Held.l0 k x0 (wrap64 (x3 - 1))))) else (none)) else (none)) else (some 0)
def spec_l2Held.f (k : Nat) (a0 : ByteArray) : Option (Int) := spec_l2Held.l0 k a0 (mn 5 (a0.size : Int))
theorem spec_l2Held.mono_l : ∀ k, (∀ y0 y1, LeO (spec_l2Held.l0 k y0 y1) (spec_l2Held.l0 (k + 1) y0 y1))
 | 0 => fun _ _ r h => by simp [spec_l2Held.l0] at h
 | k + 1 => by
  have ih0:=spec_l2Held.mono_l k
  ·intro y0 y1
   unfold spec_l2Held.l0
   repeat' first
   | (with_reducible exact ih0 _ _)
   | (with_reducible exact LeO.refl _)
   | (with_reducible exact LeO.none _)
   | (with_reducible refine LeO.ite ?_ ?_)
   | (with_reducible refine LeO.bind ?_ (fun _ => ?_))
   | exact ih0 _ _
   | exact LeO.none _
   | refine LeO.ite ?_ ?_
   | refine LeO.bind ?_ (fun _ => ?_)
theorem spec_l2Held.mono : ∀ a0 k, LeO (spec_l2Held.f k a0) (spec_l2Held.f (k + 1) a0) := by
 intro a0 k
 have ih0:=spec_l2Held.mono_l k
 unfold spec_l2Held.f
 repeat' first
   | (with_reducible exact ih0 _ _)
   | (with_reducible exact LeO.refl _)
   | (with_reducible exact LeO.none _)
   | (with_reducible refine LeO.ite ?_ ?_)
   | (with_reducible refine LeO.bind ?_ (fun _ => ?_))
   | exact ih0 _ _
   | exact LeO.none _
   | refine LeO.ite ?_ ?_
   | refine LeO.bind ?_ (fun _ => ?_)
theorem spec_l2Held.calls (k : Nat) (a0 : ByteArray) (r : Int) (w : World) (h : spec_l2Held.f k a0 = some r) :
  Calls Tryd.prog 57 #[.string a0] w fun e w'=>e = .returned (.int .i64 r) ∧ Below w.heap.size w w':=by
 have HB:=m_ (Below.refl w.heap.size w)
 have H : (spec_l2Held.l0 k a0 (mn 5 (a0.size : Int))) = some r:=h
 clear h
 obtain ⟨ji2,hji2⟩ : ∃ j_ : Int,(mn 5 (a0.size : Int)) = j_:=⟨_,rfl⟩
 replace H : (spec_l2Held.l0 k a0 ji2) = some r:=by first|(rw [hji2] at H;exact H)|(simp only [hji2] at H ⊢;exact H)
 (try (have hji2h : ji2 ≤ 5:=by (rw [← hji2];unfold mn;(repeat' split) <;> omega)))
 (try (have hji2g : ji2 ≤ 64:=by omega))
 (try (have hji2l : 0 ≤ ji2:=by (rw [← hji2];unfold mn;(repeat' split) <;> omega)))
 (try (have hji2m : 0 ≤ ji2:=by omega))
 have hji2_ : (if (a0.size : Int) < 5 then (a0.size : Int) else 5) = ji2:=hji2
 have H':=m_ H
 clear H
 go_enter Tryd.func57,Tryd.ntmps57
 go_wp2
 go_loopg [3] k (fun kq v3 w'=>∃ (x3_1 : Int),v3 = .int .i64 x3_1 ∧ Aside0 (spec_l2Held.l0 kq a0 x3_1 = some r) ∧ Aside0 (kq ≤ k) ∧ Aside0 (Below w.heap.size w w'))
 case atStart=>exact ⟨(ji2),(by first|rfl|(simp;done)|(simp only [← hji2] <;> (first|rfl|simp))|(simp [*];done)),H',⟨Nat.le_refl _⟩,⟨puL HB.out⟩⟩
 case round =>
  clear H'
  try clear p2
  obtain ⟨x3_1,rfl,HA,HK1,HB⟩:=hrel
  cases gk with
  | zero => exact absurd HA.out (by simp [spec_l2Held.l0])
  | succ k1 =>
   have H:=HA.out
   clear HA
   simp only [spec_l2Held.l0] at H
   by_cases c3 : x3_1 > 0
   ·rw [if_pos c3] at H
    have c3b0 : decide (0 < x3_1) = true:=decide_eq_true c3
    clear c3
    obtain ⟨ji4,hji4⟩ : ∃ j_ : Int,(wrap64 ((a0.size : Int) - x3_1)) = j_:=⟨_,rfl⟩
    replace H : (if 0 ≤ (ji4) then (if (ji4) ≤ (a0.size : Int) then ((spec_l2Begins.f (a0.extract ((ji4) : Int).toNat a0.size)).bind fun t116=>(if t116 = true then (some x3_1) else (spec_l2Held.l0 k1 a0 (wrap64 (x3_1 - 1))))) else (none)) else (none)) = some r:=by first|(rw [hji4] at H;exact H)|(simp only [hji4] at H ⊢;exact H)
    have hji4w : (IntKind.i64.wrap ((a0.size : Int) - x3_1)) = ji4:=(i64_w _).trans hji4
    by_cases c5 : 0 ≤ (ji4)
    rotate_left
    ·rw [if_neg c5] at H
     exact absurd H (by simp)
    rw [if_pos c5] at H
    have c5b0:=eq_true c5
    have c5b1:=decide_eq_true c5
    clear c5
    by_cases c6 : (ji4) ≤ (a0.size : Int)
    rotate_left
    ·rw [if_neg c6] at H
     exact absurd H (by simp)
    rw [if_pos c6] at H
    have c6b0:=eq_true c6
    have c6b1:=decide_eq_true c6
    clear c6
    replace H:=Option.bind_eq_some_iff.mp H
    obtain ⟨t116,A70,H⟩:=H
    replace H : (if t116 = true then (some x3_1) else (spec_l2Held.l0 k1 a0 (wrap64 (x3_1 - 1)))) = some r:=H
    have A7:=m_ A70
    clear A70
    by_cases c8 : t116 = true
    ·subst c8
     have H1 : (some x3_1) = some r:=by rw [if_pos rfl] at H;exact H
     clear H
     have H:=H1
     clear H1
     obtain rfl:=Option.some.inj H
     go_wp2_with (first|((with_reducible refine gate_callee (f:=71) rfl ?_);refine goesL_ (some 17) rfl rfl Tryd.func71 (by kernel_rfl) rfl #[.string (a0.extract ((ji4) : Int).toNat a0.size)] rfl (by (try simp only [List.map_toArray,List.map_cons,List.map_nil]);first|done|(simp only [hji4];rfl)|rfl|(simp only [List.length_drop,List.length_take];rfl)) ?_;(with_reducible refine (spec_l2Begins.calls (a0.extract ((ji4) : Int).toNat a0.size) true _ A7.out).mono ?_);rintro e w' ⟨rfl,⟨nd,rfl⟩⟩;refine ⟨_,rfl,?_⟩))
     go_ret
     exact ⟨by first|rfl|(simp [e1_,e2_] <;> rfl)|(simp only [← hji2,← hji4];first|rfl|(simp [e1_,e2_] <;> rfl))|(simp [*,e1_,e2_] <;> rfl)|(simp [e1_,e2_,pk_empty1,pk_empty2];done)|(simp [*,e1_,e2_,pk_empty1,pk_empty2];done),puL HB.out⟩
    ·replace c8:=Bool.eq_false_iff.mpr c8
     subst c8
     have H1 : (spec_l2Held.l0 k1 a0 (wrap64 (x3_1 - 1))) = some r:=by rw [if_neg (show ¬ (false = true) by decide)] at H;exact H
     clear H
     have H:=H1
     clear H1
     have H':=m_ H
     clear H
     go_wp2_with (first|((with_reducible refine gate_callee (f:=71) rfl ?_);refine goesL_ (some 17) rfl rfl Tryd.func71 (by kernel_rfl) rfl #[.string (a0.extract ((ji4) : Int).toNat a0.size)] rfl (by (try simp only [List.map_toArray,List.map_cons,List.map_nil]);first|done|(simp only [hji4];rfl)|rfl|(simp only [List.length_drop,List.length_take];rfl)) ?_;(with_reducible refine (spec_l2Begins.calls (a0.extract ((ji4) : Int).toNat a0.size) false _ A7.out).mono ?_);rintro e w' ⟨rfl,⟨nd,rfl⟩⟩;refine ⟨_,rfl,?_⟩))
     go_roundg k1
     case measure=>have:=HK1.out;omega
     case rel=>exact ⟨(wrap64 (x3_1 - 1)),(by first|rfl|(simp;done)|(simp [*];done)),H',⟨by have:=HK1.out;omega⟩,⟨puL HB.out⟩⟩
   ·rw [if_neg c3] at H
    have c3b0 : decide (0 < x3_1) = false:=decide_eq_false c3
    clear c3
    obtain rfl:=Option.some.inj H
    go_wp2
    go_ret
    exact ⟨by first|rfl|(simp [e1_,e2_] <;> rfl)|(simp only [← hji2];first|rfl|(simp [e1_,e2_] <;> rfl))|(simp [*,e1_,e2_] <;> rfl)|(simp [e1_,e2_,pk_empty1,pk_empty2];done)|(simp [*,e1_,e2_,pk_empty1,pk_empty2];done),puL HB.out⟩

/-! ### spec_l1Host: function 78 -/
def spec_l1Host.f (a0_0 : Int) (a0_1 : Int) : Option (Bool) := (spec_l6In.f a0_1 1 9).bind fun t118 => (some t118)
theorem spec_l1Host.calls (a0_0 : Int) (a0_1 : Int) (r : Bool) (w : World) (h : spec_l1Host.f a0_0 a0_1 = some r) :
  Calls Tryd.prog 78 #[.agg #[.int .i64 a0_0,.int .i64 a0_1]] w fun e w'=>e = .returned (.bool r) ∧ Below w.heap.size w w':=by
 have hu43:=Tryd.underlying43
 have HB:=m_ (Below.refl w.heap.size w)
 have H : ((spec_l6In.f a0_1 1 9).bind fun t118=>(some t118)) = some r:=h
 clear h
 replace H:=Option.bind_eq_some_iff.mp H
 obtain ⟨t118,A20,H⟩:=H
 replace H : (some t118) = some r:=H
 have A2:=m_ A20
 clear A20
 obtain rfl:=Option.some.inj H
 go_enter Tryd.func78,Tryd.ntmps78
 go_wp2_with (first|((with_reducible refine gate_dst (N:=1) rfl ?_);refine box_event ?hg (N:=1) ?hd (cs:=#[.int .i64 a0_0,.int .i64 a0_1]) (t:=43) ?hr ?_;(case hd=>rfl);(case hg=>rfl);(case hr=>first|(go_simp;done)|(go_simp;rfl));intro gb117 hg w3 hbox hb;have n0_:=m_ (l5_ (puL HB.out) hb);have n1_:=m_ (hbox);have n2_:=m_ ((by rw [hg];exact (l6_ (puL HB.out)) : w.heap.size ≤ gb117));have n3_:=m_ ((by rw [hg];exact (l6_ (puL HB.out)) : w.heap.size ≤ gb117));revert n0_ n1_ n2_ n3_;clear HB;intro HB BK117 GW117 GE117;clear hb hbox hg;have hcz4_0 : w3.cell? ⟨gb117,0,none⟩ = some (.int .i64 a0_0):=(c_ BK117.out 0).trans rfl;have hcz4_1 : w3.cell? ⟨gb117,1,none⟩ = some (.int .i64 a0_1):=(c_ BK117.out 1).trans rfl)|((with_reducible refine gate_callee (f:=31) rfl ?_);refine goesL_ (some 5) rfl rfl Tryd.func31 (by kernel_rfl) rfl #[.int .i64 a0_1,.int .i64 1,.int .i64 9] rfl lens ?_;(with_reducible refine (spec_l6In.calls a0_1 1 9 t118 _ A2.out).mono ?_);rintro e w' ⟨rfl,⟨nd,rfl⟩⟩;refine ⟨_,rfl,?_⟩))
 go_ret
 exact ⟨eqs,puM HB.out GE117.out⟩

/-! ### spec_EndInside: function 66 -/
def spec_EndInside.f (a0_0 : Int) (a0_1 : Int) : Option (Bool) := (spec_l6In.f a0_0 1 3).bind fun t120 => (if t120 = true then ((spec_l1Host.f a0_0 a0_1).bind fun t121 => (some t121)) else (some false))
theorem spec_EndInside.calls (a0_0 : Int) (a0_1 : Int) (r : Bool) (w : World) (h : spec_EndInside.f a0_0 a0_1 = some r) :
  Calls Tryd.prog 66 #[.agg #[.int .i64 a0_0,.int .i64 a0_1]] w fun e w'=>e = .returned (.bool r) ∧ Below w.heap.size w w':=by
 have hu43:=Tryd.underlying43
 have HB:=m_ (Below.refl w.heap.size w)
 have H : ((spec_l6In.f a0_0 1 3).bind fun t120=>(if t120 = true then ((spec_l1Host.f a0_0 a0_1).bind fun t121=>(some t121)) else (some false))) = some r:=h
 clear h
 replace H:=Option.bind_eq_some_iff.mp H
 obtain ⟨t120,A20,H⟩:=H
 replace H : (if t120 = true then ((spec_l1Host.f a0_0 a0_1).bind fun t121=>(some t121)) else (some false)) = some r:=H
 have A2:=m_ A20
 clear A20
 by_cases c3 : t120 = true
 ·subst c3
  have H1 : ((spec_l1Host.f a0_0 a0_1).bind fun t121=>(some t121)) = some r:=by rw [if_pos rfl] at H;exact H
  clear H
  have H:=H1
  clear H1
  replace H:=Option.bind_eq_some_iff.mp H
  obtain ⟨t121,A40,H⟩:=H
  replace H : (some t121) = some r:=H
  have A4:=m_ A40
  clear A40
  obtain rfl:=Option.some.inj H
  go_enter Tryd.func66,Tryd.ntmps66
  go_wp2_with (first|((with_reducible refine gate_dst (N:=1) rfl ?_);refine box_event ?hg (N:=1) ?hd (cs:=#[.int .i64 a0_0,.int .i64 a0_1]) (t:=43) ?hr ?_;(case hd=>rfl);(case hg=>rfl);(case hr=>first|(go_simp;done)|(go_simp;rfl));intro gb119 hg w5 hbox hb;have n0_:=m_ (l5_ (puL HB.out) hb);have n1_:=m_ (hbox);have n2_:=m_ ((by rw [hg];exact (l6_ (puL HB.out)) : w.heap.size ≤ gb119));have n3_:=m_ ((by rw [hg];exact (l6_ (puL HB.out)) : w.heap.size ≤ gb119));revert n0_ n1_ n2_ n3_;clear HB;intro HB BK119 GW119 GE119;clear hb hbox hg;have hcz6_0 : w5.cell? ⟨gb119,0,none⟩ = some (.int .i64 a0_0):=(c_ BK119.out 0).trans rfl;have hcz6_1 : w5.cell? ⟨gb119,1,none⟩ = some (.int .i64 a0_1):=(c_ BK119.out 1).trans rfl)|((with_reducible refine gate_callee (f:=31) rfl ?_);refine goesL_ (some 5) rfl rfl Tryd.func31 (by kernel_rfl) rfl #[.int .i64 a0_0,.int .i64 1,.int .i64 3] rfl lens ?_;(with_reducible refine (spec_l6In.calls a0_0 1 3 true _ A2.out).mono ?_);rintro e w' ⟨rfl,⟨nd,rfl⟩⟩;refine ⟨_,rfl,?_⟩)|(go_at_call 78;(with_reducible refine (spec_l1Host.calls a0_0 a0_1 t121 _ A4.out).mono ?_);rintro e w7 ⟨rfl,hb⟩;have n0_:=m_ (blk_below (g:=gb119) (o:=.cells #[.int .i64 a0_0,.int .i64 a0_1] 43 (0,0)) (puB BK119.out) hb);have n1_:=m_ (l5_ (puM HB.out GE119.out) hb);revert n0_ n1_;clear BK119 HB;intro BK119 HB;(try clear hb);(try clear hb2);(try clear hk);(try clear hi)))
  go_ret
  exact ⟨eqs,puM HB.out GE119.out⟩
 ·replace c3:=Bool.eq_false_iff.mpr c3
  subst c3
  have H1 : (some false) = some r:=by rw [if_neg (show ¬ (false = true) by decide)] at H;exact H
  clear H
  have H:=H1
  clear H1
  obtain rfl:=Option.some.inj H
  go_enter Tryd.func66,Tryd.ntmps66
  go_wp2_with (first|((with_reducible refine gate_dst (N:=1) rfl ?_);refine box_event ?hg (N:=1) ?hd (cs:=#[.int .i64 a0_0,.int .i64 a0_1]) (t:=43) ?hr ?_;(case hd=>rfl);(case hg=>rfl);(case hr=>first|(go_simp;done)|(go_simp;rfl));intro gb119 hg w8 hbox hb;have n0_:=m_ (l5_ (puL HB.out) hb);have n1_:=m_ (hbox);have n2_:=m_ ((by rw [hg];exact (l6_ (puL HB.out)) : w.heap.size ≤ gb119));have n3_:=m_ ((by rw [hg];exact (l6_ (puL HB.out)) : w.heap.size ≤ gb119));revert n0_ n1_ n2_ n3_;clear HB;intro HB BK119 GW119 GE119;clear hb hbox hg;have hcz9_0 : w8.cell? ⟨gb119,0,none⟩ = some (.int .i64 a0_0):=(c_ BK119.out 0).trans rfl;have hcz9_1 : w8.cell? ⟨gb119,1,none⟩ = some (.int .i64 a0_1):=(c_ BK119.out 1).trans rfl)|((with_reducible refine gate_callee (f:=31) rfl ?_);refine goesL_ (some 5) rfl rfl Tryd.func31 (by kernel_rfl) rfl #[.int .i64 a0_0,.int .i64 1,.int .i64 3] rfl lens ?_;(with_reducible refine (spec_l6In.calls a0_0 1 3 false _ A2.out).mono ?_);rintro e w' ⟨rfl,⟨nd,rfl⟩⟩;refine ⟨_,rfl,?_⟩))
  go_ret
  exact ⟨eqs,puM HB.out GE119.out⟩

/-! ### spec_EndDoor: function 81 -/
def spec_EndDoor.f (a0_0 : Int) (a0_1 : Int) : Option (Bool) := if a0_0 = 9 then ((spec_l6In.f a0_1 10 17).bind fun t123 => (some t123)) else (some false)
theorem spec_EndDoor.calls (a0_0 : Int) (a0_1 : Int) (r : Bool) (w : World) (h : spec_EndDoor.f a0_0 a0_1 = some r) :
  Calls Tryd.prog 81 #[.agg #[.int .i64 a0_0,.int .i64 a0_1]] w fun e w'=>e = .returned (.bool r) ∧ Below w.heap.size w w':=by
 have hu43:=Tryd.underlying43
 have HB:=m_ (Below.refl w.heap.size w)
 have H : (if a0_0 = 9 then ((spec_l6In.f a0_1 10 17).bind fun t123=>(some t123)) else (some false)) = some r:=h
 clear h
 by_cases c2 : a0_0 = 9
 ·rw [if_pos c2] at H
  have c2b0 : (a0_0 == 9) = true:=beq_iff_eq.mpr c2
  have c2b1 : (a0_0 != 9) = false:=bne_eq_false_iff_eq.mpr c2
  clear c2
  replace H:=Option.bind_eq_some_iff.mp H
  obtain ⟨t123,A30,H⟩:=H
  replace H : (some t123) = some r:=H
  have A3:=m_ A30
  clear A30
  obtain rfl:=Option.some.inj H
  go_enter Tryd.func81,Tryd.ntmps81
  go_wp2_with (first|((with_reducible refine gate_dst (N:=1) rfl ?_);refine box_event ?hg (N:=1) ?hd (cs:=#[.int .i64 a0_0,.int .i64 a0_1]) (t:=43) ?hr ?_;(case hd=>rfl);(case hg=>rfl);(case hr=>first|(go_simp;done)|(go_simp;rfl));intro gb122 hg w4 hbox hb;have n0_:=m_ (l5_ (puL HB.out) hb);have n1_:=m_ (hbox);have n2_:=m_ ((by rw [hg];exact (l6_ (puL HB.out)) : w.heap.size ≤ gb122));have n3_:=m_ ((by rw [hg];exact (l6_ (puL HB.out)) : w.heap.size ≤ gb122));revert n0_ n1_ n2_ n3_;clear HB;intro HB BK122 GW122 GE122;clear hb hbox hg;have hcz5_0 : w4.cell? ⟨gb122,0,none⟩ = some (.int .i64 a0_0):=(c_ BK122.out 0).trans rfl;have hcz5_1 : w4.cell? ⟨gb122,1,none⟩ = some (.int .i64 a0_1):=(c_ BK122.out 1).trans rfl)|(go_at_call 31;(with_reducible refine (spec_l6In.calls a0_1 10 17 t123 _ A3.out).mono ?_);rintro e w' ⟨rfl,⟨nd,rfl⟩⟩))
  go_ret
  exact ⟨eqs,puM HB.out GE122.out⟩
 ·rw [if_neg c2] at H
  have c2b0 : (a0_0 == 9) = false:=beq_eq_false_iff_ne.mpr c2
  have c2b1 : (a0_0 != 9) = true:=bne_iff_ne.mpr c2
  obtain rfl:=Option.some.inj H
  go_enter Tryd.func81,Tryd.ntmps81
  go_wp2_with (first|((with_reducible refine gate_dst (N:=1) rfl ?_);refine box_event ?hg (N:=1) ?hd (cs:=#[.int .i64 a0_0,.int .i64 a0_1]) (t:=43) ?hr ?_;(case hd=>rfl);(case hg=>rfl);(case hr=>first|(go_simp;done)|(go_simp;rfl));intro gb122 hg w6 hbox hb;have n0_:=m_ (l5_ (puL HB.out) hb);have n1_:=m_ (hbox);have n2_:=m_ ((by rw [hg];exact (l6_ (puL HB.out)) : w.heap.size ≤ gb122));have n3_:=n2_;revert n0_ n1_ n2_ n3_;clear HB;intro HB BK122 GW122 GE122;clear hb hbox hg;have hcz7_0 : w6.cell? ⟨gb122,0,none⟩ = some (.int .i64 a0_0):=(c_ BK122.out 0).trans rfl;have hcz7_1 : w6.cell? ⟨gb122,1,none⟩ = some (.int .i64 a0_1):=(c_ BK122.out 1).trans rfl))
  go_ret
  exact ⟨eqs,puM HB.out GE122.out⟩

/-! ### spec_EndOutside: function 89 -/
def spec_EndOutside.f (a0_0 : Int) (a0_1 : Int) : Option (Bool) := (spec_l6In.f a0_0 4 6).bind fun t125 => (if t125 = true then ((spec_l1Host.f a0_0 a0_1).bind fun t126 => (some t126)) else (some false))
theorem spec_EndOutside.calls (a0_0 : Int) (a0_1 : Int) (r : Bool) (w : World) (h : spec_EndOutside.f a0_0 a0_1 = some r) :
  Calls Tryd.prog 89 #[.agg #[.int .i64 a0_0,.int .i64 a0_1]] w fun e w'=>e = .returned (.bool r) ∧ Below w.heap.size w w':=by
 have hu43:=Tryd.underlying43
 have HB:=m_ (Below.refl w.heap.size w)
 have H : ((spec_l6In.f a0_0 4 6).bind fun t125=>(if t125 = true then ((spec_l1Host.f a0_0 a0_1).bind fun t126=>(some t126)) else (some false))) = some r:=h
 clear h
 replace H:=Option.bind_eq_some_iff.mp H
 obtain ⟨t125,A20,H⟩:=H
 replace H : (if t125 = true then ((spec_l1Host.f a0_0 a0_1).bind fun t126=>(some t126)) else (some false)) = some r:=H
 have A2:=m_ A20
 clear A20
 by_cases c3 : t125 = true
 ·subst c3
  have H1 : ((spec_l1Host.f a0_0 a0_1).bind fun t126=>(some t126)) = some r:=by rw [if_pos rfl] at H;exact H
  clear H
  have H:=H1
  clear H1
  replace H:=Option.bind_eq_some_iff.mp H
  obtain ⟨t126,A40,H⟩:=H
  replace H : (some t126) = some r:=H
  have A4:=m_ A40
  clear A40
  obtain rfl:=Option.some.inj H
  go_enter Tryd.func89,Tryd.ntmps89
  go_wp2_with (first|((with_reducible refine gate_dst (N:=1) rfl ?_);refine box_event ?hg (N:=1) ?hd (cs:=#[.int .i64 a0_0,.int .i64 a0_1]) (t:=43) ?hr ?_;(case hd=>rfl);(case hg=>rfl);(case hr=>first|(go_simp;done)|(go_simp;rfl));intro gb124 hg w5 hbox hb;have n0_:=m_ (l5_ (puL HB.out) hb);have n1_:=m_ (hbox);have n2_:=m_ ((by rw [hg];exact (l6_ (puL HB.out)) : w.heap.size ≤ gb124));have n3_:=m_ ((by rw [hg];exact (l6_ (puL HB.out)) : w.heap.size ≤ gb124));revert n0_ n1_ n2_ n3_;clear HB;intro HB BK124 GW124 GE124;clear hb hbox hg;have hcz6_0 : w5.cell? ⟨gb124,0,none⟩ = some (.int .i64 a0_0):=(c_ BK124.out 0).trans rfl;have hcz6_1 : w5.cell? ⟨gb124,1,none⟩ = some (.int .i64 a0_1):=(c_ BK124.out 1).trans rfl)|((with_reducible refine gate_callee (f:=31) rfl ?_);refine goesL_ (some 5) rfl rfl Tryd.func31 (by kernel_rfl) rfl #[.int .i64 a0_0,.int .i64 4,.int .i64 6] rfl lens ?_;(with_reducible refine (spec_l6In.calls a0_0 4 6 true _ A2.out).mono ?_);rintro e w' ⟨rfl,⟨nd,rfl⟩⟩;refine ⟨_,rfl,?_⟩)|(go_at_call 78;(with_reducible refine (spec_l1Host.calls a0_0 a0_1 t126 _ A4.out).mono ?_);rintro e w7 ⟨rfl,hb⟩;have n0_:=m_ (blk_below (g:=gb124) (o:=.cells #[.int .i64 a0_0,.int .i64 a0_1] 43 (0,0)) (puB BK124.out) hb);have n1_:=m_ (l5_ (puM HB.out GE124.out) hb);revert n0_ n1_;clear BK124 HB;intro BK124 HB;(try clear hb);(try clear hb2);(try clear hk);(try clear hi)))
  go_ret
  exact ⟨eqs,puM HB.out GE124.out⟩
 ·replace c3:=Bool.eq_false_iff.mpr c3
  subst c3
  have H1 : (some false) = some r:=by rw [if_neg (show ¬ (false = true) by decide)] at H;exact H
  clear H
  have H:=H1
  clear H1
  obtain rfl:=Option.some.inj H
  go_enter Tryd.func89,Tryd.ntmps89
  go_wp2_with (first|((with_reducible refine gate_dst (N:=1) rfl ?_);refine box_event ?hg (N:=1) ?hd (cs:=#[.int .i64 a0_0,.int .i64 a0_1]) (t:=43) ?hr ?_;(case hd=>rfl);(case hg=>rfl);(case hr=>first|(go_simp;done)|(go_simp;rfl));intro gb124 hg w8 hbox hb;have n0_:=m_ (l5_ (puL HB.out) hb);have n1_:=m_ (hbox);have n2_:=m_ ((by rw [hg];exact (l6_ (puL HB.out)) : w.heap.size ≤ gb124));have n3_:=m_ ((by rw [hg];exact (l6_ (puL HB.out)) : w.heap.size ≤ gb124));revert n0_ n1_ n2_ n3_;clear HB;intro HB BK124 GW124 GE124;clear hb hbox hg;have hcz9_0 : w8.cell? ⟨gb124,0,none⟩ = some (.int .i64 a0_0):=(c_ BK124.out 0).trans rfl;have hcz9_1 : w8.cell? ⟨gb124,1,none⟩ = some (.int .i64 a0_1):=(c_ BK124.out 1).trans rfl)|((with_reducible refine gate_callee (f:=31) rfl ?_);refine goesL_ (some 5) rfl rfl Tryd.func31 (by kernel_rfl) rfl #[.int .i64 a0_0,.int .i64 4,.int .i64 6] rfl lens ?_;(with_reducible refine (spec_l6In.calls a0_0 4 6 false _ A2.out).mono ?_);rintro e w' ⟨rfl,⟨nd,rfl⟩⟩;refine ⟨_,rfl,?_⟩))
  go_ret
  exact ⟨eqs,puM HB.out GE124.out⟩

/-! ### spec_l1Any: function 79 -/
def spec_l1Any.f (a0_0 : Int) (a0_1 : Int) : Option (Bool) := (spec_EndInside.f a0_0 a0_1).bind fun t128 => (if t128 = true then (some true) else ((spec_EndOutside.f a0_0 a0_1).bind fun t129 => (if t129 = true then (some true) else ((spec_EndDoor.f a0_0 a0_1).bind fun t130 => (some t130)))))
theorem spec_l1Any.calls (a0_0 : Int) (a0_1 : Int) (r : Bool) (w : World) (h : spec_l1Any.f a0_0 a0_1 = some r) :
  Calls Tryd.prog 79 #[.agg #[.int .i64 a0_0,.int .i64 a0_1]] w fun e w'=>e = .returned (.bool r) ∧ Below w.heap.size w w':=by
 have hu43:=Tryd.underlying43
 have HB:=m_ (Below.refl w.heap.size w)
 have H : ((spec_EndInside.f a0_0 a0_1).bind fun t128=>(if t128 = true then (some true) else ((spec_EndOutside.f a0_0 a0_1).bind fun t129=>(if t129 = true then (some true) else ((spec_EndDoor.f a0_0 a0_1).bind fun t130=>(some t130)))))) = some r:=h
 clear h
 replace H:=Option.bind_eq_some_iff.mp H
 obtain ⟨t128,A20,H⟩:=H
 replace H : (if t128 = true then (some true) else ((spec_EndOutside.f a0_0 a0_1).bind fun t129=>(if t129 = true then (some true) else ((spec_EndDoor.f a0_0 a0_1).bind fun t130=>(some t130))))) = some r:=H
 have A2:=m_ A20
 clear A20
 by_cases c3 : t128 = true
 ·subst c3
  have H1 : (some true) = some r:=by rw [if_pos rfl] at H;exact H
  clear H
  have H:=H1
  clear H1
  obtain rfl:=Option.some.inj H
  go_enter Tryd.func79,Tryd.ntmps79
  go_wp2_with (first|((with_reducible refine gate_dst (N:=1) rfl ?_);refine box_event ?hg (N:=1) ?hd (cs:=#[.int .i64 a0_0,.int .i64 a0_1]) (t:=43) ?hr ?_;(case hd=>rfl);(case hg=>rfl);(case hr=>first|(go_simp;done)|(go_simp;rfl));intro gb127 hg w4 hbox hb;have n0_:=m_ (l5_ (puL HB.out) hb);have n1_:=m_ (hbox);have n2_:=m_ ((by rw [hg];exact (l6_ (puL HB.out)) : w.heap.size ≤ gb127));have n3_:=m_ ((by rw [hg];exact (l6_ (puL HB.out)) : w.heap.size ≤ gb127));revert n0_ n1_ n2_ n3_;clear HB;intro HB BK127 GW127 GE127;clear hb hbox hg;have hcz5_0 : w4.cell? ⟨gb127,0,none⟩ = some (.int .i64 a0_0):=(c_ BK127.out 0).trans rfl;have hcz5_1 : w4.cell? ⟨gb127,1,none⟩ = some (.int .i64 a0_1):=(c_ BK127.out 1).trans rfl)|((with_reducible refine gate_callee (f:=66) rfl ?_);refine goesL_ (some 4) rfl rfl Tryd.func66 (by kernel_rfl) rfl #[.agg #[.int .i64 a0_0,.int .i64 a0_1]] rfl lens ?_;(with_reducible refine (spec_EndInside.calls a0_0 a0_1 true _ A2.out).mono ?_);rintro e w6 ⟨rfl,hb⟩;refine ⟨_,rfl,?_⟩;have n0_:=m_ (blk_below (g:=gb127) (o:=.cells #[.int .i64 a0_0,.int .i64 a0_1] 43 (0,0)) (puB BK127.out) hb);have n1_:=m_ (l5_ (puM HB.out GE127.out) hb);revert n0_ n1_;clear BK127 HB;intro BK127 HB;(try clear hb);(try clear hb2);(try clear hk);(try clear hi)))
  go_ret
  exact ⟨eqs,puM HB.out GE127.out⟩
 ·replace c3:=Bool.eq_false_iff.mpr c3
  subst c3
  have H1 : ((spec_EndOutside.f a0_0 a0_1).bind fun t129=>(if t129 = true then (some true) else ((spec_EndDoor.f a0_0 a0_1).bind fun t130=>(some t130)))) = some r:=by rw [if_neg (show ¬ (false = true) by decide)] at H;exact H
  clear H
  have H:=H1
  clear H1
  replace H:=Option.bind_eq_some_iff.mp H
  obtain ⟨t129,A70,H⟩:=H
  replace H : (if t129 = true then (some true) else ((spec_EndDoor.f a0_0 a0_1).bind fun t130=>(some t130))) = some r:=H
  have A7:=m_ A70
  clear A70
  by_cases c8 : t129 = true
  ·subst c8
   have H1 : (some true) = some r:=by rw [if_pos rfl] at H;exact H
   clear H
   have H:=H1
   clear H1
   obtain rfl:=Option.some.inj H
   go_enter Tryd.func79,Tryd.ntmps79
   go_wp2_with (first|((with_reducible refine gate_dst (N:=1) rfl ?_);refine box_event ?hg (N:=1) ?hd (cs:=#[.int .i64 a0_0,.int .i64 a0_1]) (t:=43) ?hr ?_;(case hd=>rfl);(case hg=>rfl);(case hr=>first|(go_simp;done)|(go_simp;rfl));intro gb127 hg w9 hbox hb;have n0_:=m_ (l5_ (puL HB.out) hb);have n1_:=m_ (hbox);have n2_:=m_ ((by rw [hg];exact (l6_ (puL HB.out)) : w.heap.size ≤ gb127));have n3_:=m_ ((by rw [hg];exact (l6_ (puL HB.out)) : w.heap.size ≤ gb127));revert n0_ n1_ n2_ n3_;clear HB;intro HB BK127 GW127 GE127;clear hb hbox hg;have hcz10_0 : w9.cell? ⟨gb127,0,none⟩ = some (.int .i64 a0_0):=(c_ BK127.out 0).trans rfl;have hcz10_1 : w9.cell? ⟨gb127,1,none⟩ = some (.int .i64 a0_1):=(c_ BK127.out 1).trans rfl)|((with_reducible refine gate_callee (f:=66) rfl ?_);refine goesL_ (some 4) rfl rfl Tryd.func66 (by kernel_rfl) rfl #[.agg #[.int .i64 a0_0,.int .i64 a0_1]] rfl lens ?_;(with_reducible refine (spec_EndInside.calls a0_0 a0_1 false _ A2.out).mono ?_);rintro e w11 ⟨rfl,hb⟩;refine ⟨_,rfl,?_⟩;have n0_:=m_ (blk_below (g:=gb127) (o:=.cells #[.int .i64 a0_0,.int .i64 a0_1] 43 (0,0)) (puB BK127.out) hb);have n1_:=m_ (l5_ (puM HB.out GE127.out) hb);revert n0_ n1_;clear BK127 HB;intro BK127 HB;(try clear hb);(try clear hb2);(try clear hk);(try clear hi);have hcz12_0 : w11.cell? ⟨gb127,0,none⟩ = some (.int .i64 a0_0):=(c_ BK127.out 0).trans rfl;have hcz12_1 : w11.cell? ⟨gb127,1,none⟩ = some (.int .i64 a0_1):=(c_ BK127.out 1).trans rfl)|(go_at_call 89;(with_reducible refine (spec_EndOutside.calls a0_0 a0_1 true _ A7.out).mono ?_);rintro e w13 ⟨rfl,hb⟩;have n0_:=m_ (blk_below (g:=gb127) (o:=.cells #[.int .i64 a0_0,.int .i64 a0_1] 43 (0,0)) (puB BK127.out) hb);have n1_:=m_ (l5_ (puM HB.out GE127.out) hb);revert n0_ n1_;clear BK127 HB;intro BK127 HB;(try clear hb);(try clear hb2);(try clear hk);(try clear hi)))
   go_ret
   exact ⟨eqs,puM HB.out GE127.out⟩
  ·replace c8:=Bool.eq_false_iff.mpr c8
   subst c8
   have H1 : ((spec_EndDoor.f a0_0 a0_1).bind fun t130=>(some t130)) = some r:=by rw [if_neg (show ¬ (false = true) by decide)] at H;exact H
   clear H
   have H:=H1
   clear H1
   replace H:=Option.bind_eq_some_iff.mp H
   obtain ⟨t130,A140,H⟩:=H
   replace H : (some t130) = some r:=H
   have A14:=m_ A140
   clear A140
   obtain rfl:=Option.some.inj H
   go_enter Tryd.func79,Tryd.ntmps79
   go_wp2_with (first|((with_reducible refine gate_dst (N:=1) rfl ?_);refine box_event ?hg (N:=1) ?hd (cs:=#[.int .i64 a0_0,.int .i64 a0_1]) (t:=43) ?hr ?_;(case hd=>rfl);(case hg=>rfl);(case hr=>first|(go_simp;done)|(go_simp;rfl));intro gb127 hg w15 hbox hb;have n0_:=m_ (l5_ (puL HB.out) hb);have n1_:=m_ (hbox);have n2_:=m_ ((by rw [hg];exact (l6_ (puL HB.out)) : w.heap.size ≤ gb127));have n3_:=m_ ((by rw [hg];exact (l6_ (puL HB.out)) : w.heap.size ≤ gb127));revert n0_ n1_ n2_ n3_;clear HB;intro HB BK127 GW127 GE127;clear hb hbox hg;have hcz16_0 : w15.cell? ⟨gb127,0,none⟩ = some (.int .i64 a0_0):=(c_ BK127.out 0).trans rfl;have hcz16_1 : w15.cell? ⟨gb127,1,none⟩ = some (.int .i64 a0_1):=(c_ BK127.out 1).trans rfl)|((with_reducible refine gate_callee (f:=66) rfl ?_);refine goesL_ (some 4) rfl rfl Tryd.func66 (by kernel_rfl) rfl #[.agg #[.int .i64 a0_0,.int .i64 a0_1]] rfl lens ?_;(with_reducible refine (spec_EndInside.calls a0_0 a0_1 false _ A2.out).mono ?_);rintro e w17 ⟨rfl,hb⟩;refine ⟨_,rfl,?_⟩;have n0_:=m_ (blk_below (g:=gb127) (o:=.cells #[.int .i64 a0_0,.int .i64 a0_1] 43 (0,0)) (puB BK127.out) hb);have n1_:=m_ (l5_ (puM HB.out GE127.out) hb);revert n0_ n1_;clear BK127 HB;intro BK127 HB;(try clear hb);(try clear hb2);(try clear hk);(try clear hi);have hcz18_0 : w17.cell? ⟨gb127,0,none⟩ = some (.int .i64 a0_0):=(c_ BK127.out 0).trans rfl;have hcz18_1 : w17.cell? ⟨gb127,1,none⟩ = some (.int .i64 a0_1):=(c_ BK127.out 1).trans rfl)|(go_at_call 89;(with_reducible refine (spec_EndOutside.calls a0_0 a0_1 false _ A7.out).mono ?_);rintro e w19 ⟨rfl,hb⟩;have n0_:=m_ (blk_below (g:=gb127) (o:=.cells #[.int .i64 a0_0,.int .i64 a0_1] 43 (0,0)) (puB BK127.out) hb);have n1_:=m_ (l5_ (puM HB.out GE127.out) hb);revert n0_ n1_;clear BK127 HB;intro BK127 HB;(try clear hb);(try clear hb2);(try clear hk);(try clear hi);have hcz20_0 : w19.cell? ⟨gb127,0,none⟩ = some (.int .i64 a0_0):=(c_ BK127.out 0).trans rfl;have hcz20_1 : w19.cell? ⟨gb127,1,none⟩ = some (.int .i64 a0_1):=(c_ BK127.out 1).trans rfl)|(go_at_call 81;(with_reducible refine (spec_EndDoor.calls a0_0 a0_1 t130 _ A14.out).mono ?_);rintro e w21 ⟨rfl,hb⟩;have n0_:=m_ (blk_below (g:=gb127) (o:=.cells #[.int .i64 a0_0,.int .i64 a0_1] 43 (0,0)) (puB BK127.out) hb);have n1_:=m_ (l5_ (puM HB.out GE127.out) hb);revert n0_ n1_;clear BK127 HB;intro BK127 HB;(try clear hb);(try clear hb2);(try clear hk);(try clear hi)))
   go_ret
   exact ⟨eqs,puM HB.out GE127.out⟩

/-! ### spec_l6Dec: function 80 -/
def spec_l6Dec.f : Nat → Int → Option (ByteArray)
 | 0, _ => none
 | k + 1, a0 => if a0 < (-9223372036854775807) then (some (⟨#[45, 57, 50, 50, 51, 51, 55, 50, 48, 51, 54, 56, 53, 52, 55, 55, 53, 56, 48, 56]⟩ : ByteArray)) else (if a0 < 0 then ((spec_l6Dec.f k (wrap64 (-a0))).bind fun t131 => (if 1 + t131.size ≤ 9223372036854775807 then (some ((⟨#[45]⟩ : ByteArray) ++ t131)) else (none))) else (if a0 < 10 then (some (strOfNums (([(wrap64 (48 + a0)) % 256] : List Int)))) else ((spec_l6Dec.f k (wrap64 (Int.tdiv a0 10))).bind fun t135 => ((some (([(wrap64 (48 + (Int.tmod a0 10))) % 256] : List Int) : List Int)).bind fun y136 => (if t135.size + (strOfNums y136).size ≤ 9223372036854775807 then (some (t135 ++ (strOfNums y136))) else (none))))))
theorem spec_l6Dec.mono_l : ∀ k, (∀ y0, LeO (spec_l6Dec.f k y0) (spec_l6Dec.f (k + 1) y0))
 | 0 => fun _ r h => by simp [spec_l6Dec.f] at h
 | k + 1 => by
  have ih0:=spec_l6Dec.mono_l k
  ·intro y0
   unfold spec_l6Dec.f
   repeat' first
   | (with_reducible exact ih0 _)
   | (with_reducible exact LeO.refl _)
   | (with_reducible exact LeO.none _)
   | (with_reducible refine LeO.ite ?_ ?_)
   | (with_reducible refine LeO.bind ?_ (fun _ => ?_))
   | exact ih0 _
   | exact LeO.none _
   | refine LeO.ite ?_ ?_
   | refine LeO.bind ?_ (fun _ => ?_)
theorem spec_l6Dec.mono : ∀ a0 k, LeO (spec_l6Dec.f k a0) (spec_l6Dec.f (k + 1) a0) := by
 intro a0 k
 have ih0:=spec_l6Dec.mono_l k
 exact ih0 a0
def spec_l6Dec.T7 : Bool × List (List Nat × List Nat) := (true, [([], []), ([0], [0]), ([1], [1]), ([], []), ([3], [3]), ([4], [4]), ([5], [5]), ([6], [6]), ([7], [7]), ([2, 8], [2, 8]), ([9, 2, 0, 1, 2, 3, 4, 5, 6, 7, 8, 9], [9])])
def spec_l6Dec.B7 : List Nat := [0, 1, 3, 0, 8, 24, 56, 120, 248, 511, 1023]
theorem spec_l6Dec.tab7 : rtab .any (opsOf Tryd.f80 7) = spec_l6Dec.T7 := by kernel_rfl
theorem spec_l6Dec.bits7 : waitsOk spec_l6Dec.T7.2 spec_l6Dec.B7 = true := by kernel_rfl
theorem spec_l6Dec.calls (k : Nat) : ∀ (a0 : Int) (r : ByteArray) (w : World) (h : spec_l6Dec.f k a0 = some r),
  Calls Tryd.prog 80 #[.int .i64 a0] w fun e w'=>e = .returned (.string r) ∧ Below w.heap.size w w':=by
 induction k using Nat.strongRecOn with
 | _ k ih =>
 intro a0 r w h
 cases k with
 | zero => exact absurd h (by simp [spec_l6Dec.f])
 | succ k =>
 simp only [spec_l6Dec.f] at h
 have HB:=m_ (Below.refl w.heap.size w)
 have H : (if a0 < (-9223372036854775807) then (some (⟨#[45,57,50,50,51,51,55,50,48,51,54,56,53,52,55,55,53,56,48,56]⟩ : ByteArray)) else (if a0 < 0 then ((spec_l6Dec.f k (wrap64 (-a0))).bind fun t131=>(if 1 + t131.size ≤ 9223372036854775807 then (some ((⟨#[45]⟩ : ByteArray) ++ t131)) else (none))) else (if a0 < 10 then (some (strOfNums (([(wrap64 (48 + a0)) % 256] : List Int)))) else ((spec_l6Dec.f k (wrap64 (Int.tdiv a0 10))).bind fun t135=>((some (([(wrap64 (48 + (Int.tmod a0 10))) % 256] : List Int) : List Int)).bind fun y136=>(if t135.size + (strOfNums y136).size ≤ 9223372036854775807 then (some (t135 ++ (strOfNums y136))) else (none))))))) = some r:=h
 clear h
 by_cases c2 : a0 < (-9223372036854775807)
 ·rw [if_pos c2] at H
  have c2b0 : decide (a0 < (-9223372036854775807)) = true:=decide_eq_true c2
  clear c2
  obtain rfl:=Option.some.inj H
  go_enter Tryd.func80,Tryd.ntmps80
  go_wp2
  go_ret
  exact ⟨eqs,puL HB.out⟩
 ·rw [if_neg c2] at H
  have c2b0 : decide (a0 < (-9223372036854775807)) = false:=decide_eq_false c2
  clear c2
  by_cases c3 : a0 < 0
  ·rw [if_pos c3] at H
   have c3b0 : decide (a0 < 0) = true:=decide_eq_true c3
   clear c3
   replace H:=Option.bind_eq_some_iff.mp H
   obtain ⟨t131,A40,H⟩:=H
   replace H : (if 1 + t131.size ≤ 9223372036854775807 then (some ((⟨#[45]⟩ : ByteArray) ++ t131)) else (none)) = some r:=H
   have A4:=m_ A40
   clear A40
   by_cases c5 : 1 + t131.size ≤ 9223372036854775807
   ·rw [if_pos c5] at H
    have c5b0:=eq_true c5
    have c5b1:=decide_eq_true c5
    try have c5b2 : (9223372036854775807 < 1 + t131.size) = False:=eq_false (Nat.not_lt.2 c5)
    obtain rfl:=Option.some.inj H
    go_enter Tryd.func80,Tryd.ntmps80
    go_wp2_with (first|((with_reducible refine gate_callee (f:=80) rfl ?_);refine goesL_ (some 9) rfl rfl Tryd.func80 (by kernel_rfl) rfl #[.int .i64 (wrap64 (-a0))] rfl lens ?_;(with_reducible refine (ih k (by omega) (wrap64 (-a0)) t131 _ A4.out).mono ?_);rintro e w6 ⟨rfl,hb⟩;refine ⟨_,rfl,?_⟩;have n0_:=m_ (l5_ (puL HB.out) hb);revert n0_;clear HB;intro HB;(try clear hb);(try clear hb2);(try clear hk);(try clear hi)))
    go_ret
    exact ⟨eqs,puL HB.out⟩
   ·rw [if_neg c5] at H
    exact absurd H (by simp)
  ·rw [if_neg c3] at H
   have c3b0 : decide (a0 < 0) = false:=decide_eq_false c3
   clear c3
   by_cases c7 : a0 < 10
   ·rw [if_pos c7] at H
    have c7b0 : decide (a0 < 10) = true:=decide_eq_true c7
    clear c7
    obtain ⟨y132,hy132⟩ : ∃ y_ : List Int,y_ = (([(wrap64 (48 + a0)) % 256] : List Int)):=⟨_,rfl⟩
    replace H : (some (strOfNums y132)) = some r:=by first|(rw [hy132];with_reducible exact H)|(have H2_:=(Option.bind_some _ _).symm.trans H;rw [hy132];with_reducible exact H2_)|(have H2_:=(Option.bind_some _ _).symm.trans H;with_reducible exact H2_)|with_reducible exact H|(rw [hy132];exact H)|exact H
    have Ny132:=m_ hy132
    clear hy132
    obtain rfl:=Option.some.inj H
    go_enter Tryd.func80,Tryd.ntmps80
    go_wp2_with (first|((with_reducible refine gate_dst (N:=16) rfl ?_);refine Kd.R_lit (Kd.int .u8) _ 5 ?hg (N:=16) ?hd (xs:=([(wrap64 (48 + a0)) % 256] : List Int)) (inner:=[.int .u8 ((wrap64 (48 + a0)) % 256)]) (ok:=fun _=>True) (okp:=fun _=>True) ?hr ?hp (fun _ hk=>hk) trivial (Below.refl _ _) (Nat.le_refl _) (by simp) ?_;(case hd=>rfl);(case hg=>rfl);(case hr=>first|(go_simp;done)|(go_simp;rfl));(case hp=>exact (Reps.one (show Kd.M (Kd.int .u8) _ _ _ ((wrap64 (48 + a0)) % 256) [.int .u8 ((wrap64 (48 + a0)) % 256)] from rfl) (Reps.none _ _)));intro v133 w8 ho9 hb hg_ hnew_;clear hg_ hnew_;(first|rw [← Ny132.out] at ho9|(simp only [Int.reduceToNat] at ho9;rw [← Ny132.out] at ho9));have n0_:=m_ (Kd.R_lower ho9 (l6_ (puL HB.out)));have n1_:=m_ (l5_ (puL HB.out) hb);revert n0_ n1_;clear HB;intro HO134 HB;clear hb ho9;have hcv10:=own_string (P:=Tryd.prog) Tryd.underlying36 Tryd.underlying5 Tryd.underlying9 (Kd.own_of_R HO134.out)))
    go_ret
    exact ⟨eqs,puL HB.out⟩
   ·rw [if_neg c7] at H
    have c7b0 : decide (a0 < 10) = false:=decide_eq_false c7
    clear c7
    replace H:=Option.bind_eq_some_iff.mp H
    obtain ⟨t135,A110,H⟩:=H
    replace H : ((some (([(wrap64 (48 + (Int.tmod a0 10))) % 256] : List Int) : List Int)).bind fun y136=>(if t135.size + (strOfNums y136).size ≤ 9223372036854775807 then (some (t135 ++ (strOfNums y136))) else (none))) = some r:=H
    have A11:=m_ A110
    clear A110
    obtain ⟨y136,hy136⟩ : ∃ y_ : List Int,y_ = (([(wrap64 (48 + (Int.tmod a0 10))) % 256] : List Int)):=⟨_,rfl⟩
    replace H : (if t135.size + (strOfNums y136).size ≤ 9223372036854775807 then (some (t135 ++ (strOfNums y136))) else (none)) = some r:=by first|(rw [hy136];with_reducible exact H)|(have H2_:=(Option.bind_some _ _).symm.trans H;rw [hy136];with_reducible exact H2_)|(have H2_:=(Option.bind_some _ _).symm.trans H;with_reducible exact H2_)|with_reducible exact H|(rw [hy136];exact H)|exact H
    have Ny136:=m_ hy136
    clear hy136
    by_cases c12 : t135.size + (strOfNums y136).size ≤ 9223372036854775807
    rotate_left
    ·rw [if_neg c12] at H
     exact absurd H (by simp)
    rw [if_pos c12] at H
    have c12b0:=eq_true c12
    have c12b1:=decide_eq_true c12
    try have c12b2 : (9223372036854775807 < t135.size + (strOfNums y136).size) = False:=eq_false (Nat.not_lt.2 c12)
    obtain rfl:=Option.some.inj H
    go_enter Tryd.func80,Tryd.ntmps80
    try go_wp2
    have n0_:=m_ (l3_ HB.out)
    clear HB
    have HB:=n0_
    clear n0_
    refine start_ (n:=11) (S:=fun w'=>True) (ds:=[]) #[false,false,false,false,false,false,false,false,false,false,false] (by kernel_rfl) rfl rfl trivial (fun hHeld=>?_);refine with_tabW spec_l6Dec.tab7 spec_l6Dec.bits7 (fun HT_ HW_=>?_)
    generalize w.drew = w13 at HB hHeld ⊢
    refine pureA 0 (some 18) HT_.out ?_
    refine pureA 1 (some 19) HT_.out ?_
    refine pureA 3 (some 21) HT_.out ?_
    refine pureA 4 (some 22) HT_.out ?_
    refine pureA 5 (some 23) HT_.out ?_
    refine pureA 6 (some 24) HT_.out ?_
    refine join_ (σ:=Value) 2 #[true,true,true,true,true,true,true,true,true,false,false] (fun s_=>[(20,.string t135),(25,s_),(26,.string (strOfNums y136))]) (fun s_ w'=>(Kd.R (Kd.int .u8) 5 w' w.heap.size (fun _=>True) s_ y136) ∧ (Below w.heap.size w w')) ?_ ?_
    rotate_left
    ·intro hCont
     refine two_ (i:=2) (j:=7) (Ni:=some 20) (Nj:=some 25) #[true,true,true,true,true,true,true,false,false,false,false] #[true,true,false,true,true,true,true,true,false,false,false] rfl rfl rfl rfl (two_of HT_.out (by kernel_rfl)) (by decide) (by decide) (fun K hK=>?_) (fun K hK=>?_)
     ·skip
      refine goes_ Tryd.func80 (by kernel_rfl) rfl #[.int .i64 (wrap64 (Int.tdiv a0 10))] (by rfl) rfl rfl lens ?_
      with_reducible refine (ih k (by omega) (wrap64 (Int.tdiv a0 10)) t135 _ A11.out).mono ?_
      rintro e w14 ⟨rfl,hb⟩
      refine ⟨_,rfl,?_⟩
      have n0_:=m_ (l5_ (puL HB.out) hb)
      clear HB
      have HB:=n0_
      clear n0_
      (try clear hb)
      (try clear hb2)
      (try clear hk)
      (try clear hi)
      refine hK.out _ _ trivial (fun hHeld=>?_)
      clear hK K
      refine norm_ (a':=?_) ?_ ?_
      rotate_left
      ·show Act.put _ (some 20) _ = _
       simp only [Act.put,s1_,s2_,s3_,i64_w,i32_w]
       rfl
      refine one_ (i:=7) (N:=some 25) #[true,true,true,true,true,true,true,true,false,false,false] rfl rfl (one_of HT_.out (by kernel_rfl)) (by decide) (fun K hK=>?_)
      refine Kd.R_lit_step (Kd.int .u8) _ 5 ?hg (N:=25) ?hd (xs:=([(wrap64 (48 + (Int.tmod a0 10))) % 256] : List Int)) (inner:=[.int .u8 ((wrap64 (48 + (Int.tmod a0 10))) % 256)]) (ok:=fun _=>True) (okp:=fun _=>True) ?hr ?hp (fun _ hk=>hk) trivial (Below.refl _ _) (Nat.le_refl _) (by simp) ?_;(case hd=>rfl);(case hg=>rfl);(case hr=>first|(go_simp;done)|(go_simp;rfl));(case hp=>exact (Reps.one (show Kd.M (Kd.int .u8) _ _ _ ((wrap64 (48 + (Int.tmod a0 10))) % 256) [.int .u8 ((wrap64 (48 + (Int.tmod a0 10))) % 256)] from rfl) (Reps.none _ _)))
      intro v137 w15 ho16 hb hg_ hnew_
      clear hg_ hnew_
      (first|rw [← Ny136.out] at ho16|(simp only [Int.reduceToNat] at ho16;rw [← Ny136.out] at ho16))
      have n0_:=m_ (Kd.R_lower ho16 (l6_ (puL HB.out)))
      have n1_:=m_ (l5_ (puL HB.out) hb)
      clear HB
      have HO138:=n0_
      have HB:=n1_
      clear n0_ n1_
      clear hb ho16
      refine hK.out _ _ trivial (fun hHeld=>?_)
      clear hK K
      refine norm_ (a':=?_) ?_ ?_
      rotate_left
      ·show Act.put _ (some 25) _ = _
       simp only [Act.put,s1_,s2_,s3_,i64_w,i32_w]
       rfl
      refine one_ (i:=8) (N:=some 26) #[true,true,true,true,true,true,true,true,true,false,false] rfl rfl (one_of HT_.out (by kernel_rfl)) (by decide) (fun K hK=>?_)
      have hcv17:=own_string (P:=Tryd.prog) Tryd.underlying36 Tryd.underlying5 Tryd.underlying9 (Kd.own_of_R HO138.out)
      refine value_ (w1:=?_) (v:=?_) (by rfl) rfl ?_ ?_
      rotate_left 2
      ·go_simp
       constructor
       ·rfl
       ·rfl
      clear hcv17
      refine hK.out _ _ trivial (fun hHeld=>?_)
      clear hK K
      refine norm_ (a':=?_) ?_ ?_
      rotate_left
      ·show Act.put _ (some 26) _ = _
       simp only [Act.put,s1_,s2_,s3_,i64_w,i32_w]
       rfl
      exact norm_ (by simp only [putAll,Act.put,s1_,s2_,s3_]) (hCont (v137) _ ⟨(puR HO138.out),(puL HB.out)⟩)
     ·skip
      refine Kd.R_lit_step (Kd.int .u8) _ 5 ?hg (N:=25) ?hd (xs:=([(wrap64 (48 + (Int.tmod a0 10))) % 256] : List Int)) (inner:=[.int .u8 ((wrap64 (48 + (Int.tmod a0 10))) % 256)]) (ok:=fun _=>True) (okp:=fun _=>True) ?hr ?hp (fun _ hk=>hk) trivial (Below.refl _ _) (Nat.le_refl _) (by simp) ?_;(case hd=>rfl);(case hg=>rfl);(case hr=>first|(go_simp;done)|(go_simp;rfl));(case hp=>exact (Reps.one (show Kd.M (Kd.int .u8) _ _ _ ((wrap64 (48 + (Int.tmod a0 10))) % 256) [.int .u8 ((wrap64 (48 + (Int.tmod a0 10))) % 256)] from rfl) (Reps.none _ _)))
      intro v137 w14 ho15 hb hg_ hnew_
      clear hg_ hnew_
      (first|rw [← Ny136.out] at ho15|(simp only [Int.reduceToNat] at ho15;rw [← Ny136.out] at ho15))
      have n0_:=m_ (Kd.R_lower ho15 (l6_ (puL HB.out)))
      have n1_:=m_ (l5_ (puL HB.out) hb)
      clear HB
      have HO138:=n0_
      have HB:=n1_
      clear n0_ n1_
      clear hb ho15
      refine hK.out _ _ trivial (fun hHeld=>?_)
      clear hK K
      refine norm_ (a':=?_) ?_ ?_
      rotate_left
      ·show Act.put _ (some 25) _ = _
       simp only [Act.put,s1_,s2_,s3_,i64_w,i32_w]
       rfl
      refine two_ (i:=2) (j:=8) (Ni:=some 20) (Nj:=some 26) #[true,true,true,true,true,true,true,true,false,false,false] #[true,true,false,true,true,true,true,true,true,false,false] rfl rfl rfl rfl (two_of HT_.out (by kernel_rfl)) (by decide) (by decide) (fun K hK=>?_) (fun K hK=>?_)
      ·skip
       refine goes_ Tryd.func80 (by kernel_rfl) rfl #[.int .i64 (wrap64 (Int.tdiv a0 10))] (by rfl) rfl rfl lens ?_
       with_reducible refine (ih k (by omega) (wrap64 (Int.tdiv a0 10)) t135 _ A11.out).mono ?_
       rintro e w16 ⟨rfl,hb⟩
       refine ⟨_,rfl,?_⟩
       have n0_:=m_ (Kd.R_below (puR HO138.out) hb)
       have n1_:=m_ (l5_ (puL HB.out) hb)
       clear HO138
       clear HB
       have HO138:=n0_
       have HB:=n1_
       clear n0_ n1_
       (try clear hb)
       (try clear hb2)
       (try clear hk)
       (try clear hi)
       refine hK.out _ _ trivial (fun hHeld=>?_)
       clear hK K
       refine norm_ (a':=?_) ?_ ?_
       rotate_left
       ·show Act.put _ (some 20) _ = _
        simp only [Act.put,s1_,s2_,s3_,i64_w,i32_w]
        rfl
       refine one_ (i:=8) (N:=some 26) #[true,true,true,true,true,true,true,true,true,false,false] rfl rfl (one_of HT_.out (by kernel_rfl)) (by decide) (fun K hK=>?_)
       have hcv17:=own_string (P:=Tryd.prog) Tryd.underlying36 Tryd.underlying5 Tryd.underlying9 (Kd.own_of_R HO138.out)
       refine value_ (w1:=?_) (v:=?_) (by rfl) rfl ?_ ?_
       rotate_left 2
       ·go_simp
        constructor
        ·rfl
        ·rfl
       clear hcv17
       refine hK.out _ _ trivial (fun hHeld=>?_)
       clear hK K
       refine norm_ (a':=?_) ?_ ?_
       rotate_left
       ·show Act.put _ (some 26) _ = _
        simp only [Act.put,s1_,s2_,s3_,i64_w,i32_w]
        rfl
       exact norm_ (by simp only [putAll,Act.put,s1_,s2_,s3_]) (hCont (v137) _ ⟨(puR HO138.out),(puL HB.out)⟩)
      ·skip
       have hcv16:=own_string (P:=Tryd.prog) Tryd.underlying36 Tryd.underlying5 Tryd.underlying9 (Kd.own_of_R HO138.out)
       refine value_ (w1:=?_) (v:=?_) (by rfl) rfl ?_ ?_
       rotate_left 2
       ·go_simp
        constructor
        ·rfl
        ·rfl
       clear hcv16
       refine hK.out _ _ trivial (fun hHeld=>?_)
       clear hK K
       refine norm_ (a':=?_) ?_ ?_
       rotate_left
       ·show Act.put _ (some 26) _ = _
        simp only [Act.put,s1_,s2_,s3_,i64_w,i32_w]
        rfl
       refine one_ (i:=2) (N:=some 20) #[true,true,true,true,true,true,true,true,true,false,false] rfl rfl (one_of HT_.out (by kernel_rfl)) (by decide) (fun K hK=>?_)
       refine goes_ Tryd.func80 (by kernel_rfl) rfl #[.int .i64 (wrap64 (Int.tdiv a0 10))] (by rfl) rfl rfl lens ?_
       with_reducible refine (ih k (by omega) (wrap64 (Int.tdiv a0 10)) t135 _ A11.out).mono ?_
       rintro e w17 ⟨rfl,hb⟩
       refine ⟨_,rfl,?_⟩
       have n0_:=m_ (Kd.R_below (puR HO138.out) hb)
       have n1_:=m_ (l5_ (puL HB.out) hb)
       clear HO138
       clear HB
       have HO138:=n0_
       have HB:=n1_
       clear n0_ n1_
       (try clear hb)
       (try clear hb2)
       (try clear hk)
       (try clear hi)
       refine hK.out _ _ trivial (fun hHeld=>?_)
       clear hK K
       refine norm_ (a':=?_) ?_ ?_
       rotate_left
       ·show Act.put _ (some 20) _ = _
        simp only [Act.put,s1_,s2_,s3_,i64_w,i32_w]
        rfl
       exact norm_ (by simp only [putAll,Act.put,s1_,s2_,s3_]) (hCont (v137) _ ⟨(puR HO138.out),(puL HB.out)⟩)
    rintro v137 w18 ⟨h0_,h1_⟩
    have n0_ : Aside0 (Kd.R (Kd.int .u8) 5 w18 w.heap.size (fun _=>True) v137 y136):=⟨h0_⟩
    have n1_ : Aside0 (Below w.heap.size w w18):=⟨h1_⟩
    clear HB
    clear h0_ h1_
    have HO138:=n0_
    have HB:=n1_
    clear n0_ n1_
    have hHeld:=trivial
    refine norm_ (a':=?_) ?_ ?_
    rotate_left
    ·simp only [putAll,Act.put,s1_,s2_,s3_]
     rfl
    refine pureA 9 (some 27) HT_.out ?_
    refine pureA 10 (some 2) HT_.out ?_
    refine done_ (done_of HT_.out (by kernel_rfl)) ?_
    try go_wp2
    go_ret
    exact ⟨eqs,puL HB.out⟩

/-! ### spec_EndText: function 67 -/
def spec_EndText.f (k : Nat) (a0_0 : Int) (a0_1 : Int) : Option (ByteArray) := (spec_l1Any.f a0_0 a0_1).bind fun t140 => (if t140 = true then ((spec_l6Dec.f k a0_0).bind fun t141 => (if t141.size + 1 ≤ 9223372036854775807 then ((spec_l6Dec.f k a0_1).bind fun t142 => (if t141.size + 1 + t142.size ≤ 9223372036854775807 then (some ((t141 ++ (⟨#[58]⟩ : ByteArray)) ++ t142)) else (none))) else (none))) else (some (⟨#[]⟩ : ByteArray)))
theorem spec_EndText.mono : ∀ a0 a1 k, LeO (spec_EndText.f k a0 a1) (spec_EndText.f (k + 1) a0 a1) := by
 intro a0 a1 k
 unfold spec_EndText.f
 repeat' first
   | (with_reducible exact spec_l6Dec.mono _ _)
   | (with_reducible exact LeO.refl _)
   | (with_reducible exact LeO.none _)
   | (with_reducible refine LeO.ite ?_ ?_)
   | (with_reducible refine LeO.bind ?_ (fun _ => ?_))
   | exact spec_l6Dec.mono _ _
   | exact LeO.none _
   | refine LeO.ite ?_ ?_
   | refine LeO.bind ?_ (fun _ => ?_)
def spec_EndText.T3 : Bool × List (List Nat × List Nat) := (true, [([], []), ([0], [0]), ([1], [1]), ([2], [2]), ([], []), ([4], [4]), ([5, 2], [5]), ([3, 6], [3, 6]), ([7, 6, 0, 1, 2, 3, 4, 5, 6, 7], [7])])
def spec_EndText.B3 : List Nat := [0, 1, 3, 7, 0, 16, 55, 127, 255]
theorem spec_EndText.tab3 : rtab .any (opsOf Tryd.f67 3) = spec_EndText.T3 := by kernel_rfl
theorem spec_EndText.bits3 : waitsOk spec_EndText.T3.2 spec_EndText.B3 = true := by kernel_rfl
theorem spec_EndText.calls (k : Nat) (a0_0 : Int) (a0_1 : Int) (r : ByteArray) (w : World) (h : spec_EndText.f k a0_0 a0_1 = some r) :
  Calls Tryd.prog 67 #[.agg #[.int .i64 a0_0,.int .i64 a0_1]] w fun e w'=>e = .returned (.string r) ∧ Below w.heap.size w w':=by
 have hu43:=Tryd.underlying43
 have HB:=m_ (Below.refl w.heap.size w)
 have H : ((spec_l1Any.f a0_0 a0_1).bind fun t140=>(if t140 = true then ((spec_l6Dec.f k a0_0).bind fun t141=>(if t141.size + 1 ≤ 9223372036854775807 then ((spec_l6Dec.f k a0_1).bind fun t142=>(if t141.size + 1 + t142.size ≤ 9223372036854775807 then (some ((t141 ++ (⟨#[58]⟩ : ByteArray)) ++ t142)) else (none))) else (none))) else (some (⟨#[]⟩ : ByteArray)))) = some r:=h
 clear h
 replace H:=Option.bind_eq_some_iff.mp H
 obtain ⟨t140,A20,H⟩:=H
 replace H : (if t140 = true then ((spec_l6Dec.f k a0_0).bind fun t141=>(if t141.size + 1 ≤ 9223372036854775807 then ((spec_l6Dec.f k a0_1).bind fun t142=>(if t141.size + 1 + t142.size ≤ 9223372036854775807 then (some ((t141 ++ (⟨#[58]⟩ : ByteArray)) ++ t142)) else (none))) else (none))) else (some (⟨#[]⟩ : ByteArray))) = some r:=H
 have A2:=m_ A20
 clear A20
 by_cases c3 : t140 = true
 ·subst c3
  have H1 : ((spec_l6Dec.f k a0_0).bind fun t141=>(if t141.size + 1 ≤ 9223372036854775807 then ((spec_l6Dec.f k a0_1).bind fun t142=>(if t141.size + 1 + t142.size ≤ 9223372036854775807 then (some ((t141 ++ (⟨#[58]⟩ : ByteArray)) ++ t142)) else (none))) else (none))) = some r:=by rw [if_pos rfl] at H;exact H
  clear H
  have H:=H1
  clear H1
  replace H:=Option.bind_eq_some_iff.mp H
  obtain ⟨t141,A40,H⟩:=H
  replace H : (if t141.size + 1 ≤ 9223372036854775807 then ((spec_l6Dec.f k a0_1).bind fun t142=>(if t141.size + 1 + t142.size ≤ 9223372036854775807 then (some ((t141 ++ (⟨#[58]⟩ : ByteArray)) ++ t142)) else (none))) else (none)) = some r:=H
  have A4:=m_ A40
  clear A40
  by_cases c5 : t141.size + 1 ≤ 9223372036854775807
  rotate_left
  ·rw [if_neg c5] at H
   exact absurd H (by simp)
  rw [if_pos c5] at H
  have c5b0:=eq_true c5
  have c5b1:=decide_eq_true c5
  try have c5b2 : (9223372036854775807 < t141.size + 1) = False:=eq_false (Nat.not_lt.2 c5)
  replace H:=Option.bind_eq_some_iff.mp H
  obtain ⟨t142,A60,H⟩:=H
  replace H : (if t141.size + 1 + t142.size ≤ 9223372036854775807 then (some ((t141 ++ (⟨#[58]⟩ : ByteArray)) ++ t142)) else (none)) = some r:=H
  have A6:=m_ A60
  clear A60
  by_cases c7 : t141.size + 1 + t142.size ≤ 9223372036854775807
  rotate_left
  ·rw [if_neg c7] at H
   exact absurd H (by simp)
  rw [if_pos c7] at H
  have c7b0:=eq_true c7
  have c7b1:=decide_eq_true c7
  try have c7b2 : (9223372036854775807 < t141.size + 1 + t142.size) = False:=eq_false (Nat.not_lt.2 c7)
  obtain rfl:=Option.some.inj H
  go_enter Tryd.func67,Tryd.ntmps67
  try go_wp2_with (first|((with_reducible refine gate_dst (N:=1) rfl ?_);refine box_event ?hg (N:=1) ?hd (cs:=#[.int .i64 a0_0,.int .i64 a0_1]) (t:=43) ?hr ?_;(case hd=>rfl);(case hg=>rfl);(case hr=>first|(go_simp;done)|(go_simp;rfl));intro gb139 hg w8 hbox hb;have n0_:=m_ (l5_ (puL HB.out) hb);have n1_:=m_ (hbox);have n2_:=m_ ((by rw [hg];exact (l6_ (puL HB.out)) : w.heap.size ≤ gb139));have n3_:=m_ ((by rw [hg];exact (l6_ (puL HB.out)) : w.heap.size ≤ gb139));revert n0_ n1_ n2_ n3_;clear HB;intro HB BK139 GW139 GE139;clear hb hbox hg;have hcz9_0 : w8.cell? ⟨gb139,0,none⟩ = some (.int .i64 a0_0):=(c_ BK139.out 0).trans rfl;have hcz9_1 : w8.cell? ⟨gb139,1,none⟩ = some (.int .i64 a0_1):=(c_ BK139.out 1).trans rfl)|((with_reducible refine gate_callee (f:=79) rfl ?_);refine goesL_ (some 4) rfl rfl Tryd.func79 (by kernel_rfl) rfl #[.agg #[.int .i64 a0_0,.int .i64 a0_1]] rfl lens ?_;(with_reducible refine (spec_l1Any.calls a0_0 a0_1 true _ A2.out).mono ?_);rintro e w10 ⟨rfl,hb⟩;refine ⟨_,rfl,?_⟩;have n0_:=m_ (blk_below (g:=gb139) (o:=.cells #[.int .i64 a0_0,.int .i64 a0_1] 43 (0,0)) (puB BK139.out) hb);have n1_:=m_ (l5_ (puM HB.out GE139.out) hb);revert n0_ n1_;clear BK139 HB;intro BK139 HB;(try clear hb);(try clear hb2);(try clear hk);(try clear hi)))
  have n0_:=m_ (b2_ BK139.out)
  have n1_:=m_ (l3_ HB.out)
  clear BK139
  clear HB
  have BK139:=n0_
  have HB:=n1_
  clear n0_ n1_
  refine start_ (n:=9) (S:=fun w'=>w'.cell? ⟨gb139,0,none⟩ = some (.int .i64 a0_0) ∧ w'.cell? ⟨gb139,1,none⟩ = some (.int .i64 a0_1)) (ds:=[]) #[false,false,false,false,false,false,false,false,false] (by kernel_rfl) rfl rfl ⟨(c_ BK139.out 0).trans rfl,(c_ BK139.out 1).trans rfl⟩ (fun hHeld=>?_);refine with_tabW spec_EndText.tab3 spec_EndText.bits3 (fun HT_ HW_=>?_)
  generalize w10.drew = w11 at BK139 HB hHeld ⊢
  refine pureA 0 (some 6) HT_.out ?_
  refine pureA 4 (some 10) HT_.out ?_
  refine takeA 1 (some 7) rfl rfl HT_.out HW_.out hHeld ?_ (by rintro w' ⟨s0,s1⟩;go_simp;with_reducible rfl)
  refine takeA 5 (some 11) rfl rfl HT_.out HW_.out hHeld ?_ (by rintro w' ⟨s0,s1⟩;go_simp;with_reducible rfl)
  refine one_ (i:=2) (N:=some 8) #[true,true,true,false,true,true,false,false,false] rfl rfl (one_of HT_.out (by kernel_rfl)) (by decide) (fun K hK=>?_)
  refine goes_ Tryd.func80 (by kernel_rfl) rfl #[.int .i64 a0_0] (by rfl) rfl rfl lens ?_
  with_reducible refine (spec_l6Dec.calls k a0_0 t141 _ A4.out).mono ?_
  rintro e w12 ⟨rfl,hb⟩
  refine ⟨_,rfl,?_⟩
  have n0_:=m_ (blk_below (g:=gb139) (o:=.cells #[.int .i64 a0_0,.int .i64 a0_1] 43 (0,0)) (puB BK139.out) hb)
  have n1_:=m_ (l5_ (puM HB.out GE139.out) hb)
  clear BK139
  clear HB
  have BK139:=n0_
  have HB:=n1_
  clear n0_ n1_
  (try clear hb)
  (try clear hb2)
  (try clear hk)
  (try clear hi)
  refine hK.out _ _ ⟨(c_ BK139.out 0).trans rfl,(c_ BK139.out 1).trans rfl⟩ (fun hHeld=>?_)
  clear hK K
  refine norm_ (a':=?_) ?_ ?_
  rotate_left
  ·show Act.put _ (some 8) _ = _
   simp only [Act.put,s1_,s2_,s3_,i64_w,i32_w]
   rfl
  refine pureA 3 (some 9) HT_.out ?_
  refine one_ (i:=6) (N:=some 12) #[true,true,true,true,true,true,true,false,false] rfl rfl (one_of HT_.out (by kernel_rfl)) (by decide) (fun K hK=>?_)
  refine goes_ Tryd.func80 (by kernel_rfl) rfl #[.int .i64 a0_1] (by rfl) rfl rfl lens ?_
  with_reducible refine (spec_l6Dec.calls k a0_1 t142 _ A6.out).mono ?_
  rintro e w13 ⟨rfl,hb⟩
  refine ⟨_,rfl,?_⟩
  have n0_:=m_ (blk_below (g:=gb139) (o:=.cells #[.int .i64 a0_0,.int .i64 a0_1] 43 (0,0)) (puB BK139.out) hb)
  have n1_:=m_ (l5_ (puM HB.out GE139.out) hb)
  clear BK139
  clear HB
  have BK139:=n0_
  have HB:=n1_
  clear n0_ n1_
  (try clear hb)
  (try clear hb2)
  (try clear hk)
  (try clear hi)
  refine hK.out _ _ ⟨(c_ BK139.out 0).trans rfl,(c_ BK139.out 1).trans rfl⟩ (fun hHeld=>?_)
  clear hK K
  refine norm_ (a':=?_) ?_ ?_
  rotate_left
  ·show Act.put _ (some 12) _ = _
   simp only [Act.put,s1_,s2_,s3_,i64_w,i32_w]
   rfl
  refine pureA 7 (some 13) HT_.out ?_
  refine pureA 8 (some 2) HT_.out ?_
  refine done_ (done_of HT_.out (by kernel_rfl)) ?_
  try go_wp2
  go_ret
  exact ⟨eqs,puM HB.out GE139.out⟩
 ·replace c3:=Bool.eq_false_iff.mpr c3
  subst c3
  have H1 : (some (⟨#[]⟩ : ByteArray)) = some r:=by rw [if_neg (show ¬ (false = true) by decide)] at H;exact H
  clear H
  have H:=H1
  clear H1
  obtain rfl:=Option.some.inj H
  go_enter Tryd.func67,Tryd.ntmps67
  go_wp2_with (first|((with_reducible refine gate_dst (N:=1) rfl ?_);refine box_event ?hg (N:=1) ?hd (cs:=#[.int .i64 a0_0,.int .i64 a0_1]) (t:=43) ?hr ?_;(case hd=>rfl);(case hg=>rfl);(case hr=>first|(go_simp;done)|(go_simp;rfl));intro gb139 hg w14 hbox hb;have n0_:=m_ (l5_ (puL HB.out) hb);have n1_:=m_ (hbox);have n2_:=m_ ((by rw [hg];exact (l6_ (puL HB.out)) : w.heap.size ≤ gb139));have n3_:=m_ ((by rw [hg];exact (l6_ (puL HB.out)) : w.heap.size ≤ gb139));revert n0_ n1_ n2_ n3_;clear HB;intro HB BK139 GW139 GE139;clear hb hbox hg;have hcz15_0 : w14.cell? ⟨gb139,0,none⟩ = some (.int .i64 a0_0):=(c_ BK139.out 0).trans rfl;have hcz15_1 : w14.cell? ⟨gb139,1,none⟩ = some (.int .i64 a0_1):=(c_ BK139.out 1).trans rfl)|((with_reducible refine gate_callee (f:=79) rfl ?_);refine goesL_ (some 4) rfl rfl Tryd.func79 (by kernel_rfl) rfl #[.agg #[.int .i64 a0_0,.int .i64 a0_1]] rfl lens ?_;(with_reducible refine (spec_l1Any.calls a0_0 a0_1 false _ A2.out).mono ?_);rintro e w16 ⟨rfl,hb⟩;refine ⟨_,rfl,?_⟩;have n0_:=m_ (blk_below (g:=gb139) (o:=.cells #[.int .i64 a0_0,.int .i64 a0_1] 43 (0,0)) (puB BK139.out) hb);have n1_:=m_ (l5_ (puM HB.out GE139.out) hb);revert n0_ n1_;clear BK139 HB;intro BK139 HB;(try clear hb);(try clear hb2);(try clear hk);(try clear hi)))
  go_ret
  exact ⟨eqs,puM HB.out GE139.out⟩

end Go.Proofs.YtkcjmmhleepjeaaDoor.A
