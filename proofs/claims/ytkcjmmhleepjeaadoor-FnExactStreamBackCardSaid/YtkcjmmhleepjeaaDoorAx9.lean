-- Printed by myprint.py (wip/tools) out of the translation. Not trusted: Lean checks it.
import Derived.Test.YtkcjmmhleepjeaaDoorAx0
namespace Go.Proofs.YtkcjmmhleepjeaaDoor.A
open Go.RowKit Go.Proofs.YtkcjmmhleepjeaaDoorW.PrintWords Go.Proofs.YtkcjmmhleepjeaaDoorW.PrintLast Go.Proofs.YtkcjmmhleepjeaaDoorW.PrintMore
attribute [local go_sem] max2_int min2_int max_two min_two max_three min_three max_four min_four   -- for this text's walks alone
set_option linter.unusedVariables false
set_option linter.unusedSimpArgs false

/-! ### laws_szPart: function 40 -/
def laws_szPart.f (a0_0 : Int) (a0_1 : ByteArray) (a1 : Int) : Option (Int) := if (wrap64 (a1 - (a0_1.size : Int))) < 0 then (some (-1)) else (some (wrap64 (a1 - (a0_1.size : Int))))
set_option maxHeartbeats 8000000 in
set_option maxRecDepth 100000 in
theorem laws_szPart.calls (a0_0 : Int) (a0_1 : ByteArray) (a1 : Int) (r : Int) (w : World) (h : laws_szPart.f a0_0 a0_1 a1 = some r) :
  Calls Tryd.prog 40 #[.agg #[.int .i64 a0_0,.string a0_1],.int .i64 a1] w fun e w'=>e = .returned (.int .i64 r) ∧ Below w.heap.size w w':=by
 have hu62:=Tryd.underlying62
 have HB:=m_ (Below.refl w.heap.size w)
 have H : (if (wrap64 (a1 - (a0_1.size : Int))) < 0 then (some (-1)) else (some (wrap64 (a1 - (a0_1.size : Int))))) = some r:=h
 clear h
 by_cases c3 : (wrap64 (a1 - (a0_1.size : Int))) < 0
 ·rw [if_pos c3] at H
  have c3b0 : decide ((wrap64 (a1 - (a0_1.size : Int))) < 0) = true:=decide_eq_true c3
  clear c3
  obtain rfl:=Option.some.inj H
  go_enter Tryd.func40,Tryd.ntmps40
  go_wp2_with (first|((with_reducible refine gate_dst (N:=2) rfl ?_);refine box_event ?hg (N:=2) ?hd (cs:=#[.int .i64 a0_0,.string a0_1]) (t:=62) ?hr ?_;(case hd=>rfl);(case hg=>rfl);(case hr=>first|(go_simp;done)|(go_simp;rfl));intro gb101 hg w4 hbox hb;have n0_:=m_ (l5_ (by repeat (first|(with_reducible first|exact HB.out|apply l1_|apply l2_|apply l3_)|exact HB.out)) hb);have n1_:=m_ (hbox);have n2_:=m_ ((by rw [hg];exact (l6_ (by repeat (first|(with_reducible first|exact HB.out|apply l1_|apply l2_|apply l3_)|exact HB.out))) : w.heap.size ≤ gb101));have n3_:=n2_;clear HB;have HB:=n0_;have BK101:=n1_;have GW101:=n2_;have GE101:=n3_;clear n0_ n1_ n2_ n3_;clear hb hbox hg;have hcz5_0 : w4.cell? ⟨gb101,0,none⟩ = some (.int .i64 a0_0):=(c_ BK101.out 0).trans rfl;have hcz5_1 : w4.cell? ⟨gb101,1,none⟩ = some (.string a0_1):=(c_ BK101.out 1).trans rfl))
  go_ret
  exact ⟨by first|rfl|(simp [e1_,e2_] <;> rfl)|(simp [*,e1_,e2_] <;> rfl)|(simp [e1_,e2_,pk_empty1,pk_empty2];done)|(simp [*,e1_,e2_,pk_empty1,pk_empty2];done),by repeat (first|(with_reducible first|exact HB.out|apply l1_|apply l2_|apply l3_|refine l4_ ?_ GE101.out)|exact HB.out)⟩
 ·rw [if_neg c3] at H
  have c3b0 : decide ((wrap64 (a1 - (a0_1.size : Int))) < 0) = false:=decide_eq_false c3
  clear c3
  obtain rfl:=Option.some.inj H
  go_enter Tryd.func40,Tryd.ntmps40
  go_wp2_with (first|((with_reducible refine gate_dst (N:=2) rfl ?_);refine box_event ?hg (N:=2) ?hd (cs:=#[.int .i64 a0_0,.string a0_1]) (t:=62) ?hr ?_;(case hd=>rfl);(case hg=>rfl);(case hr=>first|(go_simp;done)|(go_simp;rfl));intro gb101 hg w6 hbox hb;have n0_:=m_ (l5_ (by repeat (first|(with_reducible first|exact HB.out|apply l1_|apply l2_|apply l3_)|exact HB.out)) hb);have n1_:=m_ (hbox);have n2_:=m_ ((by rw [hg];exact (l6_ (by repeat (first|(with_reducible first|exact HB.out|apply l1_|apply l2_|apply l3_)|exact HB.out))) : w.heap.size ≤ gb101));have n3_:=n2_;clear HB;have HB:=n0_;have BK101:=n1_;have GW101:=n2_;have GE101:=n3_;clear n0_ n1_ n2_ n3_;clear hb hbox hg;have hcz7_0 : w6.cell? ⟨gb101,0,none⟩ = some (.int .i64 a0_0):=(c_ BK101.out 0).trans rfl;have hcz7_1 : w6.cell? ⟨gb101,1,none⟩ = some (.string a0_1):=(c_ BK101.out 1).trans rfl))
  go_ret
  exact ⟨by first|rfl|(simp [e1_,e2_] <;> rfl)|(simp [*,e1_,e2_] <;> rfl)|(simp [e1_,e2_,pk_empty1,pk_empty2];done)|(simp [*,e1_,e2_,pk_empty1,pk_empty2];done),by repeat (first|(with_reducible first|exact HB.out|apply l1_|apply l2_|apply l3_|refine l4_ ?_ GE101.out)|exact HB.out)⟩

/-! ### laws_szPartS: function 21 -/
def laws_szPartS.l0 : Nat → List (S62) → Int → Int → Option (Int)
 | 0, _, _, _ => none
 | k + 1, x0, x1, x5 => if x5 < (x0.length : Int) then (if 0 ≤ x5 then ((laws_szPart.f ((rd_T62 x0 x5).f0) ((rd_T62 x0 x5).f1) x1).bind fun t103 => (if t103 < 0 then (some (-1)) else (laws_szPartS.l0 k x0 t103 (wrap64 (x5 + 1))))) else (none)) else (some x1)
def laws_szPartS.f (k : Nat) (l0 : List (S62)) (a1 : Int) : Option (Int) := if (wrap64 (a1 - (l0.length : Int))) < 0 then (some (-1)) else (laws_szPartS.l0 k l0 (wrap64 (a1 - (l0.length : Int))) 0)
theorem laws_szPartS.mono_l : ∀ k, (∀ y0 y1 y2, LeO (laws_szPartS.l0 k y0 y1 y2) (laws_szPartS.l0 (k + 1) y0 y1 y2))
 | 0 => fun _ _ _ r h => by simp [laws_szPartS.l0] at h
 | k + 1 => by
  have ih0:=laws_szPartS.mono_l k
  ·intro y0 y1 y2
   unfold laws_szPartS.l0
   repeat' first
   | (with_reducible exact ih0 _ _ _)
   | (with_reducible exact LeO.refl _)
   | (with_reducible exact LeO.none _)
   | (with_reducible refine LeO.ite ?_ ?_)
   | (with_reducible refine LeO.bind ?_ (fun _ => ?_))
   | exact ih0 _ _ _
   | exact LeO.none _
   | refine LeO.ite ?_ ?_
   | refine LeO.bind ?_ (fun _ => ?_)
theorem laws_szPartS.mono : ∀ a0 a1 k, LeO (laws_szPartS.f k a0 a1) (laws_szPartS.f (k + 1) a0 a1) := by
 intro a0 a1 k
 have ih0:=laws_szPartS.mono_l k
 unfold laws_szPartS.f
 repeat' first
   | (with_reducible exact ih0 _ _ _)
   | (with_reducible exact LeO.refl _)
   | (with_reducible exact LeO.none _)
   | (with_reducible refine LeO.ite ?_ ?_)
   | (with_reducible refine LeO.bind ?_ (fun _ => ?_))
   | exact ih0 _ _ _
   | exact LeO.none _
   | refine LeO.ite ?_ ?_
   | refine LeO.bind ?_ (fun _ => ?_)
set_option maxHeartbeats 8000000 in
set_option maxRecDepth 100000 in
theorem laws_szPartS.calls (k : Nat) (A0 : Option Addr) (c0 : Nat) (l0 : List (S62)) (a1 : Int) (r : Int) (w : World) (hr0 : Kd.C k62 w A0 l0.length l0) (hc0 : l0.length ≤ c0) (h : laws_szPartS.f k l0 a1 = some r) :
  Calls Tryd.prog 21 #[.slice A0 l0.length c0,.int .i64 a1] w fun e w'=>e = .returned (.int .i64 r) ∧ Below w.heap.size w w':=by
 have hu62:=Tryd.underlying62
 have HR0:=m_ hr0
 have HC0:=m_ hc0
 clear hr0 hc0
 have HB:=m_ (Below.refl w.heap.size w)
 have H : (if (wrap64 (a1 - (l0.length : Int))) < 0 then (some (-1)) else (laws_szPartS.l0 k l0 (wrap64 (a1 - (l0.length : Int))) 0)) = some r:=h
 clear h
 by_cases c3 : (wrap64 (a1 - (l0.length : Int))) < 0
 ·rw [if_pos c3] at H
  have c3b0 : decide ((wrap64 (a1 - (l0.length : Int))) < 0) = true:=decide_eq_true c3
  clear c3
  obtain rfl:=Option.some.inj H
  go_enter Tryd.func21,Tryd.ntmps21
  go_wp2
  go_ret
  exact ⟨by first|rfl|(simp [e1_,e2_] <;> rfl)|(simp [*,e1_,e2_] <;> rfl)|(simp [e1_,e2_,pk_empty1,pk_empty2];done)|(simp [*,e1_,e2_,pk_empty1,pk_empty2];done),by repeat (first|(with_reducible first|exact HB.out|apply l1_|apply l2_|apply l3_)|exact HB.out)⟩
 ·rw [if_neg c3] at H
  have c3b0 : decide ((wrap64 (a1 - (l0.length : Int))) < 0) = false:=decide_eq_false c3
  clear c3
  have H':=m_ H
  clear H
  go_enter Tryd.func21,Tryd.ntmps21
  go_wp2
  go_loopg [1,5] k (fun kq v1 v5 w'=>∃ (x1_1 : Int) (x5_1 : Int),v1 = .int .i64 x1_1 ∧ v5 = .int .i64 x5_1 ∧ Aside0 (laws_szPartS.l0 kq l0 x1_1 x5_1 = some r) ∧ Aside0 (kq ≤ k) ∧ Aside0 (Below w.heap.size w w'))
  case atStart=>exact ⟨(wrap64 (a1 - (l0.length : Int))),(0),(by first|rfl|(simp;done)|(simp [*];done)),(by first|rfl|(simp;done)|(simp [*];done)),H',⟨Nat.le_refl _⟩,⟨by repeat (first|(with_reducible first|exact HB.out|apply l1_|apply l2_|apply l3_)|exact HB.out)⟩⟩
  case round =>
   clear H'
   try clear c2
   try clear p2
   try clear c3
   try clear c3b0
   obtain ⟨x1_1,x5_1,rfl,rfl,HA,HK1,HB⟩:=hrel
   cases gk with
   | zero => exact absurd HA.out (by simp [laws_szPartS.l0])
   | succ k1 =>
    have H:=HA.out
    clear HA
    simp only [laws_szPartS.l0] at H
    by_cases c4 : x5_1 < (l0.length : Int)
    ·rw [if_pos c4] at H
     have c4b0 : decide (x5_1 < (l0.length : Int)) = true:=decide_eq_true c4
     clear c4
     by_cases c5 : 0 ≤ x5_1
     ·rw [if_pos c5] at H
      have c5b0 : decide (0 ≤ x5_1) = true:=decide_eq_true c5
      clear c5
      replace H:=Option.bind_eq_some_iff.mp H
      obtain ⟨t103,A60,H⟩:=H
      replace H : (if t103 < 0 then (some (-1)) else (laws_szPartS.l0 k1 l0 t103 (wrap64 (x5_1 + 1)))) = some r:=H
      have A6:=m_ A60
      clear A60
      by_cases c7 : t103 < 0
      ·rw [if_pos c7] at H
       have c7b0 : decide (t103 < 0) = true:=decide_eq_true c7
       clear c7
       obtain rfl:=Option.some.inj H
       have p102 : 0 ≤ (x5_1 : Int):=of_decide_eq_true (by first|(with_reducible assumption)|assumption)
       have q102 : x5_1 < (l0.length : Int):=of_decide_eq_true (by first|(with_reducible assumption)|assumption)
       obtain ⟨ad102,e102,hx102_0,hx102_1⟩:=at_T62 HR0.out x5_1 p102 q102
       cases e102
       replace hx102_0:=(HB.out.cell (World.block_lt_of_cell? w _ hx102_0)).trans hx102_0
       replace hx102_1:=(HB.out.cell (World.block_lt_of_cell? w _ hx102_1)).trans hx102_1
       replace p102:=eq_true p102
       replace q102:=eq_true q102
       go_wp2_with (first|((with_reducible refine gate_callee (f:=40) rfl ?_);refine goesL_ (some 23) rfl rfl Tryd.func40 (by kernel_rfl) rfl #[.agg #[.int .i64 ((rd_T62 l0 x5_1).f0),.string ((rd_T62 l0 x5_1).f1)],.int .i64 x1_1] rfl (by (try simp only [List.map_toArray,List.map_cons,List.map_nil]);first|done|rfl|(simp only [List.length_drop,List.length_take];rfl)) ?_;(with_reducible refine (laws_szPart.calls ((rd_T62 l0 x5_1).f0) ((rd_T62 l0 x5_1).f1) x1_1 t103 _ A6.out).mono ?_);rintro e w8 ⟨rfl,hb⟩;refine ⟨_,rfl,?_⟩;have n0_:=m_ (l5_ (by repeat (first|(with_reducible first|exact HB.out|apply l1_|apply l2_|apply l3_)|exact HB.out)) hb);clear HB;have HB:=n0_;clear n0_;(try clear hb);(try clear hb2);(try clear hk);(try clear hi)))
       go_ret
       exact ⟨by first|rfl|(simp [e1_,e2_] <;> rfl)|(simp [*,e1_,e2_] <;> rfl)|(simp [e1_,e2_,pk_empty1,pk_empty2];done)|(simp [*,e1_,e2_,pk_empty1,pk_empty2];done),by repeat (first|(with_reducible first|exact HB.out|apply l1_|apply l2_|apply l3_)|exact HB.out)⟩
      ·rw [if_neg c7] at H
       have c7b0 : decide (t103 < 0) = false:=decide_eq_false c7
       clear c7
       have H':=m_ H
       clear H
       have p102 : 0 ≤ (x5_1 : Int):=of_decide_eq_true (by first|(with_reducible assumption)|assumption)
       have q102 : x5_1 < (l0.length : Int):=of_decide_eq_true (by first|(with_reducible assumption)|assumption)
       obtain ⟨ad102,e102,hx102_0,hx102_1⟩:=at_T62 HR0.out x5_1 p102 q102
       cases e102
       replace hx102_0:=(HB.out.cell (World.block_lt_of_cell? w _ hx102_0)).trans hx102_0
       replace hx102_1:=(HB.out.cell (World.block_lt_of_cell? w _ hx102_1)).trans hx102_1
       replace p102:=eq_true p102
       replace q102:=eq_true q102
       go_wp2_with (first|((with_reducible refine gate_callee (f:=40) rfl ?_);refine goesL_ (some 23) rfl rfl Tryd.func40 (by kernel_rfl) rfl #[.agg #[.int .i64 ((rd_T62 l0 x5_1).f0),.string ((rd_T62 l0 x5_1).f1)],.int .i64 x1_1] rfl (by (try simp only [List.map_toArray,List.map_cons,List.map_nil]);first|done|rfl|(simp only [List.length_drop,List.length_take];rfl)) ?_;(with_reducible refine (laws_szPart.calls ((rd_T62 l0 x5_1).f0) ((rd_T62 l0 x5_1).f1) x1_1 t103 _ A6.out).mono ?_);rintro e w9 ⟨rfl,hb⟩;refine ⟨_,rfl,?_⟩;have n0_:=m_ (l5_ (by repeat (first|(with_reducible first|exact HB.out|apply l1_|apply l2_|apply l3_)|exact HB.out)) hb);clear HB;have HB:=n0_;clear n0_;(try clear hb);(try clear hb2);(try clear hk);(try clear hi)))
       go_roundg k1
       case measure=>have:=HK1.out;omega
       case rel=>exact ⟨(t103),(wrap64 (x5_1 + 1)),(by first|rfl|(simp;done)|(simp [*];done)),(by first|rfl|(simp;done)|(simp [*];done)),H',⟨by have:=HK1.out;omega⟩,⟨by repeat (first|(with_reducible first|exact HB.out|apply l1_|apply l2_|apply l3_)|exact HB.out)⟩⟩
     ·rw [if_neg c5] at H
      exact absurd H (by simp)
    ·rw [if_neg c4] at H
     have c4b0 : decide (x5_1 < (l0.length : Int)) = false:=decide_eq_false c4
     clear c4
     obtain rfl:=Option.some.inj H
     go_wp2
     go_ret
     exact ⟨by first|rfl|(simp [e1_,e2_] <;> rfl)|(simp [*,e1_,e2_] <;> rfl)|(simp [e1_,e2_,pk_empty1,pk_empty2];done)|(simp [*,e1_,e2_,pk_empty1,pk_empty2];done),by repeat (first|(with_reducible first|exact HB.out|apply l1_|apply l2_|apply l3_)|exact HB.out)⟩

/-! ### laws_szStream: function 8 -/
def laws_szStream.f (k : Nat) (a0_0 : ByteArray) (l0_1 : List (S62)) (a1 : Int) : Option (Int) := if (wrap64 (a1 - (a0_0.size : Int))) < 0 then (some (-1)) else ((laws_szPartS.f k l0_1 (wrap64 (a1 - (a0_0.size : Int)))).bind fun t105 => (if t105 < 0 then (some (-1)) else (some t105)))
theorem laws_szStream.mono : ∀ a0 a1 a2 k, LeO (laws_szStream.f k a0 a1 a2) (laws_szStream.f (k + 1) a0 a1 a2) := by
 intro a0 a1 a2 k
 unfold laws_szStream.f
 repeat' first
   | (with_reducible exact laws_szPartS.mono _ _ _)
   | (with_reducible exact LeO.refl _)
   | (with_reducible exact LeO.none _)
   | (with_reducible refine LeO.ite ?_ ?_)
   | (with_reducible refine LeO.bind ?_ (fun _ => ?_))
   | exact laws_szPartS.mono _ _ _
   | exact LeO.none _
   | refine LeO.ite ?_ ?_
   | refine LeO.bind ?_ (fun _ => ?_)
set_option maxHeartbeats 8000000 in
set_option maxRecDepth 100000 in
theorem laws_szStream.calls (k : Nat) (a0_0 : ByteArray) (A0_1 : Option Addr) (c0_1 : Nat) (l0_1 : List (S62)) (a1 : Int) (r : Int) (w : World) (hr0_1 : Kd.C k62 w A0_1 l0_1.length l0_1) (hc0_1 : l0_1.length ≤ c0_1) (h : laws_szStream.f k a0_0 l0_1 a1 = some r) :
  Calls Tryd.prog 8 #[.agg #[.string a0_0,.slice A0_1 l0_1.length c0_1],.int .i64 a1] w fun e w'=>e = .returned (.int .i64 r) ∧ Below w.heap.size w w':=by
 have hu24:=Tryd.underlying24
 have HR0_1:=m_ hr0_1
 have HC0_1:=m_ hc0_1
 clear hr0_1 hc0_1
 have HB:=m_ (Below.refl w.heap.size w)
 have H : (if (wrap64 (a1 - (a0_0.size : Int))) < 0 then (some (-1)) else ((laws_szPartS.f k l0_1 (wrap64 (a1 - (a0_0.size : Int)))).bind fun t105=>(if t105 < 0 then (some (-1)) else (some t105)))) = some r:=h
 clear h
 by_cases c3 : (wrap64 (a1 - (a0_0.size : Int))) < 0
 ·rw [if_pos c3] at H
  have c3b0 : decide ((wrap64 (a1 - (a0_0.size : Int))) < 0) = true:=decide_eq_true c3
  clear c3
  obtain rfl:=Option.some.inj H
  go_enter Tryd.func8,Tryd.ntmps8
  go_wp2_with (first|((with_reducible refine gate_dst (N:=2) rfl ?_);refine box_event ?hg (N:=2) ?hd (cs:=#[.string a0_0,.slice A0_1 l0_1.length c0_1]) (t:=24) ?hr ?_;(case hd=>rfl);(case hg=>rfl);(case hr=>first|(go_simp;done)|(go_simp;rfl));intro gb104 hg w4 hbox hb;have n0_:=m_ (l5_ (by repeat (first|(with_reducible first|exact HB.out|apply l1_|apply l2_|apply l3_)|exact HB.out)) hb);have n1_:=m_ (hbox);have n2_:=m_ ((by rw [hg];exact (l6_ (by repeat (first|(with_reducible first|exact HB.out|apply l1_|apply l2_|apply l3_)|exact HB.out))) : w.heap.size ≤ gb104));have n3_:=n2_;clear HB;have HB:=n0_;have BK104:=n1_;have GW104:=n2_;have GE104:=n3_;clear n0_ n1_ n2_ n3_;clear hb hbox hg;have hcz5_0 : w4.cell? ⟨gb104,0,none⟩ = some (.string a0_0):=(c_ BK104.out 0).trans rfl;have hcz5_1 : w4.cell? ⟨gb104,1,none⟩ = some (.slice A0_1 l0_1.length c0_1):=(c_ BK104.out 1).trans rfl))
  go_ret
  exact ⟨by first|rfl|(simp [e1_,e2_] <;> rfl)|(simp [*,e1_,e2_] <;> rfl)|(simp [e1_,e2_,pk_empty1,pk_empty2];done)|(simp [*,e1_,e2_,pk_empty1,pk_empty2];done),by repeat (first|(with_reducible first|exact HB.out|apply l1_|apply l2_|apply l3_|refine l4_ ?_ GE104.out)|exact HB.out)⟩
 ·rw [if_neg c3] at H
  have c3b0 : decide ((wrap64 (a1 - (a0_0.size : Int))) < 0) = false:=decide_eq_false c3
  clear c3
  replace H:=Option.bind_eq_some_iff.mp H
  obtain ⟨t105,A60,H⟩:=H
  replace H : (if t105 < 0 then (some (-1)) else (some t105)) = some r:=H
  have A6:=m_ A60
  clear A60
  by_cases c7 : t105 < 0
  ·rw [if_pos c7] at H
   have c7b0 : decide (t105 < 0) = true:=decide_eq_true c7
   clear c7
   obtain rfl:=Option.some.inj H
   go_enter Tryd.func8,Tryd.ntmps8
   go_wp2_with (first|((with_reducible refine gate_dst (N:=2) rfl ?_);refine box_event ?hg (N:=2) ?hd (cs:=#[.string a0_0,.slice A0_1 l0_1.length c0_1]) (t:=24) ?hr ?_;(case hd=>rfl);(case hg=>rfl);(case hr=>first|(go_simp;done)|(go_simp;rfl));intro gb104 hg w8 hbox hb;have n0_:=m_ (l5_ (by repeat (first|(with_reducible first|exact HB.out|apply l1_|apply l2_|apply l3_)|exact HB.out)) hb);have n1_:=m_ (hbox);have n2_:=m_ ((by rw [hg];exact (l6_ (by repeat (first|(with_reducible first|exact HB.out|apply l1_|apply l2_|apply l3_)|exact HB.out))) : w.heap.size ≤ gb104));have n3_:=m_ ((by rw [hg];exact (l6_ (by repeat (first|(with_reducible first|exact HB.out|apply l1_|apply l2_|apply l3_)|exact HB.out))) : w.heap.size ≤ gb104));clear HB;have HB:=n0_;have BK104:=n1_;have GW104:=n2_;have GE104:=n3_;clear n0_ n1_ n2_ n3_;clear hb hbox hg;have hcz9_0 : w8.cell? ⟨gb104,0,none⟩ = some (.string a0_0):=(c_ BK104.out 0).trans rfl;have hcz9_1 : w8.cell? ⟨gb104,1,none⟩ = some (.slice A0_1 l0_1.length c0_1):=(c_ BK104.out 1).trans rfl)|((with_reducible refine gate_callee (f:=21) rfl ?_);refine goesL_ (some 15) rfl rfl Tryd.func21 (by kernel_rfl) rfl #[.slice A0_1 l0_1.length c0_1,.int .i64 (wrap64 (a1 - (a0_0.size : Int)))] rfl (by (try simp only [List.map_toArray,List.map_cons,List.map_nil]);first|done|rfl|(simp only [List.length_drop,List.length_take];rfl)) ?_;(with_reducible refine (laws_szPartS.calls k _ _ l0_1 (wrap64 (a1 - (a0_0.size : Int))) t105 _ ?side1 ?side2 A6.out).mono ?_);(case side1=>repeat (first|exact (Kd.C_below HR0_1.out HB.out)|(with_reducible refine Kd.C_alloc ?_ _)|(with_reducible refine Kd.C_drewN ?_ _)|(with_reducible refine Kd.C_drew ?_)));(case side2=>exact HC0_1.out);rintro e w10 ⟨rfl,hb⟩;refine ⟨_,rfl,?_⟩;have n0_:=m_ (blk_below (g:=gb104) (o:=.cells #[.string a0_0,.slice A0_1 l0_1.length c0_1] 24 (0,0)) (by (with_reducible repeat first|apply b1_|apply b2_|apply b3_);exact BK104.out) hb);have n1_:=m_ (l5_ (by repeat (first|(with_reducible first|exact HB.out|apply l1_|apply l2_|apply l3_|refine l4_ ?_ GE104.out)|exact HB.out)) hb);clear BK104;clear HB;have BK104:=n0_;have HB:=n1_;clear n0_ n1_;(try clear hb);(try clear hb2);(try clear hk);(try clear hi)))
   go_ret
   exact ⟨by first|rfl|(simp [e1_,e2_] <;> rfl)|(simp [*,e1_,e2_] <;> rfl)|(simp [e1_,e2_,pk_empty1,pk_empty2];done)|(simp [*,e1_,e2_,pk_empty1,pk_empty2];done),by repeat (first|(with_reducible first|exact HB.out|apply l1_|apply l2_|apply l3_|refine l4_ ?_ GE104.out)|exact HB.out)⟩
  ·rw [if_neg c7] at H
   have c7b0 : decide (t105 < 0) = false:=decide_eq_false c7
   clear c7
   obtain rfl:=Option.some.inj H
   go_enter Tryd.func8,Tryd.ntmps8
   go_wp2_with (first|((with_reducible refine gate_dst (N:=2) rfl ?_);refine box_event ?hg (N:=2) ?hd (cs:=#[.string a0_0,.slice A0_1 l0_1.length c0_1]) (t:=24) ?hr ?_;(case hd=>rfl);(case hg=>rfl);(case hr=>first|(go_simp;done)|(go_simp;rfl));intro gb104 hg w11 hbox hb;have n0_:=m_ (l5_ (by repeat (first|(with_reducible first|exact HB.out|apply l1_|apply l2_|apply l3_)|exact HB.out)) hb);have n1_:=m_ (hbox);have n2_:=m_ ((by rw [hg];exact (l6_ (by repeat (first|(with_reducible first|exact HB.out|apply l1_|apply l2_|apply l3_)|exact HB.out))) : w.heap.size ≤ gb104));have n3_:=m_ ((by rw [hg];exact (l6_ (by repeat (first|(with_reducible first|exact HB.out|apply l1_|apply l2_|apply l3_)|exact HB.out))) : w.heap.size ≤ gb104));clear HB;have HB:=n0_;have BK104:=n1_;have GW104:=n2_;have GE104:=n3_;clear n0_ n1_ n2_ n3_;clear hb hbox hg;have hcz12_0 : w11.cell? ⟨gb104,0,none⟩ = some (.string a0_0):=(c_ BK104.out 0).trans rfl;have hcz12_1 : w11.cell? ⟨gb104,1,none⟩ = some (.slice A0_1 l0_1.length c0_1):=(c_ BK104.out 1).trans rfl)|((with_reducible refine gate_callee (f:=21) rfl ?_);refine goesL_ (some 15) rfl rfl Tryd.func21 (by kernel_rfl) rfl #[.slice A0_1 l0_1.length c0_1,.int .i64 (wrap64 (a1 - (a0_0.size : Int)))] rfl (by (try simp only [List.map_toArray,List.map_cons,List.map_nil]);first|done|rfl|(simp only [List.length_drop,List.length_take];rfl)) ?_;(with_reducible refine (laws_szPartS.calls k _ _ l0_1 (wrap64 (a1 - (a0_0.size : Int))) t105 _ ?side1 ?side2 A6.out).mono ?_);(case side1=>repeat (first|exact (Kd.C_below HR0_1.out HB.out)|(with_reducible refine Kd.C_alloc ?_ _)|(with_reducible refine Kd.C_drewN ?_ _)|(with_reducible refine Kd.C_drew ?_)));(case side2=>exact HC0_1.out);rintro e w13 ⟨rfl,hb⟩;refine ⟨_,rfl,?_⟩;have n0_:=m_ (blk_below (g:=gb104) (o:=.cells #[.string a0_0,.slice A0_1 l0_1.length c0_1] 24 (0,0)) (by (with_reducible repeat first|apply b1_|apply b2_|apply b3_);exact BK104.out) hb);have n1_:=m_ (l5_ (by repeat (first|(with_reducible first|exact HB.out|apply l1_|apply l2_|apply l3_|refine l4_ ?_ GE104.out)|exact HB.out)) hb);clear BK104;clear HB;have BK104:=n0_;have HB:=n1_;clear n0_ n1_;(try clear hb);(try clear hb2);(try clear hk);(try clear hi)))
   go_ret
   exact ⟨by first|rfl|(simp [e1_,e2_] <;> rfl)|(simp [*,e1_,e2_] <;> rfl)|(simp [e1_,e2_,pk_empty1,pk_empty2];done)|(simp [*,e1_,e2_,pk_empty1,pk_empty2];done),by repeat (first|(with_reducible first|exact HB.out|apply l1_|apply l2_|apply l3_|refine l4_ ?_ GE104.out)|exact HB.out)⟩

/-! ### laws_toPart: function 43 -/
def laws_toPart.f (a0_0 : Int) (a0_1 : ByteArray) : Option (Int × ByteArray) := some (a0_0, a0_1)
set_option maxHeartbeats 8000000 in
set_option maxRecDepth 100000 in
theorem laws_toPart.calls (a0_0 : Int) (a0_1 : ByteArray) (r1 : Int) (r2 : ByteArray) (w : World) (h : laws_toPart.f a0_0 a0_1 = some (r1, r2)) :
  Calls Tryd.prog 43 #[.agg #[.int .i64 a0_0,.string a0_1]] w fun e w'=>e = .returned (.agg #[.int .i64 r1,.string r2]) ∧ Below w.heap.size w w':=by
 have hu62:=Tryd.underlying62
 have hu41:=Tryd.underlying41
 have HB:=m_ (Below.refl w.heap.size w)
 have H : (some (a0_0,a0_1)) = some (r1,r2):=h
 clear h
 simp only [Option.some.injEq,Prod.mk.injEq] at H
 obtain ⟨rfl,rfl⟩:=H
 go_enter Tryd.func43,Tryd.ntmps43
 go_wp2_with (first|((with_reducible refine gate_dst (N:=1) rfl ?_);refine box_event ?hg (N:=1) ?hd (cs:=#[.int .i64 a0_0,.string a0_1]) (t:=62) ?hr ?_;(case hd=>rfl);(case hg=>rfl);(case hr=>first|(go_simp;done)|(go_simp;rfl));intro gb191 hg w2 hbox hb;have n0_:=m_ (l5_ (by repeat (first|(with_reducible first|exact HB.out|apply l1_|apply l2_|apply l3_)|exact HB.out)) hb);have n1_:=m_ (hbox);have n2_:=m_ ((by rw [hg];exact (l6_ (by repeat (first|(with_reducible first|exact HB.out|apply l1_|apply l2_|apply l3_)|exact HB.out))) : w.heap.size ≤ gb191));have n3_:=m_ ((by rw [hg];exact (l6_ (by repeat (first|(with_reducible first|exact HB.out|apply l1_|apply l2_|apply l3_)|exact HB.out))) : w.heap.size ≤ gb191));clear HB;have HB:=n0_;have BK191:=n1_;have GW191:=n2_;have GE191:=n3_;clear n0_ n1_ n2_ n3_;clear hb hbox hg)|((with_reducible refine gate_dst (N:=2) rfl ?_);refine box_event ?hg (N:=2) ?hd (cs:=#[.int .i64 0,.string (⟨#[]⟩ : ByteArray)]) (t:=41) ?hr ?_;(case hd=>rfl);(case hg=>rfl);(case hr=>first|(go_simp;done)|(go_simp;rfl));intro gb192 hg w3 hbox hb;have n0_:=m_ (blk_below (g:=gb191) (o:=.cells #[.int .i64 a0_0,.string a0_1] 62 (0,0)) (by (with_reducible repeat first|apply b1_|apply b2_|apply b3_);exact BK191.out) hb);have n1_:=m_ (l5_ (by repeat (first|(with_reducible first|exact HB.out|apply l1_|apply l2_|apply l3_|refine l4_ ?_ GE191.out)|exact HB.out)) hb);have n2_:=m_ (hbox);have n3_:=m_ ((by rw [hg];exact (l6_ (by repeat (first|(with_reducible first|exact HB.out|apply l1_|apply l2_|apply l3_|refine l4_ ?_ GE191.out)|exact HB.out))) : w.heap.size ≤ gb192));have n4_:=n3_;have n5_:=m_ ((by rw [hg];exact Nat.ne_of_lt (blk_lt (g:=gb191) (o:=.cells #[.int .i64 a0_0,.string a0_1] 62 (0,0)) (by (with_reducible repeat first|apply b1_|apply b2_|apply b3_);exact BK191.out)) : gb191 ≠ gb192));have n6_:=m_ ((by rw [hg];exact Nat.ne_of_gt (blk_lt (g:=gb191) (o:=.cells #[.int .i64 a0_0,.string a0_1] 62 (0,0)) (by (with_reducible repeat first|apply b1_|apply b2_|apply b3_);exact BK191.out)) : gb192 ≠ gb191));clear BK191;clear HB;have BK191:=n0_;have HB:=n1_;have BK192:=n2_;have GW192:=n3_;have GE192:=n4_;have NB191_192:=n5_;have NB192_191:=n6_;clear n0_ n1_ n2_ n3_ n4_ n5_ n6_;clear hb hbox hg)|((with_reducible refine gate_dst (N:=3) rfl ?_);refine box_event ?hg (N:=3) ?hd (cs:=#[.int .i64 0,.string (⟨#[]⟩ : ByteArray)]) (t:=41) ?hr ?_;(case hd=>rfl);(case hg=>rfl);(case hr=>first|(go_simp;done)|(go_simp;rfl));intro gb193 hg w4 hbox hb;have n0_:=m_ (blk_below (g:=gb191) (o:=.cells #[.int .i64 a0_0,.string a0_1] 62 (0,0)) (by (with_reducible repeat first|apply b1_|apply b2_|apply b3_);exact BK191.out) hb);have n1_:=m_ (blk_below (g:=gb192) (o:=.cells #[.int .i64 0,.string (⟨#[]⟩ : ByteArray)] 41 (0,0)) (by (with_reducible repeat first|apply b1_|apply b2_|apply b3_);exact BK192.out) hb);have n2_:=m_ (l5_ (by repeat (first|(with_reducible first|exact HB.out|apply l1_|apply l2_|apply l3_|refine l4_ ?_ GE191.out|refine l4_ ?_ GE192.out)|exact HB.out)) hb);have n3_:=m_ (hbox);have n4_:=m_ ((by rw [hg];exact (l6_ (by repeat (first|(with_reducible first|exact HB.out|apply l1_|apply l2_|apply l3_|refine l4_ ?_ GE191.out|refine l4_ ?_ GE192.out)|exact HB.out))) : w.heap.size ≤ gb193));have n5_:=n4_;have n6_:=m_ ((by rw [hg];exact Nat.ne_of_lt (blk_lt (g:=gb191) (o:=.cells #[.int .i64 a0_0,.string a0_1] 62 (0,0)) (by (with_reducible repeat first|apply b1_|apply b2_|apply b3_);exact BK191.out)) : gb191 ≠ gb193));have n7_:=m_ n6_.out.symm;have n8_:=m_ ((by rw [hg];exact Nat.ne_of_lt (blk_lt (g:=gb192) (o:=.cells #[.int .i64 0,.string (⟨#[]⟩ : ByteArray)] 41 (0,0)) (by (with_reducible repeat first|apply b1_|apply b2_|apply b3_);exact BK192.out)) : gb192 ≠ gb193));have n9_:=m_ n8_.out.symm;clear BK191;clear BK192;clear HB;have BK191:=n0_;have BK192:=n1_;have HB:=n2_;have BK193:=n3_;have GW193:=n4_;have GE193:=n5_;have NB191_193:=n6_;have NB193_191:=n7_;have NB192_193:=n8_;have NB193_192:=n9_;clear n0_ n1_ n2_ n3_ n4_ n5_ n6_ n7_ n8_ n9_;clear hb hbox hg;have hnb5:=NB191_192.out;have hnc5:=NB192_191.out;have hnb6:=NB191_193.out;have hnc6:=NB193_191.out;have hcz7_0 : w4.cell? ⟨gb191,0,none⟩ = some (.int .i64 a0_0):=(c_ BK191.out 0).trans rfl;have hcz7_1 : w4.cell? ⟨gb191,1,none⟩ = some (.string a0_1):=(c_ BK191.out 1).trans rfl;have hfz7_0:=f_ BK191.out 0;have hfz7_1:=f_ BK191.out 1;have hnb8:=NB193_192.out;have hnc8:=NB192_193.out;have hcz9_0 : w4.cell? ⟨gb193,0,none⟩ = some (.int .i64 0):=(c_ BK193.out 0).trans rfl;have hcz9_1 : w4.cell? ⟨gb193,1,none⟩ = some (.string (⟨#[]⟩ : ByteArray)):=(c_ BK193.out 1).trans rfl;have hfz9_0:=f_ BK193.out 0;have hfz9_1:=f_ BK193.out 1;have hcz10_0 : w4.cell? ⟨gb192,0,none⟩ = some (.int .i64 0):=(c_ BK192.out 0).trans rfl;have hcz10_1 : w4.cell? ⟨gb192,1,none⟩ = some (.string (⟨#[]⟩ : ByteArray)):=(c_ BK192.out 1).trans rfl;have hfz10_0:=f_ BK192.out 0;have hfz10_1:=f_ BK192.out 1))
 refine bodyPost_ret (results_cell_row rfl _ _ gb192 41 #[.int .i64 a0_0,.string a0_1] (0,0) _ rfl (by (with_reducible repeat first|apply b1_|apply b2_|apply b3_);refine blk_put (cs:=#[.int .i64 a0_0,.string (⟨#[]⟩ : ByteArray)]) ?_ 1 _ rfl;(with_reducible repeat first|apply b1_|apply b2_|apply b3_);refine blk_put (cs:=#[.int .i64 0,.string (⟨#[]⟩ : ByteArray)]) ?_ 0 _ rfl;(with_reducible repeat first|apply b1_|apply b2_|apply b3_);refine b4_ ?_ NB192_193.out _;(with_reducible repeat first|apply b1_|apply b2_|apply b3_);refine b4_ ?_ NB192_193.out _;(with_reducible repeat first|apply b1_|apply b2_|apply b3_);exact BK192.out) Tryd.underlying41 rfl (by kernel_rfl)) rfl ?_
 exact ⟨by first|rfl|(simp [e1_,e2_] <;> rfl)|(simp [*,e1_,e2_] <;> rfl)|(simp [e1_,e2_,pk_empty1,pk_empty2];done)|(simp [*,e1_,e2_,pk_empty1,pk_empty2];done),by repeat (first|(with_reducible first|exact HB.out|apply l1_|apply l2_|apply l3_|refine l4_ ?_ GE191.out|refine l4_ ?_ GE192.out|refine l4_ ?_ GE193.out)|exact HB.out)⟩

/-! ### laws_toPartS: function 24 -/
def laws_toPartS.l0 : Nat → List (S62) → List (S41) → Int → Option ((List (S41)))
 | 0, _, _, _ => none
 | k + 1, x0, x3, x4 => if x4 < (x0.length : Int) then (if 0 ≤ x4 then ((laws_toPart.f ((rd_T62 x0 x4).f0) ((rd_T62 x0 x4).f1)).bind fun bt198 => (if x4 < (x3.length : Int) then (laws_toPartS.l0 k x0 (x3.set (x4 : Int).toNat (⟨bt198.1, bt198.2⟩ : S41)) (wrap64 (x4 + 1))) else (none))) else (none)) else (some x3)
def laws_toPartS.f (k : Nat) (l0 : List (S62)) : Option ((List (S41))) := if 0 ≤ (l0.length : Int) then (if ((l0.length : Int) : Int).toNat ≤ 11728124029610 then (laws_toPartS.l0 k l0 (List.replicate ((l0.length : Int) : Int).toNat z41) 0) else (none)) else (none)
theorem laws_toPartS.mono_l : ∀ k, (∀ y0 y1 y2, LeO (laws_toPartS.l0 k y0 y1 y2) (laws_toPartS.l0 (k + 1) y0 y1 y2))
 | 0 => fun _ _ _ r h => by simp [laws_toPartS.l0] at h
 | k + 1 => by
  have ih0:=laws_toPartS.mono_l k
  ·intro y0 y1 y2
   unfold laws_toPartS.l0
   repeat' first
   | (with_reducible exact ih0 _ _ _)
   | (with_reducible exact LeO.refl _)
   | (with_reducible exact LeO.none _)
   | (with_reducible refine LeO.ite ?_ ?_)
   | (with_reducible refine LeO.bind ?_ (fun _ => ?_))
   | exact ih0 _ _ _
   | exact LeO.none _
   | refine LeO.ite ?_ ?_
   | refine LeO.bind ?_ (fun _ => ?_)
theorem laws_toPartS.mono : ∀ a0 k, LeO (laws_toPartS.f k a0) (laws_toPartS.f (k + 1) a0) := by
 intro a0 k
 have ih0:=laws_toPartS.mono_l k
 unfold laws_toPartS.f
 repeat' first
   | (with_reducible exact ih0 _ _ _)
   | (with_reducible exact LeO.refl _)
   | (with_reducible exact LeO.none _)
   | (with_reducible refine LeO.ite ?_ ?_)
   | (with_reducible refine LeO.bind ?_ (fun _ => ?_))
   | exact ih0 _ _ _
   | exact LeO.none _
   | refine LeO.ite ?_ ?_
   | refine LeO.bind ?_ (fun _ => ?_)
set_option maxHeartbeats 8000000 in
set_option maxRecDepth 100000 in
theorem laws_toPartS.calls (k : Nat) (A0 : Option Addr) (c0 : Nat) (l0 : List (S62)) (r : List (S41)) (w : World) (hr0 : Kd.C k62 w A0 l0.length l0) (hc0 : l0.length ≤ c0) (h : laws_toPartS.f k l0 = some r) :
  Calls Tryd.prog 24 #[.slice A0 l0.length c0] w fun e w'=>∃ v0_ : Value,e = .returned (v0_) ∧ Kd.R k41 41 w' w.heap.size (fun _=>True) v0_ r ∧ Below w.heap.size w w':=by
 have hu62:=Tryd.underlying62
 have hu41:=Tryd.underlying41
 have HR0:=m_ hr0
 have HC0:=m_ hc0
 clear hr0 hc0
 have HB:=m_ (Below.refl w.heap.size w)
 have H : (if 0 ≤ (l0.length : Int) then (if ((l0.length : Int) : Int).toNat ≤ 11728124029610 then (laws_toPartS.l0 k l0 (List.replicate ((l0.length : Int) : Int).toNat z41) 0) else (none)) else (none)) = some r:=h
 clear h
 by_cases c2 : 0 ≤ (l0.length : Int)
 ·rw [if_pos c2] at H
  have c2b0:=eq_true c2
  have c2b1 : decide (0 ≤ (l0.length : Int)) = true:=decide_eq_true c2
  clear c2
  by_cases c3 : ((l0.length : Int) : Int).toNat ≤ 11728124029610
  ·rw [if_pos c3] at H
   have c3b0:=eq_true c3
   have c3b1 : decide (((l0.length : Int) : Int).toNat ≤ 11728124029610) = true:=decide_eq_true c3
   clear c3
   obtain ⟨y194,hy194⟩ : ∃ y_ : List (S41),y_ = (List.replicate ((l0.length : Int) : Int).toNat z41):=⟨_,rfl⟩
   replace H : (laws_toPartS.l0 k l0 y194 0) = some r:=by first|(rw [hy194];with_reducible exact H)|(have H2_:=(Option.bind_some _ _).symm.trans H;rw [hy194];with_reducible exact H2_)|(have H2_:=(Option.bind_some _ _).symm.trans H;with_reducible exact H2_)|with_reducible exact H|(rw [hy194];exact H)|exact H
   have Ny194:=m_ hy194
   clear hy194
   have H':=m_ H
   clear H
   go_enter Tryd.func24,Tryd.ntmps24
   go_wp2_with (first|((with_reducible refine gate_dst (N:=7) rfl ?_);refine Kd.R_make k41 _ 41 rfl (N:=7) rfl 27 _ _ rfl (l0.length : Int) rfl rfl Tryd.underlying27 (.agg #[(.int .i64 0),(.string ⟨#[]⟩)]) 24 info41 rfl (by decide) (by omega) z41 (ok:=fun _=>True) (okp:=fun _=>True) (k41_mkM _ _ _ z41 ) (fun _ hk=>hk) trivial (of_decide_eq_true (by first|(with_reducible assumption)|assumption)) (Nat.le_trans (Nat.mul_le_mul_right _ (of_decide_eq_true (by first|(with_reducible assumption)|assumption) : (l0.length : Int).toNat ≤ 11728124029610)) (by omega)) (Below.refl _ _) (Nat.le_refl _) ?_;intro v195 w4 ho5 hb hg_ hnew_;clear hg_ hnew_;(first|rw [← Ny194.out] at ho5|(simp only [Int.reduceToNat] at ho5;rw [← Ny194.out] at ho5));have n0_:=m_ (Kd.R_lower ho5 (l6_ (by repeat (first|(with_reducible first|exact HB.out|apply l1_|apply l2_|apply l3_)|exact HB.out))));have n1_:=m_ (l5_ (by repeat (first|(with_reducible first|exact HB.out|apply l1_|apply l2_|apply l3_)|exact HB.out)) hb);clear HB;have HO196:=n0_;have HB:=n1_;clear n0_ n1_;clear hb ho5))
   go_loopg [4] k (fun kq v4 w'=>∃ (x3_1 : List (S41)) (x4_1 : Int),v4 = .int .i64 x4_1 ∧ Aside0 (laws_toPartS.l0 kq l0 x3_1 x4_1 = some r) ∧ Aside0 (kq ≤ k) ∧ Aside0 (Kd.R k41 41 w' w.heap.size (fun _=>True) v195 x3_1) ∧ Aside0 (Below w.heap.size w w'))
   case atStart=>exact ⟨(y194),(0),(by first|rfl|(simp;done)|(simp [*];done)),H',⟨Nat.le_refl _⟩,⟨by (with_reducible repeat (first|apply Kd.R_alloc|apply Kd.R_drewN|apply Kd.R_drew));exact HO196.out⟩,⟨by repeat (first|(with_reducible first|exact HB.out|apply l1_|apply l2_|apply l3_)|exact HB.out)⟩⟩
   case round =>
    clear H'
    try clear c2
    try clear c2b0
    try clear c2b1
    try clear p2
    try clear c3
    try clear c3b0
    try clear c3b1
    obtain ⟨x3_1,x4_1,rfl,HA,HK1,HO_3,HB⟩:=hrel
    cases gk with
    | zero => exact absurd HA.out (by simp [laws_toPartS.l0])
    | succ k1 =>
     have H:=HA.out
     clear HA
     simp only [laws_toPartS.l0] at H
     by_cases c6 : x4_1 < (l0.length : Int)
     ·rw [if_pos c6] at H
      have c6b0 : decide (x4_1 < (l0.length : Int)) = true:=decide_eq_true c6
      clear c6
      by_cases c7 : 0 ≤ x4_1
      ·rw [if_pos c7] at H
       have c7b0 : decide (0 ≤ x4_1) = true:=decide_eq_true c7
       clear c7
       replace H:=Option.bind_eq_some_iff.mp H
       obtain ⟨⟨t198,t199⟩,A80,H⟩:=H
       replace H : (if x4_1 < (x3_1.length : Int) then (laws_toPartS.l0 k1 l0 (x3_1.set (x4_1 : Int).toNat (⟨t198,t199⟩ : S41)) (wrap64 (x4_1 + 1))) else (none)) = some r:=H
       have A8:=m_ A80
       clear A80
       by_cases c9 : x4_1 < (x3_1.length : Int)
       ·rw [if_pos c9] at H
        have c9b0 : decide (x4_1 < (x3_1.length : Int)) = true:=decide_eq_true c9
        clear c9
        obtain ⟨y200,hy200⟩ : ∃ y_ : List (S41),y_ = (x3_1.set (x4_1 : Int).toNat (⟨t198,t199⟩ : S41)):=⟨_,rfl⟩
        replace H : (laws_toPartS.l0 k1 l0 y200 (wrap64 (x4_1 + 1))) = some r:=by first|(rw [hy200];with_reducible exact H)|(have H2_:=(Option.bind_some _ _).symm.trans H;rw [hy200];with_reducible exact H2_)|(have H2_:=(Option.bind_some _ _).symm.trans H;with_reducible exact H2_)|with_reducible exact H|(rw [hy200];exact H)|exact H
        have Ny200:=m_ hy200
        clear hy200
        have H':=m_ H
        clear H
        have p197 : 0 ≤ (x4_1 : Int):=of_decide_eq_true (by first|(with_reducible assumption)|assumption)
        have q197 : x4_1 < (l0.length : Int):=of_decide_eq_true (by first|(with_reducible assumption)|assumption)
        obtain ⟨ad197,e197,hx197_0,hx197_1⟩:=at_T62 HR0.out x4_1 p197 q197
        cases e197
        replace hx197_0:=(HB.out.cell (World.block_lt_of_cell? w _ hx197_0)).trans hx197_0
        replace hx197_1:=(HB.out.cell (World.block_lt_of_cell? w _ hx197_1)).trans hx197_1
        replace p197:=eq_true p197
        replace q197:=eq_true q197
        go_wp2_with (first|((with_reducible refine gate_callee (f:=43) rfl ?_);refine goesL_ (some 20) rfl rfl Tryd.func43 (by kernel_rfl) rfl #[.agg #[.int .i64 ((rd_T62 l0 x4_1).f0),.string ((rd_T62 l0 x4_1).f1)]] rfl (by (try simp only [List.map_toArray,List.map_cons,List.map_nil]);first|done|rfl|(simp only [List.length_drop,List.length_take];rfl)) ?_;(with_reducible refine (laws_toPart.calls ((rd_T62 l0 x4_1).f0) ((rd_T62 l0 x4_1).f1) t198 t199 _ A8.out).mono ?_);rintro e w11 ⟨rfl,hb⟩;refine ⟨_,rfl,?_⟩;have n0_:=m_ (Kd.R_below (by (with_reducible repeat (first|apply Kd.R_alloc|apply Kd.R_drewN|apply Kd.R_drew));exact HO_3.out) hb);have n1_:=m_ (l5_ (by repeat (first|(with_reducible first|exact HB.out|apply l1_|apply l2_|apply l3_)|exact HB.out)) hb);clear HO_3;clear HB;have HO_3:=n0_;have HB:=n1_;clear n0_ n1_;(try clear hb);(try clear hb2);(try clear hk);(try clear hi);have p10 : 0 ≤ (x4_1 : Int):=of_decide_eq_true (by first|(with_reducible assumption)|assumption);have q10 : (x4_1 : Int) < ((x3_1.length : Int) : Int):=of_decide_eq_true (by first|(with_reducible assumption)|assumption);obtain ⟨go10,co10,eo10,gb10,gl10,cl10,HG10⟩:=Kd.R_form HO_3.out (by omega);(first|cases eo10|(injection eo10 with ea_ en_ ec_;(first|subst ea_|(injection ea_ with ea_;subst ea_));subst ec_;clear en_));have GB10:=m_ gb10;have GG10:=m_ HG10;clear gb10 gl10 HG10;obtain ⟨ce10,hcl10,hM10,hcc10,hfr10⟩:=Kd.R_elem HO_3.out z41 (x4_1 : Int) p10 q10;obtain rfl:=k41_openM hM10;have hx10_0 : w11.cell? ⟨go10,(x4_1 : Int).toNat * 2,none⟩ = some (.int .i64 ((rd_T41 x3_1 x4_1).f0)):=hcc10 0 _ rfl;have hx10_1 : w11.cell? ⟨go10,(x4_1 : Int).toNat * 2 + 1,none⟩ = some (.string ((rd_T41 x3_1 x4_1).f1)):=hcc10 1 _ rfl;have hf10_0 : w11.frozen? ⟨go10,(x4_1 : Int).toNat * 2,none⟩ = false:=hfr10 0;have hf10_1 : w11.frozen? ⟨go10,(x4_1 : Int).toNat * 2 + 1,none⟩ = false:=hfr10 1;clear hcl10 hcc10 hfr10 hM10;replace p10:=eq_true p10;replace q10:=eq_true q10;have HX12:=m_ (show Kd.R k41 41 w11 w.heap.size (fun _=>True) (.slice (some ⟨go10,0,none⟩) x3_1.length co10) x3_1 from (by (with_reducible repeat (first|apply Kd.R_alloc|apply Kd.R_drewN|apply Kd.R_drew));exact HO_3.out));obtain ⟨ce12,hcl12,hM12,hcc12,hfr12⟩:=Kd.R_elem HX12.out z41 (x4_1 : Int) (of_decide_eq_true (by first|(with_reducible assumption)|assumption)) (by have h_ : (x4_1 : Int) < ((x3_1.length : Int) : Int):=of_decide_eq_true (by first|(with_reducible assumption)|assumption);first|exact h_|(have e_:=(Kd.R_reads' HO_3.out).1;omega)|simpa using h_);obtain rfl:=k41_openM hM12;have HP12:=Kd.R_seg HX12.out (x4_1 : Int) (of_decide_eq_true (by first|(with_reducible assumption)|assumption)) (by have h_ : (x4_1 : Int) < ((x3_1.length : Int) : Int):=of_decide_eq_true (by first|(with_reducible assumption)|assumption);first|exact h_|(have e_:=(Kd.R_reads' HO_3.out).1;omega)|simpa using h_) (seg:=[.int .i64 t198,.string t199]) (j:=0) hcl12 hcc12 (show 2 ≤ 2 from by decide) (x':=(⟨t198,t199⟩ : S41)) (k41_mkM _ _ _ (⟨t198,t199⟩ : S41) ) (fun _ hk=>hk);have hx12_0:=hcc12 0 _ rfl;(try simp only [show (k41).sz = 2 from rfl,Nat.mul_one,Nat.add_zero] at hx12_0);have hf12_0:=hfr12 0;(try simp only [show (k41).sz = 2 from rfl,Nat.mul_one,Nat.add_zero] at hf12_0);have hx12_1:=hcc12 1 _ rfl;(try simp only [show (k41).sz = 2 from rfl,Nat.mul_one,Nat.add_zero] at hx12_1);have hf12_1:=hfr12 1;(try simp only [show (k41).sz = 2 from rfl,Nat.mul_one,Nat.add_zero] at hf12_1);clear hcl12 hcc12 hfr12 hM12)|((with_reducible refine gate_store (t:=41) (p:=21) rfl ?_);refine store_event (t:=41) (p:=21) (v:=?vo_w13) (w1:=((w11.setCell ⟨go10,(x4_1 : Int).toNat * 2,none⟩ (.int .i64 t198)).setCell ⟨go10,(x4_1 : Int).toNat * 2 + 1,none⟩ (.string t199))) ?hg ?ho ?hn ?hr ?_;(case ho=>rfl);(case hg=>rfl);(case hn=>rfl);(case hr=>first|(go_simp;done)|(go_simp;rfl));intro w13 hw;have hg : w11.grownBy w13 (some go10):=(by rw [hw];exact HP12.2);have hp_ : Kd.R k41 41 w13 w.heap.size (fun _=>True) (.slice (some ⟨go10,0,none⟩) x3_1.length co10) y200:=(by rw [hw,Ny200.out];exact HP12.1);clear HP12;have n0_:=m_ (hp_);have n1_:=m_ ((by rw [hw];exact l4_ (l4_ (HB.out) GB10.out) GB10.out : Below w.heap.size w w13));clear HO_3;clear HB;have HO_3:=n0_;have HB:=n1_;clear n0_ n1_;clear hg hw hp_))
        go_roundg k1
        case measure=>have:=HK1.out;omega
        case rel=>exact ⟨(y200),(wrap64 (x4_1 + 1)),(by first|rfl|(simp;done)|(simp [*];done)),H',⟨by have:=HK1.out;omega⟩,⟨by (with_reducible repeat (first|apply Kd.R_alloc|apply Kd.R_drewN|apply Kd.R_drew));exact HO_3.out⟩,⟨by repeat (first|(with_reducible first|exact HB.out|apply l1_|apply l2_|apply l3_)|exact HB.out)⟩⟩
       ·rw [if_neg c9] at H
        exact absurd H (by simp)
      ·rw [if_neg c7] at H
       exact absurd H (by simp)
     ·rw [if_neg c6] at H
      have c6b0 : decide (x4_1 < (l0.length : Int)) = false:=decide_eq_false c6
      clear c6
      obtain rfl:=Option.some.inj H
      go_wp2
      go_ret
      exact ⟨_,by first|rfl|(simp [e1_,e2_] <;> rfl)|(simp [*,e1_,e2_] <;> rfl)|(simp [e1_,e2_,pk_empty1,pk_empty2];done)|(simp [*,e1_,e2_,pk_empty1,pk_empty2];done),by (with_reducible repeat (first|apply Kd.R_alloc|apply Kd.R_drewN|apply Kd.R_drew));exact HO_3.out,by repeat (first|(with_reducible first|exact HB.out|apply l1_|apply l2_|apply l3_)|exact HB.out)⟩
  ·rw [if_neg c3] at H
   exact absurd H (by simp)
 ·rw [if_neg c2] at H
  exact absurd H (by simp)

/-! ### laws_toStream: function 10 -/
def laws_toStream.f (k : Nat) (a0_0 : ByteArray) (l0_1 : List (S62)) : Option (ByteArray × (List (S41))) := (laws_toPartS.f k l0_1).bind fun t204 => (some (a0_0, t204))
theorem laws_toStream.mono : ∀ a0 a1 k, LeO (laws_toStream.f k a0 a1) (laws_toStream.f (k + 1) a0 a1) := by
 intro a0 a1 k
 unfold laws_toStream.f
 repeat' first
   | (with_reducible exact laws_toPartS.mono _ _)
   | (with_reducible exact LeO.refl _)
   | (with_reducible exact LeO.none _)
   | (with_reducible refine LeO.ite ?_ ?_)
   | (with_reducible refine LeO.bind ?_ (fun _ => ?_))
   | exact laws_toPartS.mono _ _
   | exact LeO.none _
   | refine LeO.ite ?_ ?_
   | refine LeO.bind ?_ (fun _ => ?_)
set_option maxHeartbeats 8000000 in
set_option maxRecDepth 100000 in
theorem laws_toStream.calls (k : Nat) (a0_0 : ByteArray) (A0_1 : Option Addr) (c0_1 : Nat) (l0_1 : List (S62)) (r1 : ByteArray) (r2 : List (S41)) (w : World) (hr0_1 : Kd.C k62 w A0_1 l0_1.length l0_1) (hc0_1 : l0_1.length ≤ c0_1) (h : laws_toStream.f k a0_0 l0_1 = some (r1, r2)) :
  Calls Tryd.prog 10 #[.agg #[.string a0_0,.slice A0_1 l0_1.length c0_1]] w fun e w'=>∃ v1_ : Value,e = .returned (.agg #[.string r1,v1_]) ∧ Kd.R k41 41 w' w.heap.size (fun _=>True) v1_ r2 ∧ Below w.heap.size w w':=by
 have hu24:=Tryd.underlying24
 have hu29:=Tryd.underlying29
 have HR0_1:=m_ hr0_1
 have HC0_1:=m_ hc0_1
 clear hr0_1 hc0_1
 have HB:=m_ (Below.refl w.heap.size w)
 have H : ((laws_toPartS.f k l0_1).bind fun t204=>(some (a0_0,t204))) = some (r1,r2):=h
 clear h
 replace H:=Option.bind_eq_some_iff.mp H
 obtain ⟨t204,A20,H⟩:=H
 replace H : (some (a0_0,t204)) = some (r1,r2):=H
 have A2:=m_ A20
 clear A20
 simp only [Option.some.injEq,Prod.mk.injEq] at H
 obtain ⟨rfl,rfl⟩:=H
 go_enter Tryd.func10,Tryd.ntmps10
 go_wp2_with (first|((with_reducible refine gate_dst (N:=1) rfl ?_);refine box_event ?hg (N:=1) ?hd (cs:=#[.string a0_0,.slice A0_1 l0_1.length c0_1]) (t:=24) ?hr ?_;(case hd=>rfl);(case hg=>rfl);(case hr=>first|(go_simp;done)|(go_simp;rfl));intro gb201 hg w3 hbox hb;have n0_:=m_ (l5_ (by repeat (first|(with_reducible first|exact HB.out|apply l1_|apply l2_|apply l3_)|exact HB.out)) hb);have n1_:=m_ (hbox);have n2_:=m_ ((by rw [hg];exact (l6_ (by repeat (first|(with_reducible first|exact HB.out|apply l1_|apply l2_|apply l3_)|exact HB.out))) : w.heap.size ≤ gb201));have n3_:=m_ ((by rw [hg];exact (l6_ (by repeat (first|(with_reducible first|exact HB.out|apply l1_|apply l2_|apply l3_)|exact HB.out))) : w.heap.size ≤ gb201));clear HB;have HB:=n0_;have BK201:=n1_;have GW201:=n2_;have GE201:=n3_;clear n0_ n1_ n2_ n3_;clear hb hbox hg)|((with_reducible refine gate_dst (N:=2) rfl ?_);refine box_event ?hg (N:=2) ?hd (cs:=#[.string (⟨#[]⟩ : ByteArray),.slice none 0 0]) (t:=29) ?hr ?_;(case hd=>rfl);(case hg=>rfl);(case hr=>first|(go_simp;done)|(go_simp;rfl));intro gb202 hg w4 hbox hb;have n0_:=m_ (blk_below (g:=gb201) (o:=.cells #[.string a0_0,.slice A0_1 l0_1.length c0_1] 24 (0,0)) (by (with_reducible repeat first|apply b1_|apply b2_|apply b3_);exact BK201.out) hb);have n1_:=m_ (l5_ (by repeat (first|(with_reducible first|exact HB.out|apply l1_|apply l2_|apply l3_|refine l4_ ?_ GE201.out)|exact HB.out)) hb);have n2_:=m_ (hbox);have n3_:=m_ ((by rw [hg];exact (l6_ (by repeat (first|(with_reducible first|exact HB.out|apply l1_|apply l2_|apply l3_|refine l4_ ?_ GE201.out)|exact HB.out))) : w.heap.size ≤ gb202));have n4_:=n3_;have n5_:=m_ ((by rw [hg];exact Nat.ne_of_lt (blk_lt (g:=gb201) (o:=.cells #[.string a0_0,.slice A0_1 l0_1.length c0_1] 24 (0,0)) (by (with_reducible repeat first|apply b1_|apply b2_|apply b3_);exact BK201.out)) : gb201 ≠ gb202));have n6_:=m_ ((by rw [hg];exact Nat.ne_of_gt (blk_lt (g:=gb201) (o:=.cells #[.string a0_0,.slice A0_1 l0_1.length c0_1] 24 (0,0)) (by (with_reducible repeat first|apply b1_|apply b2_|apply b3_);exact BK201.out)) : gb202 ≠ gb201));clear BK201;clear HB;have BK201:=n0_;have HB:=n1_;have BK202:=n2_;have GW202:=n3_;have GE202:=n4_;have NB201_202:=n5_;have NB202_201:=n6_;clear n0_ n1_ n2_ n3_ n4_ n5_ n6_;clear hb hbox hg)|((with_reducible refine gate_dst (N:=3) rfl ?_);refine box_event ?hg (N:=3) ?hd (cs:=#[.string (⟨#[]⟩ : ByteArray),.slice none 0 0]) (t:=29) ?hr ?_;(case hd=>rfl);(case hg=>rfl);(case hr=>first|(go_simp;done)|(go_simp;rfl));intro gb203 hg w5 hbox hb;have n0_:=m_ (blk_below (g:=gb201) (o:=.cells #[.string a0_0,.slice A0_1 l0_1.length c0_1] 24 (0,0)) (by (with_reducible repeat first|apply b1_|apply b2_|apply b3_);exact BK201.out) hb);have n1_:=m_ (blk_below (g:=gb202) (o:=.cells #[.string (⟨#[]⟩ : ByteArray),.slice none 0 0] 29 (0,0)) (by (with_reducible repeat first|apply b1_|apply b2_|apply b3_);exact BK202.out) hb);have n2_:=m_ (l5_ (by repeat (first|(with_reducible first|exact HB.out|apply l1_|apply l2_|apply l3_|refine l4_ ?_ GE201.out|refine l4_ ?_ GE202.out)|exact HB.out)) hb);have n3_:=m_ (hbox);have n4_:=m_ ((by rw [hg];exact (l6_ (by repeat (first|(with_reducible first|exact HB.out|apply l1_|apply l2_|apply l3_|refine l4_ ?_ GE201.out|refine l4_ ?_ GE202.out)|exact HB.out))) : w.heap.size ≤ gb203));have n5_:=n4_;have n6_:=m_ ((by rw [hg];exact Nat.ne_of_lt (blk_lt (g:=gb201) (o:=.cells #[.string a0_0,.slice A0_1 l0_1.length c0_1] 24 (0,0)) (by (with_reducible repeat first|apply b1_|apply b2_|apply b3_);exact BK201.out)) : gb201 ≠ gb203));have n7_:=m_ n6_.out.symm;have n8_:=m_ ((by rw [hg];exact Nat.ne_of_lt (blk_lt (g:=gb202) (o:=.cells #[.string (⟨#[]⟩ : ByteArray),.slice none 0 0] 29 (0,0)) (by (with_reducible repeat first|apply b1_|apply b2_|apply b3_);exact BK202.out)) : gb202 ≠ gb203));have n9_:=m_ ((by rw [hg];exact Nat.ne_of_gt (blk_lt (g:=gb202) (o:=.cells #[.string (⟨#[]⟩ : ByteArray),.slice none 0 0] 29 (0,0)) (by (with_reducible repeat first|apply b1_|apply b2_|apply b3_);exact BK202.out)) : gb203 ≠ gb202));clear BK201;clear BK202;clear HB;have BK201:=n0_;have BK202:=n1_;have HB:=n2_;have BK203:=n3_;have GW203:=n4_;have GE203:=n5_;have NB201_203:=n6_;have NB203_201:=n7_;have NB202_203:=n8_;have NB203_202:=n9_;clear n0_ n1_ n2_ n3_ n4_ n5_ n6_ n7_ n8_ n9_;clear hb hbox hg;have hnb6:=NB201_202.out;have hnc6:=NB202_201.out;have hnb7:=NB201_203.out;have hnc7:=NB203_201.out;have hcz8_0 : w5.cell? ⟨gb201,0,none⟩ = some (.string a0_0):=(c_ BK201.out 0).trans rfl;have hcz8_1 : w5.cell? ⟨gb201,1,none⟩ = some (.slice A0_1 l0_1.length c0_1):=(c_ BK201.out 1).trans rfl;have hfz8_0:=f_ BK201.out 0;have hfz8_1:=f_ BK201.out 1;have hnb9:=NB203_202.out;have hnc9:=NB202_203.out;have hcz10_0 : w5.cell? ⟨gb203,0,none⟩ = some (.string (⟨#[]⟩ : ByteArray)):=(c_ BK203.out 0).trans rfl;have hcz10_1 : w5.cell? ⟨gb203,1,none⟩ = some (.slice none 0 0):=(c_ BK203.out 1).trans rfl;have hfz10_0:=f_ BK203.out 0;have hfz10_1:=f_ BK203.out 1)|((with_reducible refine gate_callee (f:=24) rfl ?_);refine goesL_ (some 9) rfl rfl Tryd.func24 (by kernel_rfl) rfl #[.slice A0_1 l0_1.length c0_1] rfl (by (try simp only [List.map_toArray,List.map_cons,List.map_nil]);first|done|rfl|(simp only [List.length_drop,List.length_take];rfl)) ?_;(with_reducible refine (laws_toPartS.calls k _ _ l0_1 t204 _ ?side1 ?side2 A2.out).mono ?_);(case side1=>exact Kd.C_below HR0_1.out (by repeat (first|(with_reducible first|exact HB.out|apply l1_|apply l2_|apply l3_|refine l4_ ?_ GE201.out|refine l4_ ?_ GE202.out|refine l4_ ?_ GE203.out)|exact HB.out)));(case side2=>exact HC0_1.out);rintro e w11 ⟨v205,rfl,ho0,hb⟩;refine ⟨_,rfl,?_⟩;have n0_:=m_ (Kd.R_lower ho0 (l6_ (by repeat (first|(with_reducible first|exact HB.out|apply l1_|apply l2_|apply l3_|refine l4_ ?_ GE201.out|refine l4_ ?_ GE202.out|refine l4_ ?_ GE203.out)|exact HB.out))));have n1_:=m_ (blk_below (g:=gb201) (o:=.cells #[.string a0_0,.slice A0_1 l0_1.length c0_1] 24 (0,0)) (by (with_reducible repeat first|apply b1_|apply b2_|apply b3_);refine b4_ ?_ NB201_203.out _;(with_reducible repeat first|apply b1_|apply b2_|apply b3_);exact BK201.out) hb);have n2_:=m_ (blk_below (g:=gb202) (o:=.cells #[.string (⟨#[]⟩ : ByteArray),.slice none 0 0] 29 (0,0)) (by (with_reducible repeat first|apply b1_|apply b2_|apply b3_);refine b4_ ?_ NB202_203.out _;(with_reducible repeat first|apply b1_|apply b2_|apply b3_);exact BK202.out) hb);have n3_:=m_ (blk_below (g:=gb203) (o:=.cells #[.string a0_0,.slice none 0 0] 29 (0,0)) (by (with_reducible repeat first|apply b1_|apply b2_|apply b3_);refine blk_put (cs:=#[.string (⟨#[]⟩ : ByteArray),.slice none 0 0]) ?_ 0 _ rfl;(with_reducible repeat first|apply b1_|apply b2_|apply b3_);exact BK203.out) hb);have n4_:=m_ (l5_ (by repeat (first|(with_reducible first|exact HB.out|apply l1_|apply l2_|apply l3_|refine l4_ ?_ GE201.out|refine l4_ ?_ GE202.out|refine l4_ ?_ GE203.out)|exact HB.out)) hb);clear BK201;clear BK202;clear BK203;clear HB;have HO206:=n0_;have BK201:=n1_;have BK202:=n2_;have BK203:=n3_;have HB:=n4_;clear n0_ n1_ n2_ n3_ n4_;(try clear hb);(try clear hb2);(try clear hk);(try clear hi);(try clear ho0);obtain ⟨Ao12,co12,eo12⟩:=Kd.R_slice HO206.out;subst eo12;have hcz13_0 : w11.cell? ⟨gb203,0,none⟩ = some (.string a0_0):=(c_ BK203.out 0).trans rfl;have hcz13_1 : w11.cell? ⟨gb203,1,none⟩ = some (.slice none 0 0):=(c_ BK203.out 1).trans rfl;have hfz13_0:=f_ BK203.out 0;have hfz13_1:=f_ BK203.out 1;have hcz14_0 : w11.cell? ⟨gb202,0,none⟩ = some (.string (⟨#[]⟩ : ByteArray)):=(c_ BK202.out 0).trans rfl;have hcz14_1 : w11.cell? ⟨gb202,1,none⟩ = some (.slice none 0 0):=(c_ BK202.out 1).trans rfl;have hfz14_0:=f_ BK202.out 0;have hfz14_1:=f_ BK202.out 1))
 refine bodyPost_ret (results_cell_row rfl _ _ gb202 29 #[.string a0_0,.slice Ao12 t204.length co12] (0,0) _ rfl (by (with_reducible repeat first|apply b1_|apply b2_|apply b3_);refine blk_put (cs:=#[.string a0_0,.slice none 0 0]) ?_ 1 _ rfl;(with_reducible repeat first|apply b1_|apply b2_|apply b3_);refine blk_put (cs:=#[.string (⟨#[]⟩ : ByteArray),.slice none 0 0]) ?_ 0 _ rfl;(with_reducible repeat first|apply b1_|apply b2_|apply b3_);refine b4_ ?_ NB202_203.out _;(with_reducible repeat first|apply b1_|apply b2_|apply b3_);exact BK202.out) Tryd.underlying29 rfl (by kernel_rfl)) rfl ?_
 exact ⟨_,by first|rfl|(simp [e1_,e2_] <;> rfl)|(simp [*,e1_,e2_] <;> rfl)|(simp [e1_,e2_,pk_empty1,pk_empty2];done)|(simp [*,e1_,e2_,pk_empty1,pk_empty2];done),by (with_reducible repeat (first|apply Kd.R_alloc|apply Kd.R_drewN|apply Kd.R_drew));exact Kd.R_mono (Kd.R_far (p:=⟨gb202,1,none⟩) (Kd.R_far (p:=⟨gb202,0,none⟩) (Kd.R_far (p:=⟨gb203,1,none⟩) (Kd.R_types (Kd.R_types HO206.out BK203.out (by decide)) BK202.out (by decide)) (fun _ hk=>hk.1.2) (.slice Ao12 t204.length co12)) (fun _ hk=>hk.2) (.string a0_0)) (fun _ hk=>hk.2) (.slice Ao12 t204.length co12)) (fun _ hk=>trivial),by repeat (first|(with_reducible first|exact HB.out|apply l1_|apply l2_|apply l3_|refine l4_ ?_ GE201.out|refine l4_ ?_ GE202.out|refine l4_ ?_ GE203.out)|exact HB.out)⟩

/-! ### laws_eqPart: function 48 -/
def laws_eqPart.f (a0_0 : Int) (a0_1 : ByteArray) (a1_0 : Int) (a1_1 : ByteArray) : Option (Bool) := if a0_0 = a1_0 then (if a0_1.toList = a1_1.toList then (some true) else (some false)) else (some false)
set_option maxHeartbeats 8000000 in
set_option maxRecDepth 100000 in
theorem laws_eqPart.calls (a0_0 : Int) (a0_1 : ByteArray) (a1_0 : Int) (a1_1 : ByteArray) (r : Bool) (w : World) (h : laws_eqPart.f a0_0 a0_1 a1_0 a1_1 = some r) :
  Calls Tryd.prog 48 #[.agg #[.int .i64 a0_0,.string a0_1],.agg #[.int .i64 a1_0,.string a1_1]] w fun e w'=>e = .returned (.bool r) ∧ Below w.heap.size w w':=by
 have hu41:=Tryd.underlying41
 have HB:=m_ (Below.refl w.heap.size w)
 have H : (if a0_0 = a1_0 then (if a0_1.toList = a1_1.toList then (some true) else (some false)) else (some false)) = some r:=h
 clear h
 by_cases c3 : a0_0 = a1_0
 ·rw [if_pos c3] at H
  have c3b0 : (a0_0 == a1_0) = true:=beq_iff_eq.mpr c3
  have c3b1 : (a0_0 != a1_0) = false:=bne_eq_false_iff_eq.mpr c3
  clear c3
  by_cases c4 : a0_1.toList = a1_1.toList
  ·rw [if_pos c4] at H
   have c4b0 : (a0_1.toList == a1_1.toList) = true:=beq_iff_eq.mpr c4
   have c4b1 : (a0_1.toList != a1_1.toList) = false:=bne_eq_false_iff_eq.mpr c4
   clear c4
   obtain rfl:=Option.some.inj H
   go_enter Tryd.func48,Tryd.ntmps48
   go_wp2_with (first|((with_reducible refine gate_dst (N:=2) rfl ?_);refine box_event ?hg (N:=2) ?hd (cs:=#[.int .i64 a0_0,.string a0_1]) (t:=41) ?hr ?_;(case hd=>rfl);(case hg=>rfl);(case hr=>first|(go_simp;done)|(go_simp;rfl));intro gb292 hg w5 hbox hb;have n0_:=m_ (l5_ (by repeat (first|(with_reducible first|exact HB.out|apply l1_|apply l2_|apply l3_)|exact HB.out)) hb);have n1_:=m_ (hbox);have n2_:=m_ ((by rw [hg];exact (l6_ (by repeat (first|(with_reducible first|exact HB.out|apply l1_|apply l2_|apply l3_)|exact HB.out))) : w.heap.size ≤ gb292));have n3_:=m_ ((by rw [hg];exact (l6_ (by repeat (first|(with_reducible first|exact HB.out|apply l1_|apply l2_|apply l3_)|exact HB.out))) : w.heap.size ≤ gb292));clear HB;have HB:=n0_;have BK292:=n1_;have GW292:=n2_;have GE292:=n3_;clear n0_ n1_ n2_ n3_;clear hb hbox hg)|((with_reducible refine gate_dst (N:=3) rfl ?_);refine box_event ?hg (N:=3) ?hd (cs:=#[.int .i64 a1_0,.string a1_1]) (t:=41) ?hr ?_;(case hd=>rfl);(case hg=>rfl);(case hr=>first|(go_simp;done)|(go_simp;rfl));intro gb293 hg w6 hbox hb;have n0_:=m_ (blk_below (g:=gb292) (o:=.cells #[.int .i64 a0_0,.string a0_1] 41 (0,0)) (by (with_reducible repeat first|apply b1_|apply b2_|apply b3_);exact BK292.out) hb);have n1_:=m_ (l5_ (by repeat (first|(with_reducible first|exact HB.out|apply l1_|apply l2_|apply l3_|refine l4_ ?_ GE292.out)|exact HB.out)) hb);have n2_:=m_ (hbox);have n3_:=m_ ((by rw [hg];exact (l6_ (by repeat (first|(with_reducible first|exact HB.out|apply l1_|apply l2_|apply l3_|refine l4_ ?_ GE292.out)|exact HB.out))) : w.heap.size ≤ gb293));have n4_:=n3_;have n5_:=m_ ((by rw [hg];exact Nat.ne_of_lt (blk_lt (g:=gb292) (o:=.cells #[.int .i64 a0_0,.string a0_1] 41 (0,0)) (by (with_reducible repeat first|apply b1_|apply b2_|apply b3_);exact BK292.out)) : gb292 ≠ gb293));have n6_:=m_ n5_.out.symm;clear BK292;clear HB;have BK292:=n0_;have HB:=n1_;have BK293:=n2_;have GW293:=n3_;have GE293:=n4_;have NB292_293:=n5_;have NB293_292:=n6_;clear n0_ n1_ n2_ n3_ n4_ n5_ n6_;clear hb hbox hg;have hnb7:=NB292_293.out;have hnc7:=NB293_292.out;have hcz8_0 : w6.cell? ⟨gb292,0,none⟩ = some (.int .i64 a0_0):=(c_ BK292.out 0).trans rfl;have hcz8_1 : w6.cell? ⟨gb292,1,none⟩ = some (.string a0_1):=(c_ BK292.out 1).trans rfl;have hcz9_0 : w6.cell? ⟨gb293,0,none⟩ = some (.int .i64 a1_0):=(c_ BK293.out 0).trans rfl;have hcz9_1 : w6.cell? ⟨gb293,1,none⟩ = some (.string a1_1):=(c_ BK293.out 1).trans rfl))
   go_ret
   exact ⟨by first|rfl|(simp [e1_,e2_] <;> rfl)|(simp [*,e1_,e2_] <;> rfl)|(simp [e1_,e2_,pk_empty1,pk_empty2];done)|(simp [*,e1_,e2_,pk_empty1,pk_empty2];done),by repeat (first|(with_reducible first|exact HB.out|apply l1_|apply l2_|apply l3_|refine l4_ ?_ GE292.out|refine l4_ ?_ GE293.out)|exact HB.out)⟩
  ·rw [if_neg c4] at H
   have c4b0 : (a0_1.toList == a1_1.toList) = false:=beq_eq_false_iff_ne.mpr c4
   have c4b1 : (a0_1.toList != a1_1.toList) = true:=bne_iff_ne.mpr c4
   obtain rfl:=Option.some.inj H
   go_enter Tryd.func48,Tryd.ntmps48
   go_wp2_with (first|((with_reducible refine gate_dst (N:=2) rfl ?_);refine box_event ?hg (N:=2) ?hd (cs:=#[.int .i64 a0_0,.string a0_1]) (t:=41) ?hr ?_;(case hd=>rfl);(case hg=>rfl);(case hr=>first|(go_simp;done)|(go_simp;rfl));intro gb292 hg w10 hbox hb;have n0_:=m_ (l5_ (by repeat (first|(with_reducible first|exact HB.out|apply l1_|apply l2_|apply l3_)|exact HB.out)) hb);have n1_:=m_ (hbox);have n2_:=m_ ((by rw [hg];exact (l6_ (by repeat (first|(with_reducible first|exact HB.out|apply l1_|apply l2_|apply l3_)|exact HB.out))) : w.heap.size ≤ gb292));have n3_:=m_ ((by rw [hg];exact (l6_ (by repeat (first|(with_reducible first|exact HB.out|apply l1_|apply l2_|apply l3_)|exact HB.out))) : w.heap.size ≤ gb292));clear HB;have HB:=n0_;have BK292:=n1_;have GW292:=n2_;have GE292:=n3_;clear n0_ n1_ n2_ n3_;clear hb hbox hg)|((with_reducible refine gate_dst (N:=3) rfl ?_);refine box_event ?hg (N:=3) ?hd (cs:=#[.int .i64 a1_0,.string a1_1]) (t:=41) ?hr ?_;(case hd=>rfl);(case hg=>rfl);(case hr=>first|(go_simp;done)|(go_simp;rfl));intro gb293 hg w11 hbox hb;have n0_:=m_ (blk_below (g:=gb292) (o:=.cells #[.int .i64 a0_0,.string a0_1] 41 (0,0)) (by (with_reducible repeat first|apply b1_|apply b2_|apply b3_);exact BK292.out) hb);have n1_:=m_ (l5_ (by repeat (first|(with_reducible first|exact HB.out|apply l1_|apply l2_|apply l3_|refine l4_ ?_ GE292.out)|exact HB.out)) hb);have n2_:=m_ (hbox);have n3_:=m_ ((by rw [hg];exact (l6_ (by repeat (first|(with_reducible first|exact HB.out|apply l1_|apply l2_|apply l3_|refine l4_ ?_ GE292.out)|exact HB.out))) : w.heap.size ≤ gb293));have n4_:=n3_;have n5_:=m_ ((by rw [hg];exact Nat.ne_of_lt (blk_lt (g:=gb292) (o:=.cells #[.int .i64 a0_0,.string a0_1] 41 (0,0)) (by (with_reducible repeat first|apply b1_|apply b2_|apply b3_);exact BK292.out)) : gb292 ≠ gb293));have n6_:=m_ n5_.out.symm;clear BK292;clear HB;have BK292:=n0_;have HB:=n1_;have BK293:=n2_;have GW293:=n3_;have GE293:=n4_;have NB292_293:=n5_;have NB293_292:=n6_;clear n0_ n1_ n2_ n3_ n4_ n5_ n6_;clear hb hbox hg;have hnb12:=NB292_293.out;have hnc12:=NB293_292.out;have hcz13_0 : w11.cell? ⟨gb292,0,none⟩ = some (.int .i64 a0_0):=(c_ BK292.out 0).trans rfl;have hcz13_1 : w11.cell? ⟨gb292,1,none⟩ = some (.string a0_1):=(c_ BK292.out 1).trans rfl;have hcz14_0 : w11.cell? ⟨gb293,0,none⟩ = some (.int .i64 a1_0):=(c_ BK293.out 0).trans rfl;have hcz14_1 : w11.cell? ⟨gb293,1,none⟩ = some (.string a1_1):=(c_ BK293.out 1).trans rfl))
   go_ret
   exact ⟨by first|rfl|(simp [e1_,e2_] <;> rfl)|(simp [*,e1_,e2_] <;> rfl)|(simp [e1_,e2_,pk_empty1,pk_empty2];done)|(simp [*,e1_,e2_,pk_empty1,pk_empty2];done),by repeat (first|(with_reducible first|exact HB.out|apply l1_|apply l2_|apply l3_|refine l4_ ?_ GE292.out|refine l4_ ?_ GE293.out)|exact HB.out)⟩
 ·rw [if_neg c3] at H
  have c3b0 : (a0_0 == a1_0) = false:=beq_eq_false_iff_ne.mpr c3
  have c3b1 : (a0_0 != a1_0) = true:=bne_iff_ne.mpr c3
  obtain rfl:=Option.some.inj H
  go_enter Tryd.func48,Tryd.ntmps48
  go_wp2_with (first|((with_reducible refine gate_dst (N:=2) rfl ?_);refine box_event ?hg (N:=2) ?hd (cs:=#[.int .i64 a0_0,.string a0_1]) (t:=41) ?hr ?_;(case hd=>rfl);(case hg=>rfl);(case hr=>first|(go_simp;done)|(go_simp;rfl));intro gb292 hg w15 hbox hb;have n0_:=m_ (l5_ (by repeat (first|(with_reducible first|exact HB.out|apply l1_|apply l2_|apply l3_)|exact HB.out)) hb);have n1_:=m_ (hbox);have n2_:=m_ ((by rw [hg];exact (l6_ (by repeat (first|(with_reducible first|exact HB.out|apply l1_|apply l2_|apply l3_)|exact HB.out))) : w.heap.size ≤ gb292));have n3_:=m_ ((by rw [hg];exact (l6_ (by repeat (first|(with_reducible first|exact HB.out|apply l1_|apply l2_|apply l3_)|exact HB.out))) : w.heap.size ≤ gb292));clear HB;have HB:=n0_;have BK292:=n1_;have GW292:=n2_;have GE292:=n3_;clear n0_ n1_ n2_ n3_;clear hb hbox hg)|((with_reducible refine gate_dst (N:=3) rfl ?_);refine box_event ?hg (N:=3) ?hd (cs:=#[.int .i64 a1_0,.string a1_1]) (t:=41) ?hr ?_;(case hd=>rfl);(case hg=>rfl);(case hr=>first|(go_simp;done)|(go_simp;rfl));intro gb293 hg w16 hbox hb;have n0_:=m_ (blk_below (g:=gb292) (o:=.cells #[.int .i64 a0_0,.string a0_1] 41 (0,0)) (by (with_reducible repeat first|apply b1_|apply b2_|apply b3_);exact BK292.out) hb);have n1_:=m_ (l5_ (by repeat (first|(with_reducible first|exact HB.out|apply l1_|apply l2_|apply l3_|refine l4_ ?_ GE292.out)|exact HB.out)) hb);have n2_:=m_ (hbox);have n3_:=m_ ((by rw [hg];exact (l6_ (by repeat (first|(with_reducible first|exact HB.out|apply l1_|apply l2_|apply l3_|refine l4_ ?_ GE292.out)|exact HB.out))) : w.heap.size ≤ gb293));have n4_:=n3_;have n5_:=m_ ((by rw [hg];exact Nat.ne_of_lt (blk_lt (g:=gb292) (o:=.cells #[.int .i64 a0_0,.string a0_1] 41 (0,0)) (by (with_reducible repeat first|apply b1_|apply b2_|apply b3_);exact BK292.out)) : gb292 ≠ gb293));have n6_:=m_ n5_.out.symm;clear BK292;clear HB;have BK292:=n0_;have HB:=n1_;have BK293:=n2_;have GW293:=n3_;have GE293:=n4_;have NB292_293:=n5_;have NB293_292:=n6_;clear n0_ n1_ n2_ n3_ n4_ n5_ n6_;clear hb hbox hg;have hnb17:=NB292_293.out;have hnc17:=NB293_292.out;have hcz18_0 : w16.cell? ⟨gb292,0,none⟩ = some (.int .i64 a0_0):=(c_ BK292.out 0).trans rfl;have hcz18_1 : w16.cell? ⟨gb292,1,none⟩ = some (.string a0_1):=(c_ BK292.out 1).trans rfl;have hcz19_0 : w16.cell? ⟨gb293,0,none⟩ = some (.int .i64 a1_0):=(c_ BK293.out 0).trans rfl;have hcz19_1 : w16.cell? ⟨gb293,1,none⟩ = some (.string a1_1):=(c_ BK293.out 1).trans rfl))
  go_ret
  exact ⟨by first|rfl|(simp [e1_,e2_] <;> rfl)|(simp [*,e1_,e2_] <;> rfl)|(simp [e1_,e2_,pk_empty1,pk_empty2];done)|(simp [*,e1_,e2_,pk_empty1,pk_empty2];done),by repeat (first|(with_reducible first|exact HB.out|apply l1_|apply l2_|apply l3_|refine l4_ ?_ GE292.out|refine l4_ ?_ GE293.out)|exact HB.out)⟩

/-! ### laws_eqPartS: function 30 -/
def laws_eqPartS.l0 : Nat → List (S41) → List (S41) → Int → Option (Bool)
 | 0, _, _, _ => none
 | k + 1, x0, x1, x5 => if x5 < (x0.length : Int) then (if 0 ≤ x5 then (if x5 < (x1.length : Int) then ((laws_eqPart.f ((rd_T41 x0 x5).f0) ((rd_T41 x0 x5).f1) ((rd_T41 x1 x5).f0) ((rd_T41 x1 x5).f1)).bind fun t296 => (if t296 = true then (laws_eqPartS.l0 k x0 x1 (wrap64 (x5 + 1))) else (some false))) else (none)) else (none)) else (some true)
def laws_eqPartS.f (k : Nat) (l0 : List (S41)) (l1 : List (S41)) : Option (Bool) := if (l0.length : Int) = (l1.length : Int) then (laws_eqPartS.l0 k l0 l1 0) else (some false)
theorem laws_eqPartS.mono_l : ∀ k, (∀ y0 y1 y2, LeO (laws_eqPartS.l0 k y0 y1 y2) (laws_eqPartS.l0 (k + 1) y0 y1 y2))
 | 0 => fun _ _ _ r h => by simp [laws_eqPartS.l0] at h
 | k + 1 => by
  have ih0:=laws_eqPartS.mono_l k
  ·intro y0 y1 y2
   unfold laws_eqPartS.l0
   repeat' first
   | (with_reducible exact ih0 _ _ _)
   | (with_reducible exact LeO.refl _)
   | (with_reducible exact LeO.none _)
   | (with_reducible refine LeO.ite ?_ ?_)
   | (with_reducible refine LeO.bind ?_ (fun _ => ?_))
   | exact ih0 _ _ _
   | exact LeO.none _
   | refine LeO.ite ?_ ?_
   | refine LeO.bind ?_ (fun _ => ?_)
theorem laws_eqPartS.mono : ∀ a0 a1 k, LeO (laws_eqPartS.f k a0 a1) (laws_eqPartS.f (k + 1) a0 a1) := by
 intro a0 a1 k
 have ih0:=laws_eqPartS.mono_l k
 unfold laws_eqPartS.f
 repeat' first
   | (with_reducible exact ih0 _ _ _)
   | (with_reducible exact LeO.refl _)
   | (with_reducible exact LeO.none _)
   | (with_reducible refine LeO.ite ?_ ?_)
   | (with_reducible refine LeO.bind ?_ (fun _ => ?_))
   | exact ih0 _ _ _
   | exact LeO.none _
   | refine LeO.ite ?_ ?_
   | refine LeO.bind ?_ (fun _ => ?_)
def laws_eqPartS.T6 : Bool × List (List Nat × List Nat) := (true, [([], []), ([], []), ([0, 1], [0, 1]), ([2], [2]), ([], []), ([], []), ([4, 5], [4, 5]), ([6], [6]), ([3, 7], [3, 7]), ([8], [8])])
def laws_eqPartS.B6 : List Nat := [0, 0, 3, 7, 0, 0, 48, 112, 255, 511]
theorem laws_eqPartS.tab6 : rtab .any (opsOf Tryd.f30 6) = laws_eqPartS.T6 := by kernel_rfl
theorem laws_eqPartS.bits6 : waitsOk laws_eqPartS.T6.2 laws_eqPartS.B6 = true := by kernel_rfl
set_option maxHeartbeats 8000000 in
set_option maxRecDepth 100000 in
theorem laws_eqPartS.calls (k : Nat) (A0 : Option Addr) (c0 : Nat) (l0 : List (S41)) (A1 : Option Addr) (c1 : Nat) (l1 : List (S41)) (r : Bool) (w : World) (hr0 : Kd.C k41 w A0 l0.length l0) (hc0 : l0.length ≤ c0) (hr1 : Kd.C k41 w A1 l1.length l1) (hc1 : l1.length ≤ c1) (h : laws_eqPartS.f k l0 l1 = some r) :
  Calls Tryd.prog 30 #[.slice A0 l0.length c0,.slice A1 l1.length c1] w fun e w'=>e = .returned (.bool r) ∧ Below w.heap.size w w':=by
 have hu41:=Tryd.underlying41
 have HR0:=m_ hr0
 have HC0:=m_ hc0
 clear hr0 hc0
 have HR1:=m_ hr1
 have HC1:=m_ hc1
 clear hr1 hc1
 have HB:=m_ (Below.refl w.heap.size w)
 have H : (if (l0.length : Int) = (l1.length : Int) then (laws_eqPartS.l0 k l0 l1 0) else (some false)) = some r:=h
 clear h
 by_cases c3 : (l0.length : Int) = (l1.length : Int)
 ·rw [if_pos c3] at H
  have c3b0 : ((l0.length : Int) == (l1.length : Int)) = true:=beq_iff_eq.mpr c3
  have c3b1 : ((l0.length : Int) != (l1.length : Int)) = false:=bne_eq_false_iff_eq.mpr c3
  have c3b2 : (l0.length == l1.length) = true:=by first|simpa using c3|(simp at c3 ⊢;omega)
  clear c3
  have H':=m_ H
  clear H
  go_enter Tryd.func30,Tryd.ntmps30
  go_wp2
  go_loopg [5] k (fun kq v5 w'=>∃ (x5_1 : Int),v5 = .int .i64 x5_1 ∧ Aside0 (laws_eqPartS.l0 kq l0 l1 x5_1 = some r) ∧ Aside0 (kq ≤ k) ∧ Aside0 (Below w.heap.size w w'))
  case atStart=>exact ⟨(0),(by first|rfl|(simp;done)|(simp [*];done)),H',⟨Nat.le_refl _⟩,⟨by repeat (first|(with_reducible first|exact HB.out|apply l1_|apply l2_|apply l3_)|exact HB.out)⟩⟩
  case round =>
   clear H'
   try clear c1
   try clear p2
   try clear c3
   try clear c3b0
   try clear c3b1
   try clear c3b2
   obtain ⟨x5_1,rfl,HA,HK1,HB⟩:=hrel
   cases gk with
   | zero => exact absurd HA.out (by simp [laws_eqPartS.l0])
   | succ k1 =>
    have H:=HA.out
    clear HA
    simp only [laws_eqPartS.l0] at H
    by_cases c4 : x5_1 < (l0.length : Int)
    ·rw [if_pos c4] at H
     have c4b0 : decide (x5_1 < (l0.length : Int)) = true:=decide_eq_true c4
     clear c4
     by_cases c5 : 0 ≤ x5_1
     ·rw [if_pos c5] at H
      have c5b0 : decide (0 ≤ x5_1) = true:=decide_eq_true c5
      clear c5
      by_cases c6 : x5_1 < (l1.length : Int)
      ·rw [if_pos c6] at H
       have c6b0 : decide (x5_1 < (l1.length : Int)) = true:=decide_eq_true c6
       clear c6
       replace H:=Option.bind_eq_some_iff.mp H
       obtain ⟨t296,A70,H⟩:=H
       replace H : (if t296 = true then (laws_eqPartS.l0 k1 l0 l1 (wrap64 (x5_1 + 1))) else (some false)) = some r:=H
       have A7:=m_ A70
       clear A70
       by_cases c8 : t296 = true
       ·subst c8
        have H1 : (laws_eqPartS.l0 k1 l0 l1 (wrap64 (x5_1 + 1))) = some r:=by rw [if_pos rfl] at H;exact H
        clear H
        have H:=H1
        clear H1
        have H':=m_ H
        clear H
        try go_wp2
        have n0_:=m_ (l3_ HB.out)
        clear HB
        have HB:=n0_
        clear n0_
        have p294 : 0 ≤ (x5_1 : Int):=of_decide_eq_true (by first|(with_reducible assumption)|assumption)
        have q294 : x5_1 < (l0.length : Int):=of_decide_eq_true (by first|(with_reducible assumption)|assumption)
        obtain ⟨ad294,e294,hx294_0,hx294_1⟩:=at_T41 HR0.out x5_1 p294 q294
        have hw294_1:=hx294_1
        have hw294_0:=hx294_0
        cases e294
        replace hx294_0:=(HB.out.cell (World.block_lt_of_cell? w _ hx294_0)).trans hx294_0
        replace hx294_1:=(HB.out.cell (World.block_lt_of_cell? w _ hx294_1)).trans hx294_1
        replace p294:=eq_true p294
        replace q294:=eq_true q294
        have p295 : 0 ≤ (x5_1 : Int):=of_decide_eq_true (by first|(with_reducible assumption)|assumption)
        have q295 : x5_1 < (l1.length : Int):=of_decide_eq_true (by first|(with_reducible assumption)|assumption)
        obtain ⟨ad295,e295,hx295_0,hx295_1⟩:=at_T41 HR1.out x5_1 p295 q295
        have hw295_1:=hx295_1
        have hw295_0:=hx295_0
        cases e295
        replace hx295_0:=(HB.out.cell (World.block_lt_of_cell? w _ hx295_0)).trans hx295_0
        replace hx295_1:=(HB.out.cell (World.block_lt_of_cell? w _ hx295_1)).trans hx295_1
        replace p295:=eq_true p295
        replace q295:=eq_true q295
        refine start_ (n:=10) (S:=fun w'=>w'.cell? (ad294.add ((x5_1).toNat * 2)) = some (.int .i64 ((rd_T41 l0 x5_1).f0)) ∧ w'.cell? ⟨(ad294.add ((x5_1).toNat * 2)).block,(ad294.add ((x5_1).toNat * 2)).off + 1,none⟩ = some (.string ((rd_T41 l0 x5_1).f1)) ∧ w'.cell? (ad295.add ((x5_1).toNat * 2)) = some (.int .i64 ((rd_T41 l1 x5_1).f0)) ∧ w'.cell? ⟨(ad295.add ((x5_1).toNat * 2)).block,(ad295.add ((x5_1).toNat * 2)).off + 1,none⟩ = some (.string ((rd_T41 l1 x5_1).f1))) (ds:=[]) #[false,false,false,false,false,false,false,false,false,false] (by kernel_rfl) rfl rfl ⟨((HB.out.cell (World.block_lt_of_cell? w _ hw294_0)).trans hw294_0),((HB.out.cell (World.block_lt_of_cell? w _ hw294_1)).trans hw294_1),((HB.out.cell (World.block_lt_of_cell? w _ hw295_0)).trans hw295_0),((HB.out.cell (World.block_lt_of_cell? w _ hw295_1)).trans hw295_1)⟩ (fun hHeld=>?_);refine with_tabW laws_eqPartS.tab6 laws_eqPartS.bits6 (fun HT_ HW_=>?_)
        generalize wr.drew = w9 at HB hx294_0 hx294_1 hx295_0 hx295_1 hHeld ⊢
        refine pure_ (i:=0) (N:=some 17) (v:=?_) (a':=?_) #[true,false,false,false,false,false,false,false,false,false] rfl rfl (any_of HT_.out (by kernel_rfl)) (fun _ _ _ h=>h) (Or.inl ⟨by rfl,?_⟩) ?_ ?_
        rotate_left
        ·intro w'
         go_simp
         with_reducible rfl
        rotate_left
        ·simp only [Act.put,s1_,s2_,s3_,i64_w,i32_w]
         rfl
        refine pure_ (i:=1) (N:=some 18) (v:=?_) (a':=?_) #[true,true,false,false,false,false,false,false,false,false] rfl rfl (any_of HT_.out (by kernel_rfl)) (fun _ _ _ h=>h) (Or.inl ⟨by rfl,?_⟩) ?_ ?_
        rotate_left
        ·intro w'
         go_simp
         with_reducible rfl
        rotate_left
        ·simp only [Act.put,s1_,s2_,s3_,i64_w,i32_w]
         rfl
        refine pure_ (i:=2) (N:=some 19) (v:=?_) (a':=?_) #[true,true,true,false,false,false,false,false,false,false] rfl rfl (any_of HT_.out (by kernel_rfl)) (fun _ _ _ h=>h) (Or.inl ⟨by rfl,?_⟩) ?_ ?_
        rotate_left
        ·intro w'
         go_simp
         with_reducible rfl
        rotate_left
        ·simp only [Act.put,s1_,s2_,s3_,i64_w,i32_w]
         rfl
        refine pure_ (i:=4) (N:=some 21) (v:=?_) (a':=?_) #[true,true,true,false,true,false,false,false,false,false] rfl rfl (any_of HT_.out (by kernel_rfl)) (fun _ _ _ h=>h) (Or.inl ⟨by rfl,?_⟩) ?_ ?_
        rotate_left
        ·intro w'
         go_simp
         with_reducible rfl
        rotate_left
        ·simp only [Act.put,s1_,s2_,s3_,i64_w,i32_w]
         rfl
        refine pure_ (i:=5) (N:=some 22) (v:=?_) (a':=?_) #[true,true,true,false,true,true,false,false,false,false] rfl rfl (any_of HT_.out (by kernel_rfl)) (fun _ _ _ h=>h) (Or.inl ⟨by rfl,?_⟩) ?_ ?_
        rotate_left
        ·intro w'
         go_simp
         with_reducible rfl
        rotate_left
        ·simp only [Act.put,s1_,s2_,s3_,i64_w,i32_w]
         rfl
        refine pure_ (i:=6) (N:=some 23) (v:=?_) (a':=?_) #[true,true,true,false,true,true,true,false,false,false] rfl rfl (any_of HT_.out (by kernel_rfl)) (fun _ _ _ h=>h) (Or.inl ⟨by rfl,?_⟩) ?_ ?_
        rotate_left
        ·intro w'
         go_simp
         with_reducible rfl
        rotate_left
        ·simp only [Act.put,s1_,s2_,s3_,i64_w,i32_w]
         rfl
        refine take_ (i:=3) (N:=some 20) (v:=?_) (a':=?_) #[true,true,true,true,true,true,true,false,false,false] rfl rfl (take_ofW HT_.out HW_.out (by kernel_rfl)) (fun _ _ _ h=>h) (Or.inl ⟨by rfl,?_⟩) hHeld ?_ ?_
        rotate_left
        ·rintro w' ⟨s0,s1,s2,s3⟩
         go_simp
         with_reducible rfl
        rotate_left
        ·simp only [Act.put,s1_,s2_,s3_,i64_w,i32_w]
         rfl
        refine take_ (i:=7) (N:=some 24) (v:=?_) (a':=?_) #[true,true,true,true,true,true,true,true,false,false] rfl rfl (take_ofW HT_.out HW_.out (by kernel_rfl)) (fun _ _ _ h=>h) (Or.inl ⟨by rfl,?_⟩) hHeld ?_ ?_
        rotate_left
        ·rintro w' ⟨s0,s1,s2,s3⟩
         go_simp
         with_reducible rfl
        rotate_left
        ·simp only [Act.put,s1_,s2_,s3_,i64_w,i32_w]
         rfl
        refine one_ (i:=8) (N:=some 25) #[true,true,true,true,true,true,true,true,true,false] rfl rfl (one_of HT_.out (by kernel_rfl)) (by decide) (fun K hK=>?_)
        refine goes_ Tryd.func48 (by kernel_rfl) rfl #[.agg #[.int .i64 ((rd_T41 l0 x5_1).f0),.string ((rd_T41 l0 x5_1).f1)],.agg #[.int .i64 ((rd_T41 l1 x5_1).f0),.string ((rd_T41 l1 x5_1).f1)]] (by rfl) rfl rfl (by (try simp only [List.map_toArray,List.map_cons,List.map_nil]);first|done|rfl|(simp only [List.length_drop,List.length_take];rfl)) ?_
        with_reducible refine (laws_eqPart.calls ((rd_T41 l0 x5_1).f0) ((rd_T41 l0 x5_1).f1) ((rd_T41 l1 x5_1).f0) ((rd_T41 l1 x5_1).f1) true _ A7.out).mono ?_
        rintro e w10 ⟨rfl,hb⟩
        refine ⟨_,rfl,?_⟩
        have n0_:=m_ (l5_ (by repeat (first|(with_reducible first|exact HB.out|apply l1_|apply l2_|apply l3_)|exact HB.out)) hb)
        clear HB
        have HB:=n0_
        clear n0_
        (try clear hb)
        (try clear hb2)
        (try clear hk)
        (try clear hi)
        refine hK.out _ _ ⟨((HB.out.cell (World.block_lt_of_cell? w _ hw294_0)).trans hw294_0),((HB.out.cell (World.block_lt_of_cell? w _ hw294_1)).trans hw294_1),((HB.out.cell (World.block_lt_of_cell? w _ hw295_0)).trans hw295_0),((HB.out.cell (World.block_lt_of_cell? w _ hw295_1)).trans hw295_1)⟩ (fun hHeld=>?_)
        clear hK K
        refine norm_ (a':=?_) ?_ ?_
        rotate_left
        ·show Act.put _ (some 25) _ = _
         simp only [Act.put,s1_,s2_,s3_,i64_w,i32_w]
         rfl
        refine pure_ (i:=9) (N:=some 26) (v:=?_) (a':=?_) #[true,true,true,true,true,true,true,true,true,true] rfl rfl (any_of HT_.out (by kernel_rfl)) (fun _ _ _ h=>h) (Or.inl ⟨by rfl,?_⟩) ?_ ?_
        rotate_left
        ·intro w'
         go_simp
         with_reducible rfl
        rotate_left
        ·simp only [Act.put,s1_,s2_,s3_,i64_w,i32_w]
         rfl
        refine done_ (done_of HT_.out (by kernel_rfl)) ?_
        try go_wp2
        go_roundg k1
        case measure=>have:=HK1.out;omega
        case rel=>exact ⟨(wrap64 (x5_1 + 1)),(by first|rfl|(simp;done)|(simp [*];done)),H',⟨by have:=HK1.out;omega⟩,⟨by repeat (first|(with_reducible first|exact HB.out|apply l1_|apply l2_|apply l3_)|exact HB.out)⟩⟩
       ·replace c8:=Bool.eq_false_iff.mpr c8
        subst c8
        have H1 : (some false) = some r:=by rw [if_neg (show ¬ (false = true) by decide)] at H;exact H
        clear H
        have H:=H1
        clear H1
        obtain rfl:=Option.some.inj H
        try go_wp2
        have n0_:=m_ (l3_ HB.out)
        clear HB
        have HB:=n0_
        clear n0_
        have p294 : 0 ≤ (x5_1 : Int):=of_decide_eq_true (by first|(with_reducible assumption)|assumption)
        have q294 : x5_1 < (l0.length : Int):=of_decide_eq_true (by first|(with_reducible assumption)|assumption)
        obtain ⟨ad294,e294,hx294_0,hx294_1⟩:=at_T41 HR0.out x5_1 p294 q294
        have hw294_1:=hx294_1
        have hw294_0:=hx294_0
        cases e294
        replace hx294_0:=(HB.out.cell (World.block_lt_of_cell? w _ hx294_0)).trans hx294_0
        replace hx294_1:=(HB.out.cell (World.block_lt_of_cell? w _ hx294_1)).trans hx294_1
        replace p294:=eq_true p294
        replace q294:=eq_true q294
        have p295 : 0 ≤ (x5_1 : Int):=of_decide_eq_true (by first|(with_reducible assumption)|assumption)
        have q295 : x5_1 < (l1.length : Int):=of_decide_eq_true (by first|(with_reducible assumption)|assumption)
        obtain ⟨ad295,e295,hx295_0,hx295_1⟩:=at_T41 HR1.out x5_1 p295 q295
        have hw295_1:=hx295_1
        have hw295_0:=hx295_0
        cases e295
        replace hx295_0:=(HB.out.cell (World.block_lt_of_cell? w _ hx295_0)).trans hx295_0
        replace hx295_1:=(HB.out.cell (World.block_lt_of_cell? w _ hx295_1)).trans hx295_1
        replace p295:=eq_true p295
        replace q295:=eq_true q295
        refine start_ (n:=10) (S:=fun w'=>w'.cell? (ad294.add ((x5_1).toNat * 2)) = some (.int .i64 ((rd_T41 l0 x5_1).f0)) ∧ w'.cell? ⟨(ad294.add ((x5_1).toNat * 2)).block,(ad294.add ((x5_1).toNat * 2)).off + 1,none⟩ = some (.string ((rd_T41 l0 x5_1).f1)) ∧ w'.cell? (ad295.add ((x5_1).toNat * 2)) = some (.int .i64 ((rd_T41 l1 x5_1).f0)) ∧ w'.cell? ⟨(ad295.add ((x5_1).toNat * 2)).block,(ad295.add ((x5_1).toNat * 2)).off + 1,none⟩ = some (.string ((rd_T41 l1 x5_1).f1))) (ds:=[]) #[false,false,false,false,false,false,false,false,false,false] (by kernel_rfl) rfl rfl ⟨((HB.out.cell (World.block_lt_of_cell? w _ hw294_0)).trans hw294_0),((HB.out.cell (World.block_lt_of_cell? w _ hw294_1)).trans hw294_1),((HB.out.cell (World.block_lt_of_cell? w _ hw295_0)).trans hw295_0),((HB.out.cell (World.block_lt_of_cell? w _ hw295_1)).trans hw295_1)⟩ (fun hHeld=>?_);refine with_tabW laws_eqPartS.tab6 laws_eqPartS.bits6 (fun HT_ HW_=>?_)
        generalize wr.drew = w11 at HB hx294_0 hx294_1 hx295_0 hx295_1 hHeld ⊢
        refine pure_ (i:=0) (N:=some 17) (v:=?_) (a':=?_) #[true,false,false,false,false,false,false,false,false,false] rfl rfl (any_of HT_.out (by kernel_rfl)) (fun _ _ _ h=>h) (Or.inl ⟨by rfl,?_⟩) ?_ ?_
        rotate_left
        ·intro w'
         go_simp
         with_reducible rfl
        rotate_left
        ·simp only [Act.put,s1_,s2_,s3_,i64_w,i32_w]
         rfl
        refine pure_ (i:=1) (N:=some 18) (v:=?_) (a':=?_) #[true,true,false,false,false,false,false,false,false,false] rfl rfl (any_of HT_.out (by kernel_rfl)) (fun _ _ _ h=>h) (Or.inl ⟨by rfl,?_⟩) ?_ ?_
        rotate_left
        ·intro w'
         go_simp
         with_reducible rfl
        rotate_left
        ·simp only [Act.put,s1_,s2_,s3_,i64_w,i32_w]
         rfl
        refine pure_ (i:=2) (N:=some 19) (v:=?_) (a':=?_) #[true,true,true,false,false,false,false,false,false,false] rfl rfl (any_of HT_.out (by kernel_rfl)) (fun _ _ _ h=>h) (Or.inl ⟨by rfl,?_⟩) ?_ ?_
        rotate_left
        ·intro w'
         go_simp
         with_reducible rfl
        rotate_left
        ·simp only [Act.put,s1_,s2_,s3_,i64_w,i32_w]
         rfl
        refine pure_ (i:=4) (N:=some 21) (v:=?_) (a':=?_) #[true,true,true,false,true,false,false,false,false,false] rfl rfl (any_of HT_.out (by kernel_rfl)) (fun _ _ _ h=>h) (Or.inl ⟨by rfl,?_⟩) ?_ ?_
        rotate_left
        ·intro w'
         go_simp
         with_reducible rfl
        rotate_left
        ·simp only [Act.put,s1_,s2_,s3_,i64_w,i32_w]
         rfl
        refine pure_ (i:=5) (N:=some 22) (v:=?_) (a':=?_) #[true,true,true,false,true,true,false,false,false,false] rfl rfl (any_of HT_.out (by kernel_rfl)) (fun _ _ _ h=>h) (Or.inl ⟨by rfl,?_⟩) ?_ ?_
        rotate_left
        ·intro w'
         go_simp
         with_reducible rfl
        rotate_left
        ·simp only [Act.put,s1_,s2_,s3_,i64_w,i32_w]
         rfl
        refine pure_ (i:=6) (N:=some 23) (v:=?_) (a':=?_) #[true,true,true,false,true,true,true,false,false,false] rfl rfl (any_of HT_.out (by kernel_rfl)) (fun _ _ _ h=>h) (Or.inl ⟨by rfl,?_⟩) ?_ ?_
        rotate_left
        ·intro w'
         go_simp
         with_reducible rfl
        rotate_left
        ·simp only [Act.put,s1_,s2_,s3_,i64_w,i32_w]
         rfl
        refine take_ (i:=3) (N:=some 20) (v:=?_) (a':=?_) #[true,true,true,true,true,true,true,false,false,false] rfl rfl (take_ofW HT_.out HW_.out (by kernel_rfl)) (fun _ _ _ h=>h) (Or.inl ⟨by rfl,?_⟩) hHeld ?_ ?_
        rotate_left
        ·rintro w' ⟨s0,s1,s2,s3⟩
         go_simp
         with_reducible rfl
        rotate_left
        ·simp only [Act.put,s1_,s2_,s3_,i64_w,i32_w]
         rfl
        refine take_ (i:=7) (N:=some 24) (v:=?_) (a':=?_) #[true,true,true,true,true,true,true,true,false,false] rfl rfl (take_ofW HT_.out HW_.out (by kernel_rfl)) (fun _ _ _ h=>h) (Or.inl ⟨by rfl,?_⟩) hHeld ?_ ?_
        rotate_left
        ·rintro w' ⟨s0,s1,s2,s3⟩
         go_simp
         with_reducible rfl
        rotate_left
        ·simp only [Act.put,s1_,s2_,s3_,i64_w,i32_w]
         rfl
        refine one_ (i:=8) (N:=some 25) #[true,true,true,true,true,true,true,true,true,false] rfl rfl (one_of HT_.out (by kernel_rfl)) (by decide) (fun K hK=>?_)
        refine goes_ Tryd.func48 (by kernel_rfl) rfl #[.agg #[.int .i64 ((rd_T41 l0 x5_1).f0),.string ((rd_T41 l0 x5_1).f1)],.agg #[.int .i64 ((rd_T41 l1 x5_1).f0),.string ((rd_T41 l1 x5_1).f1)]] (by rfl) rfl rfl (by (try simp only [List.map_toArray,List.map_cons,List.map_nil]);first|done|rfl|(simp only [List.length_drop,List.length_take];rfl)) ?_
        with_reducible refine (laws_eqPart.calls ((rd_T41 l0 x5_1).f0) ((rd_T41 l0 x5_1).f1) ((rd_T41 l1 x5_1).f0) ((rd_T41 l1 x5_1).f1) false _ A7.out).mono ?_
        rintro e w12 ⟨rfl,hb⟩
        refine ⟨_,rfl,?_⟩
        have n0_:=m_ (l5_ (by repeat (first|(with_reducible first|exact HB.out|apply l1_|apply l2_|apply l3_)|exact HB.out)) hb)
        clear HB
        have HB:=n0_
        clear n0_
        (try clear hb)
        (try clear hb2)
        (try clear hk)
        (try clear hi)
        refine hK.out _ _ ⟨((HB.out.cell (World.block_lt_of_cell? w _ hw294_0)).trans hw294_0),((HB.out.cell (World.block_lt_of_cell? w _ hw294_1)).trans hw294_1),((HB.out.cell (World.block_lt_of_cell? w _ hw295_0)).trans hw295_0),((HB.out.cell (World.block_lt_of_cell? w _ hw295_1)).trans hw295_1)⟩ (fun hHeld=>?_)
        clear hK K
        refine norm_ (a':=?_) ?_ ?_
        rotate_left
        ·show Act.put _ (some 25) _ = _
         simp only [Act.put,s1_,s2_,s3_,i64_w,i32_w]
         rfl
        refine pure_ (i:=9) (N:=some 26) (v:=?_) (a':=?_) #[true,true,true,true,true,true,true,true,true,true] rfl rfl (any_of HT_.out (by kernel_rfl)) (fun _ _ _ h=>h) (Or.inl ⟨by rfl,?_⟩) ?_ ?_
        rotate_left
        ·intro w'
         go_simp
         with_reducible rfl
        rotate_left
        ·simp only [Act.put,s1_,s2_,s3_,i64_w,i32_w]
         rfl
        refine done_ (done_of HT_.out (by kernel_rfl)) ?_
        try go_wp2
        go_ret
        exact ⟨by first|rfl|(simp [e1_,e2_] <;> rfl)|(simp [*,e1_,e2_] <;> rfl)|(simp [e1_,e2_,pk_empty1,pk_empty2];done)|(simp [*,e1_,e2_,pk_empty1,pk_empty2];done),by repeat (first|(with_reducible first|exact HB.out|apply l1_|apply l2_|apply l3_)|exact HB.out)⟩
      ·rw [if_neg c6] at H
       exact absurd H (by simp)
     ·rw [if_neg c5] at H
      exact absurd H (by simp)
    ·rw [if_neg c4] at H
     have c4b0 : decide (x5_1 < (l0.length : Int)) = false:=decide_eq_false c4
     clear c4
     obtain rfl:=Option.some.inj H
     go_wp2
     go_ret
     exact ⟨by first|rfl|(simp [e1_,e2_] <;> rfl)|(simp [*,e1_,e2_] <;> rfl)|(simp [e1_,e2_,pk_empty1,pk_empty2];done)|(simp [*,e1_,e2_,pk_empty1,pk_empty2];done),by repeat (first|(with_reducible first|exact HB.out|apply l1_|apply l2_|apply l3_)|exact HB.out)⟩
 ·rw [if_neg c3] at H
  have c3b0 : ((l0.length : Int) == (l1.length : Int)) = false:=beq_eq_false_iff_ne.mpr c3
  have c3b1 : ((l0.length : Int) != (l1.length : Int)) = true:=bne_iff_ne.mpr c3
  have c3b2 : (l0.length == l1.length) = false:=by first|simpa using c3|(simp at c3 ⊢;omega)
  obtain rfl:=Option.some.inj H
  go_enter Tryd.func30,Tryd.ntmps30
  go_wp2
  go_ret
  exact ⟨by first|rfl|(simp [e1_,e2_] <;> rfl)|(simp [*,e1_,e2_] <;> rfl)|(simp [e1_,e2_,pk_empty1,pk_empty2];done)|(simp [*,e1_,e2_,pk_empty1,pk_empty2];done),by repeat (first|(with_reducible first|exact HB.out|apply l1_|apply l2_|apply l3_)|exact HB.out)⟩

end Go.Proofs.YtkcjmmhleepjeaaDoor.A
