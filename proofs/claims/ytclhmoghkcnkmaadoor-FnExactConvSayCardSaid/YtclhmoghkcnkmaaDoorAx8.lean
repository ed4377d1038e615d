-- Printed by myprint.py (wip/tools) out of the translation. Not trusted: Lean checks it.
import Derived.Test.YtclhmoghkcnkmaaDoorAx0
import Derived.Test.YtclhmoghkcnkmaaDoorAx1
import Derived.Test.YtclhmoghkcnkmaaDoorAx2
import Derived.Test.YtclhmoghkcnkmaaDoorAx3
namespace Go.Proofs.YtclhmoghkcnkmaaDoor.A
open Go.RowKit Go.Proofs.YtclhmoghkcnkmaaDoorW.PrintWords Go.Proofs.YtclhmoghkcnkmaaDoorW.PrintLast Go.Proofs.YtclhmoghkcnkmaaDoorW.PrintMore
attribute [local go_sem] max2_int min2_int max_two min_two max_three min_three max_four min_four   -- for this text's walks alone
set_option linter.unusedVariables false
set_option linter.unusedSimpArgs false

/-! ### spec_l21Whole: function 57 -/
def spec_l21Whole.f (k : Nat) (a0 : ByteArray) : Option (Bool) := (spec_TextOk.f k a0).bind fun t280 => (if t280 = true then (if (a0.size : Int) ≤ 24 then ((spec_l2Held.f k a0).bind fun t281 => (some (t281 == 0))) else (some false)) else (some false))
theorem spec_l21Whole.mono : ∀ a0 k, LeO (spec_l21Whole.f k a0) (spec_l21Whole.f (k + 1) a0) := by
 intro a0 k
 unfold spec_l21Whole.f
 repeat' first
   | (with_reducible exact spec_TextOk.mono _ _)
   | (with_reducible exact spec_l2Held.mono _ _)
   | (with_reducible exact LeO.refl _)
   | (with_reducible exact LeO.none _)
   | (with_reducible refine LeO.ite ?_ ?_)
   | (with_reducible refine LeO.bind ?_ (fun _ => ?_))
   | exact spec_TextOk.mono _ _
   | exact spec_l2Held.mono _ _
   | exact LeO.none _
   | refine LeO.ite ?_ ?_
   | refine LeO.bind ?_ (fun _ => ?_)
set_option maxHeartbeats 8000000 in
set_option maxRecDepth 100000 in
theorem spec_l21Whole.calls (k : Nat) (a0 : ByteArray) (r : Bool) (w : World) (h : spec_l21Whole.f k a0 = some r) :
  Calls Tryd.prog 57 #[.string a0] w fun e w'=>e = .returned (.bool r) ∧ Below w.heap.size w w':=by
 have HB:=m_ (Below.refl w.heap.size w)
 have H : ((spec_TextOk.f k a0).bind fun t280=>(if t280 = true then (if (a0.size : Int) ≤ 24 then ((spec_l2Held.f k a0).bind fun t281=>(some (t281 == 0))) else (some false)) else (some false))) = some r:=h
 clear h
 replace H:=Option.bind_eq_some_iff.mp H
 obtain ⟨t280,A20,H⟩:=H
 replace H : (if t280 = true then (if (a0.size : Int) ≤ 24 then ((spec_l2Held.f k a0).bind fun t281=>(some (t281 == 0))) else (some false)) else (some false)) = some r:=H
 have A2:=m_ A20
 clear A20
 by_cases c3 : t280 = true
 ·subst c3
  have H1 : (if (a0.size : Int) ≤ 24 then ((spec_l2Held.f k a0).bind fun t281=>(some (t281 == 0))) else (some false)) = some r:=by rw [if_pos rfl] at H;exact H
  clear H
  have H:=H1
  clear H1
  by_cases c4 : (a0.size : Int) ≤ 24
  ·rw [if_pos c4] at H
   have c4b0 : decide ((a0.size : Int) ≤ 24) = true:=decide_eq_true c4
   have c4b1 : decide (a0.size ≤ 24) = true:=decide_eq_true (by omega)
   clear c4
   replace H:=Option.bind_eq_some_iff.mp H
   obtain ⟨t281,A50,H⟩:=H
   replace H : (some (t281 == 0)) = some r:=H
   have A5:=m_ A50
   clear A50
   obtain rfl:=Option.some.inj H
   go_enter Tryd.func57,Tryd.ntmps57
   go_wp2_with (first|((with_reducible refine gate_callee (f:=22) rfl ?_);refine goesL_ (some 4) rfl rfl Tryd.func22 (by kernel_rfl) rfl #[.string a0] rfl (by (try simp only [List.map_toArray,List.map_cons,List.map_nil]);first|done|rfl|(simp only [List.length_drop,List.length_take];rfl)) ?_;(with_reducible refine (spec_TextOk.calls k a0 true _ A2.out).mono ?_);rintro e w' ⟨rfl,⟨nd,rfl⟩⟩;refine ⟨_,rfl,?_⟩)|(go_at_call 69;(with_reducible refine (spec_l2Held.calls k a0 t281 _ A5.out).mono ?_);rintro e w6 ⟨rfl,hb⟩;have n0_:=m_ (l5_ (by repeat (first|(with_reducible first|exact HB.out|apply l1_|apply l2_|apply l3_)|exact HB.out)) hb);clear HB;have HB:=n0_;clear n0_;(try clear hb);(try clear hb2);(try clear hk);(try clear hi)))
   go_ret
   exact ⟨by first|rfl|(simp [e1_,e2_] <;> rfl)|(simp [*,e1_,e2_] <;> rfl)|(simp [e1_,e2_,pk_empty1,pk_empty2];done)|(simp [*,e1_,e2_,pk_empty1,pk_empty2];done),by repeat (first|(with_reducible first|exact HB.out|apply l1_|apply l2_|apply l3_)|exact HB.out)⟩
  ·rw [if_neg c4] at H
   have c4b0 : decide ((a0.size : Int) ≤ 24) = false:=decide_eq_false c4
   have c4b1 : decide (a0.size ≤ 24) = false:=decide_eq_false (by omega)
   clear c4
   obtain rfl:=Option.some.inj H
   go_enter Tryd.func57,Tryd.ntmps57
   go_wp2_with (first|((with_reducible refine gate_callee (f:=22) rfl ?_);refine goesL_ (some 4) rfl rfl Tryd.func22 (by kernel_rfl) rfl #[.string a0] rfl (by (try simp only [List.map_toArray,List.map_cons,List.map_nil]);first|done|rfl|(simp only [List.length_drop,List.length_take];rfl)) ?_;(with_reducible refine (spec_TextOk.calls k a0 true _ A2.out).mono ?_);rintro e w' ⟨rfl,⟨nd,rfl⟩⟩;refine ⟨_,rfl,?_⟩))
   go_ret
   exact ⟨by first|rfl|(simp [e1_,e2_] <;> rfl)|(simp [*,e1_,e2_] <;> rfl)|(simp [e1_,e2_,pk_empty1,pk_empty2];done)|(simp [*,e1_,e2_,pk_empty1,pk_empty2];done),by repeat (first|(with_reducible first|exact HB.out|apply l1_|apply l2_|apply l3_)|exact HB.out)⟩
 ·replace c3:=Bool.eq_false_iff.mpr c3
  subst c3
  have H1 : (some false) = some r:=by rw [if_neg (show ¬ (false = true) by decide)] at H;exact H
  clear H
  have H:=H1
  clear H1
  obtain rfl:=Option.some.inj H
  go_enter Tryd.func57,Tryd.ntmps57
  go_wp2_with (first|((with_reducible refine gate_callee (f:=22) rfl ?_);refine goesL_ (some 4) rfl rfl Tryd.func22 (by kernel_rfl) rfl #[.string a0] rfl (by (try simp only [List.map_toArray,List.map_cons,List.map_nil]);first|done|rfl|(simp only [List.length_drop,List.length_take];rfl)) ?_;(with_reducible refine (spec_TextOk.calls k a0 false _ A2.out).mono ?_);rintro e w' ⟨rfl,⟨nd,rfl⟩⟩;refine ⟨_,rfl,?_⟩))
  go_ret
  exact ⟨by first|rfl|(simp [e1_,e2_] <;> rfl)|(simp [*,e1_,e2_] <;> rfl)|(simp [e1_,e2_,pk_empty1,pk_empty2];done)|(simp [*,e1_,e2_,pk_empty1,pk_empty2];done),by repeat (first|(with_reducible first|exact HB.out|apply l1_|apply l2_|apply l3_)|exact HB.out)⟩

/-! ### spec_TextNames: function 21 -/
def spec_TextNames.l0 : Nat → List (S32) → List (S34) → Int → Option ((List (S32)))
 | 0, _, _, _ => none
 | k + 1, x3, x4, x5 => if x5 < (x4.length : Int) then (if 0 ≤ x5 then (if (rd_T34 x4 x5).f1 = true then (if x3.length < 8796093022208 then (spec_TextNames.l0 k (x3 ++ [(⟨(rd_T34 x4 x5).f2.f0, (rd_T34 x4 x5).f2.f1⟩ : S32)]) x4 (wrap64 (x5 + 1))) else (none)) else (spec_TextNames.l0 k x3 x4 (wrap64 (x5 + 1)))) else (none)) else (some x3)
def spec_TextNames.f (k : Nat) (a0 : ByteArray) : Option ((List (S32))) := (spec_TextPieces.f k a0).bind fun t285 => (spec_TextNames.l0 k (([] : List (S32))) t285 0)
theorem spec_TextNames.mono_l : ∀ k, (∀ y0 y1 y2, LeO (spec_TextNames.l0 k y0 y1 y2) (spec_TextNames.l0 (k + 1) y0 y1 y2))
 | 0 => fun _ _ _ r h => by simp [spec_TextNames.l0] at h
 | k + 1 => by
  have ih0:=spec_TextNames.mono_l k
  ·intro y0 y1 y2
   unfold spec_TextNames.l0
   repeat' first
   | (with_reducible exact ih0 _ _ _)
   | (with_reducible exact spec_TextPieces.mono _ _)
   | (with_reducible exact LeO.refl _)
   | (with_reducible exact LeO.none _)
   | (with_reducible refine LeO.ite ?_ ?_)
   | (with_reducible refine LeO.bind ?_ (fun _ => ?_))
   | exact ih0 _ _ _
   | exact spec_TextPieces.mono _ _
   | exact LeO.none _
   | refine LeO.ite ?_ ?_
   | refine LeO.bind ?_ (fun _ => ?_)
theorem spec_TextNames.mono : ∀ a0 k, LeO (spec_TextNames.f k a0) (spec_TextNames.f (k + 1) a0) := by
 intro a0 k
 have ih0:=spec_TextNames.mono_l k
 unfold spec_TextNames.f
 repeat' first
   | (with_reducible exact ih0 _ _ _)
   | (with_reducible exact spec_TextPieces.mono _ _)
   | (with_reducible exact LeO.refl _)
   | (with_reducible exact LeO.none _)
   | (with_reducible refine LeO.ite ?_ ?_)
   | (with_reducible refine LeO.bind ?_ (fun _ => ?_))
   | exact ih0 _ _ _
   | exact spec_TextPieces.mono _ _
   | exact LeO.none _
   | refine LeO.ite ?_ ?_
   | refine LeO.bind ?_ (fun _ => ?_)
set_option maxHeartbeats 8000000 in
set_option maxRecDepth 100000 in
theorem spec_TextNames.calls (k : Nat) (a0 : ByteArray) (r : List (S32)) (w : World) (h : spec_TextNames.f k a0 = some r) :
  Calls Tryd.prog 21 #[.string a0] w fun e w'=>∃ v0_ : Value,e = .returned (v0_) ∧ Kd.R k32 32 w' w.heap.size (fun _=>True) v0_ r ∧ Below w.heap.size w w':=by
 have hu32:=Tryd.underlying32
 have HB:=m_ (Below.refl w.heap.size w)
 have H : ((spec_TextPieces.f k a0).bind fun t285=>(spec_TextNames.l0 k (([] : List (S32))) t285 0)) = some r:=h
 clear h
 obtain ⟨y282,hy282⟩ : ∃ y_ : List (S32),y_ = (([] : List (S32))):=⟨_,rfl⟩
 replace H : ((spec_TextPieces.f k a0).bind fun t285=>(spec_TextNames.l0 k y282 t285 0)) = some r:=by first|(rw [hy282];with_reducible exact H)|(have H2_:=(Option.bind_some _ _).symm.trans H;rw [hy282];with_reducible exact H2_)|(have H2_:=(Option.bind_some _ _).symm.trans H;with_reducible exact H2_)|with_reducible exact H|(rw [hy282];exact H)|exact H
 have Ny282:=m_ hy282
 clear hy282
 replace H:=Option.bind_eq_some_iff.mp H
 obtain ⟨t285,A20,H⟩:=H
 replace H : (spec_TextNames.l0 k y282 t285 0) = some r:=H
 have A2:=m_ A20
 clear A20
 have H':=m_ H
 clear H
 go_enter Tryd.func21,Tryd.ntmps21
 go_wp2_with (first|((with_reducible refine gate_dst (N:=6) rfl ?_);refine Kd.R_lit k32 _ 32 ?hg (N:=6) ?hd (xs:=([] : List (S32))) (inner:=[]) (ok:=fun _=>True) (okp:=fun _=>True) ?hr ?hp (fun _ hk=>hk) trivial (Below.refl _ _) (Nat.le_refl _) (by simp) ?_;(case hd=>rfl);(case hg=>rfl);(case hr=>first|(go_simp;done)|(go_simp;rfl));(case hp=>exact (Reps.none _ _));intro v283 w3 ho4 hb hg_ hnew_;clear hg_ hnew_;(first|rw [← Ny282.out] at ho4|(simp only [Int.reduceToNat] at ho4;rw [← Ny282.out] at ho4));have n0_:=m_ (Kd.R_lower ho4 (l6_ (by repeat (first|(with_reducible first|exact HB.out|apply l1_|apply l2_|apply l3_)|exact HB.out))));have n1_:=m_ (l5_ (by repeat (first|(with_reducible first|exact HB.out|apply l1_|apply l2_|apply l3_)|exact HB.out)) hb);clear HB;have HO284:=n0_;have HB:=n1_;clear n0_ n1_;clear hb ho4)|((with_reducible refine gate_callee (f:=14) rfl ?_);refine goesL_ (some 8) rfl rfl Tryd.func14 (by kernel_rfl) rfl #[.string a0] rfl (by (try simp only [List.map_toArray,List.map_cons,List.map_nil]);first|done|rfl|(simp only [List.length_drop,List.length_take];rfl)) ?_;(with_reducible refine (spec_TextPieces.calls k a0 t285 _ A2.out).mono ?_);rintro e w5 ⟨v286,rfl,ho0,hb⟩;refine ⟨_,rfl,?_⟩;have n0_:=m_ (Kd.R_below (by (with_reducible repeat (first|apply Kd.R_alloc|apply Kd.R_drewN|apply Kd.R_drew));exact HO284.out) hb);have n1_:=m_ (Kd.R_lower ho0 (l6_ (by repeat (first|(with_reducible first|exact HB.out|apply l1_|apply l2_|apply l3_)|exact HB.out))));have n2_:=m_ (l5_ (by repeat (first|(with_reducible first|exact HB.out|apply l1_|apply l2_|apply l3_)|exact HB.out)) hb);clear HO284;clear HB;have HO284:=n0_;have HO287:=n1_;have HB:=n2_;clear n0_ n1_ n2_;(try clear hb);(try clear hb2);(try clear hk);(try clear hi);(try clear ho0)))
 go_loopg [3,5] k (fun kq v3 v5 w'=>∃ (x3_1 : List (S32)) (x5_1 : Int),v5 = .int .i64 x5_1 ∧ Aside0 (spec_TextNames.l0 kq x3_1 t285 x5_1 = some r) ∧ Aside0 (kq ≤ k) ∧ Aside0 (Kd.R k32 32 w' w.heap.size (fun _=>True) v3 x3_1) ∧ Aside0 (Kd.R k34 34 w' w.heap.size (fun _=>True) v286 t285) ∧ Aside0 (Below w.heap.size w w'))
 case atStart=>exact ⟨(y282),(0),(by first|rfl|(simp;done)|(simp [*];done)),H',⟨Nat.le_refl _⟩,⟨by (with_reducible repeat (first|apply Kd.R_alloc|apply Kd.R_drewN|apply Kd.R_drew));exact HO284.out⟩,⟨by (with_reducible repeat (first|apply Kd.R_alloc|apply Kd.R_drewN|apply Kd.R_drew));exact HO287.out⟩,⟨by repeat (first|(with_reducible first|exact HB.out|apply l1_|apply l2_|apply l3_)|exact HB.out)⟩⟩
 case round =>
  clear H'
  try clear c1
  try clear c2
  try clear p2
  obtain ⟨x3_1,x5_1,rfl,HA,HK1,HO_3,HO_4,HB⟩:=hrel
  cases gk with
  | zero => exact absurd HA.out (by simp [spec_TextNames.l0])
  | succ k1 =>
   have H:=HA.out
   clear HA
   simp only [spec_TextNames.l0] at H
   by_cases c6 : x5_1 < (t285.length : Int)
   ·rw [if_pos c6] at H
    have c6b0 : decide (x5_1 < (t285.length : Int)) = true:=decide_eq_true c6
    clear c6
    by_cases c7 : 0 ≤ x5_1
    ·rw [if_pos c7] at H
     have c7b0 : decide (0 ≤ x5_1) = true:=decide_eq_true c7
     clear c7
     obtain ⟨bq8,hbq8⟩ : ∃ b_ : Bool,b_ = ((rd_T34 t285 x5_1).f1):=⟨_,rfl⟩
     replace H : (if bq8 = true then (if x3_1.length < 8796093022208 then (spec_TextNames.l0 k1 (x3_1 ++ [(⟨(rd_T34 t285 x5_1).f2.f0,(rd_T34 t285 x5_1).f2.f1⟩ : S32)]) t285 (wrap64 (x5_1 + 1))) else (none)) else (spec_TextNames.l0 k1 x3_1 t285 (wrap64 (x5_1 + 1)))) = some r:=by rw [← hbq8] at H;exact H
     have Nbq8:=m_ hbq8
     clear hbq8
     by_cases c9 : bq8 = true
     ·subst c9
      have H1 : (if x3_1.length < 8796093022208 then (spec_TextNames.l0 k1 (x3_1 ++ [(⟨(rd_T34 t285 x5_1).f2.f0,(rd_T34 t285 x5_1).f2.f1⟩ : S32)]) t285 (wrap64 (x5_1 + 1))) else (none)) = some r:=by rw [if_pos rfl] at H;exact H
      clear H
      have H:=H1
      clear H1
      by_cases c10 : x3_1.length < 8796093022208
      ·rw [if_pos c10] at H
       have LMc10:=m_ c10
       clear c10
       obtain ⟨y290,hy290⟩ : ∃ y_ : List (S32),y_ = (x3_1 ++ [(⟨(rd_T34 t285 x5_1).f2.f0,(rd_T34 t285 x5_1).f2.f1⟩ : S32)]):=⟨_,rfl⟩
       replace H : (spec_TextNames.l0 k1 y290 t285 (wrap64 (x5_1 + 1))) = some r:=by first|(rw [hy290];with_reducible exact H)|(have H2_:=(Option.bind_some _ _).symm.trans H;rw [hy290];with_reducible exact H2_)|(have H2_:=(Option.bind_some _ _).symm.trans H;with_reducible exact H2_)|with_reducible exact H|(rw [hy290];exact H)|exact H
       have Ny290:=m_ hy290
       clear hy290
       have H':=m_ H
       clear H
       obtain ⟨Ao11,co11,eo11⟩:=Kd.R_slice HO_4.out
       subst eo11
       have p288 : 0 ≤ (x5_1 : Int):=of_decide_eq_true (by first|(with_reducible assumption)|assumption)
       have q288 : x5_1 < (t285.length : Int):=of_decide_eq_true (by first|(with_reducible assumption)|assumption)
       obtain ⟨ad288,e288,hx288_0,hx288_1,hx288_2,hx288_3⟩:=at_T34 (Kd.R_reads' HO_4.out).2.2 x5_1 p288 q288
       (try rw [← Nbq8.out] at hx288_1)
       cases e288
       replace p288:=eq_true p288
       replace q288:=eq_true q288
       have p289 : 0 ≤ (x5_1 : Int):=of_decide_eq_true (by first|(with_reducible assumption)|assumption)
       have q289 : x5_1 < (t285.length : Int):=of_decide_eq_true (by first|(with_reducible assumption)|assumption)
       obtain ⟨ad289,e289,hx289_0,hx289_1,hx289_2,hx289_3⟩:=at_T34 (Kd.R_reads' HO_4.out).2.2 x5_1 p289 q289
       (try rw [← Nbq8.out] at hx289_1)
       obtain rfl : ad288 = ad289:=(by injection e289)
       replace p289:=eq_true p289
       replace q289:=eq_true q289
       go_wp2_with (first|((with_reducible refine gate_builtin (b:=.append) (xs:=#[.tmp 20,.tmp 26]) rfl ?_);at_builtin;refine Kd.R_append k32 (w0:=w) w.heap.size rfl (.tmp 20) (.tmp 26) 29 32 (.agg #[(.int .i64 0),(.int .i64 0)]) 16 rfl Tryd.underlying29 info32 rfl (by decide) (by omega) u3 x3_1 (⟨(rd_T34 t285 x5_1).f2.f0,(rd_T34 t285 x5_1).f2.f1⟩ : S32) [.int .i64 ((rd_T34 t285 x5_1).f2.f0),.int .i64 ((rd_T34 t285 x5_1).f2.f1)] (fun _=>True) (fun _=>False) rfl rfl ?aP (fun _ hk=>hk.elim) ?aF ?aO ?aB ?aS ?aL ?_;(case aP=>exact k32_mkM _ _ _ (⟨(rd_T34 t285 x5_1).f2.f0,(rd_T34 t285 x5_1).f2.f1⟩ : S32));(case aB=>exact (by repeat (first|(with_reducible first|exact HB.out|apply l1_|apply l2_|apply l3_)|exact HB.out)));(case aF=>exact (fun _ _=>trivial));(case aO=>exact (by (with_reducible repeat (first|apply Kd.R_alloc|apply Kd.R_drewN|apply Kd.R_drew));exact HO_3.out));(case aS=>exact (l6_ (by repeat (first|(with_reducible first|exact HB.out|apply l1_|apply l2_|apply l3_)|exact HB.out))));(case aL=>have:=LMc10.out;omega);intro v291 w12 ho hb hg hat;rw [← Ny290.out] at ho;have n0_:=m_ (Kd.R_over' (by (with_reducible repeat (first|apply Kd.R_alloc|apply Kd.R_drewN|apply Kd.R_drew));exact HO_4.out) (Kd.R_typed (by (with_reducible repeat (first|apply Kd.R_alloc|apply Kd.R_drewN|apply Kd.R_drew));exact HO_3.out)) (by decide) hg);have n1_:=m_ (hb);have n2_:=m_ (ho);clear HO_4;clear HB;clear HO_3;have HO_4:=n0_;have HB:=n1_;have HO292:=n2_;clear n0_ n1_ n2_;clear ho hb hg hat))
       go_roundg k1
       case measure=>have:=HK1.out;omega
       case rel=>exact ⟨(y290),(wrap64 (x5_1 + 1)),(by first|rfl|(simp;done)|(simp [*];done)),H',⟨by have:=HK1.out;omega⟩,⟨by (with_reducible repeat (first|apply Kd.R_alloc|apply Kd.R_drewN|apply Kd.R_drew));exact HO292.out⟩,⟨by (with_reducible repeat (first|apply Kd.R_alloc|apply Kd.R_drewN|apply Kd.R_drew));exact HO_4.out⟩,⟨by repeat (first|(with_reducible first|exact HB.out|apply l1_|apply l2_|apply l3_)|exact HB.out)⟩⟩
      ·rw [if_neg c10] at H
       exact absurd H (by simp)
     ·replace c9:=Bool.eq_false_iff.mpr c9
      subst c9
      have H1 : (spec_TextNames.l0 k1 x3_1 t285 (wrap64 (x5_1 + 1))) = some r:=by rw [if_neg (show ¬ (false = true) by decide)] at H;exact H
      clear H
      have H:=H1
      clear H1
      have H':=m_ H
      clear H
      obtain ⟨Ao13,co13,eo13⟩:=Kd.R_slice HO_4.out
      subst eo13
      have p288 : 0 ≤ (x5_1 : Int):=of_decide_eq_true (by first|(with_reducible assumption)|assumption)
      have q288 : x5_1 < (t285.length : Int):=of_decide_eq_true (by first|(with_reducible assumption)|assumption)
      obtain ⟨ad288,e288,hx288_0,hx288_1,hx288_2,hx288_3⟩:=at_T34 (Kd.R_reads' HO_4.out).2.2 x5_1 p288 q288
      (try rw [← Nbq8.out] at hx288_1)
      cases e288
      replace p288:=eq_true p288
      replace q288:=eq_true q288
      go_wp2
      go_roundg k1
      case measure=>have:=HK1.out;omega
      case rel=>exact ⟨(x3_1),(wrap64 (x5_1 + 1)),(by first|rfl|(simp;done)|(simp [*];done)),H',⟨by have:=HK1.out;omega⟩,⟨by (with_reducible repeat (first|apply Kd.R_alloc|apply Kd.R_drewN|apply Kd.R_drew));exact HO_3.out⟩,⟨by (with_reducible repeat (first|apply Kd.R_alloc|apply Kd.R_drewN|apply Kd.R_drew));exact HO_4.out⟩,⟨by repeat (first|(with_reducible first|exact HB.out|apply l1_|apply l2_|apply l3_)|exact HB.out)⟩⟩
    ·rw [if_neg c7] at H
     exact absurd H (by simp)
   ·rw [if_neg c6] at H
    have c6b0 : decide (x5_1 < (t285.length : Int)) = false:=decide_eq_false c6
    clear c6
    obtain rfl:=Option.some.inj H
    obtain ⟨Ao14,co14,eo14⟩:=Kd.R_slice HO_4.out
    subst eo14
    go_wp2
    go_ret
    exact ⟨_,by first|rfl|(simp [e1_,e2_] <;> rfl)|(simp [*,e1_,e2_] <;> rfl)|(simp [e1_,e2_,pk_empty1,pk_empty2];done)|(simp [*,e1_,e2_,pk_empty1,pk_empty2];done),by (with_reducible repeat (first|apply Kd.R_alloc|apply Kd.R_drewN|apply Kd.R_drew));exact HO_3.out,by repeat (first|(with_reducible first|exact HB.out|apply l1_|apply l2_|apply l3_)|exact HB.out)⟩

/-! ### spec_l21Own: function 58 -/
def spec_l21Own.l0 : Nat → List (S32) → Int → Option (Bool)
 | 0, _, _ => none
 | k + 1, x3, x4 => if x4 < (x3.length : Int) then (if 0 ≤ x4 then ((spec_EndDoor.f ((rd_T32 x3 x4).f0) ((rd_T32 x3 x4).f1)).bind fun t297 => (if t297 = true then (some false) else (spec_l21Own.l0 k x3 (wrap64 (x4 + 1))))) else (none)) else (some true)
def spec_l21Own.f (k : Nat) (a0 : ByteArray) : Option (Bool) := (spec_TextNames.f k a0).bind fun t293 => (spec_l21Own.l0 k t293 0)
theorem spec_l21Own.mono_l : ∀ k, (∀ y0 y1, LeO (spec_l21Own.l0 k y0 y1) (spec_l21Own.l0 (k + 1) y0 y1))
 | 0 => fun _ _ r h => by simp [spec_l21Own.l0] at h
 | k + 1 => by
  have ih0:=spec_l21Own.mono_l k
  ·intro y0 y1
   unfold spec_l21Own.l0
   repeat' first
   | (with_reducible exact ih0 _ _)
   | (with_reducible exact spec_TextNames.mono _ _)
   | (with_reducible exact LeO.refl _)
   | (with_reducible exact LeO.none _)
   | (with_reducible refine LeO.ite ?_ ?_)
   | (with_reducible refine LeO.bind ?_ (fun _ => ?_))
   | exact ih0 _ _
   | exact spec_TextNames.mono _ _
   | exact LeO.none _
   | refine LeO.ite ?_ ?_
   | refine LeO.bind ?_ (fun _ => ?_)
theorem spec_l21Own.mono : ∀ a0 k, LeO (spec_l21Own.f k a0) (spec_l21Own.f (k + 1) a0) := by
 intro a0 k
 have ih0:=spec_l21Own.mono_l k
 unfold spec_l21Own.f
 repeat' first
   | (with_reducible exact ih0 _ _)
   | (with_reducible exact spec_TextNames.mono _ _)
   | (with_reducible exact LeO.refl _)
   | (with_reducible exact LeO.none _)
   | (with_reducible refine LeO.ite ?_ ?_)
   | (with_reducible refine LeO.bind ?_ (fun _ => ?_))
   | exact ih0 _ _
   | exact spec_TextNames.mono _ _
   | exact LeO.none _
   | refine LeO.ite ?_ ?_
   | refine LeO.bind ?_ (fun _ => ?_)
set_option maxHeartbeats 8000000 in
set_option maxRecDepth 100000 in
theorem spec_l21Own.calls (k : Nat) (a0 : ByteArray) (r : Bool) (w : World) (h : spec_l21Own.f k a0 = some r) :
  Calls Tryd.prog 58 #[.string a0] w fun e w'=>e = .returned (.bool r) ∧ Below w.heap.size w w':=by
 have hu32:=Tryd.underlying32
 have HB:=m_ (Below.refl w.heap.size w)
 have H : ((spec_TextNames.f k a0).bind fun t293=>(spec_l21Own.l0 k t293 0)) = some r:=h
 clear h
 replace H:=Option.bind_eq_some_iff.mp H
 obtain ⟨t293,A20,H⟩:=H
 replace H : (spec_l21Own.l0 k t293 0) = some r:=H
 have A2:=m_ A20
 clear A20
 have H':=m_ H
 clear H
 go_enter Tryd.func58,Tryd.ntmps58
 go_wp2_with (first|((with_reducible refine gate_callee (f:=21) rfl ?_);refine goesL_ (some 6) rfl rfl Tryd.func21 (by kernel_rfl) rfl #[.string a0] rfl (by (try simp only [List.map_toArray,List.map_cons,List.map_nil]);first|done|rfl|(simp only [List.length_drop,List.length_take];rfl)) ?_;(with_reducible refine (spec_TextNames.calls k a0 t293 _ A2.out).mono ?_);rintro e w3 ⟨v294,rfl,ho0,hb⟩;refine ⟨_,rfl,?_⟩;have n0_:=m_ (Kd.R_lower ho0 (l6_ (by repeat (first|(with_reducible first|exact HB.out|apply l1_|apply l2_|apply l3_)|exact HB.out))));have n1_:=m_ (l5_ (by repeat (first|(with_reducible first|exact HB.out|apply l1_|apply l2_|apply l3_)|exact HB.out)) hb);clear HB;have HO295:=n0_;have HB:=n1_;clear n0_ n1_;(try clear hb);(try clear hb2);(try clear hk);(try clear hi);(try clear ho0)))
 go_loopg [4] k (fun kq v4 w'=>∃ (x4_1 : Int),v4 = .int .i64 x4_1 ∧ Aside0 (spec_l21Own.l0 kq t293 x4_1 = some r) ∧ Aside0 (kq ≤ k) ∧ Aside0 (Kd.R k32 32 w' w.heap.size (fun _=>True) v294 t293) ∧ Aside0 (Below w.heap.size w w'))
 case atStart=>exact ⟨(0),(by first|rfl|(simp;done)|(simp [*];done)),H',⟨Nat.le_refl _⟩,⟨by (with_reducible repeat (first|apply Kd.R_alloc|apply Kd.R_drewN|apply Kd.R_drew));exact HO295.out⟩,⟨by repeat (first|(with_reducible first|exact HB.out|apply l1_|apply l2_|apply l3_)|exact HB.out)⟩⟩
 case round =>
  clear H'
  try clear c2
  try clear p2
  obtain ⟨x4_1,rfl,HA,HK1,HO_3,HB⟩:=hrel
  cases gk with
  | zero => exact absurd HA.out (by simp [spec_l21Own.l0])
  | succ k1 =>
   have H:=HA.out
   clear HA
   simp only [spec_l21Own.l0] at H
   by_cases c4 : x4_1 < (t293.length : Int)
   ·rw [if_pos c4] at H
    have c4b0 : decide (x4_1 < (t293.length : Int)) = true:=decide_eq_true c4
    clear c4
    by_cases c5 : 0 ≤ x4_1
    ·rw [if_pos c5] at H
     have c5b0 : decide (0 ≤ x4_1) = true:=decide_eq_true c5
     clear c5
     replace H:=Option.bind_eq_some_iff.mp H
     obtain ⟨t297,A60,H⟩:=H
     replace H : (if t297 = true then (some false) else (spec_l21Own.l0 k1 t293 (wrap64 (x4_1 + 1)))) = some r:=H
     have A6:=m_ A60
     clear A60
     by_cases c7 : t297 = true
     ·subst c7
      have H1 : (some false) = some r:=by rw [if_pos rfl] at H;exact H
      clear H
      have H:=H1
      clear H1
      obtain rfl:=Option.some.inj H
      obtain ⟨Ao8,co8,eo8⟩:=Kd.R_slice HO_3.out
      subst eo8
      have p296 : 0 ≤ (x4_1 : Int):=of_decide_eq_true (by first|(with_reducible assumption)|assumption)
      have q296 : x4_1 < (t293.length : Int):=of_decide_eq_true (by first|(with_reducible assumption)|assumption)
      obtain ⟨ad296,e296,hx296_0,hx296_1⟩:=at_T32 (Kd.R_reads' HO_3.out).2.2 x4_1 p296 q296
      cases e296
      replace p296:=eq_true p296
      replace q296:=eq_true q296
      go_wp2_with (first|((with_reducible refine gate_callee (f:=79) rfl ?_);refine goesL_ (some 17) rfl rfl Tryd.func79 (by kernel_rfl) rfl #[.agg #[.int .i64 ((rd_T32 t293 x4_1).f0),.int .i64 ((rd_T32 t293 x4_1).f1)]] rfl (by (try simp only [List.map_toArray,List.map_cons,List.map_nil]);first|done|rfl|(simp only [List.length_drop,List.length_take];rfl)) ?_;(with_reducible refine (spec_EndDoor.calls ((rd_T32 t293 x4_1).f0) ((rd_T32 t293 x4_1).f1) true _ A6.out).mono ?_);rintro e w9 ⟨rfl,hb⟩;refine ⟨_,rfl,?_⟩;have n0_:=m_ (Kd.R_below (by (with_reducible repeat (first|apply Kd.R_alloc|apply Kd.R_drewN|apply Kd.R_drew));exact HO_3.out) hb);have n1_:=m_ (l5_ (by repeat (first|(with_reducible first|exact HB.out|apply l1_|apply l2_|apply l3_)|exact HB.out)) hb);clear HO_3;clear HB;have HO_3:=n0_;have HB:=n1_;clear n0_ n1_;(try clear hb);(try clear hb2);(try clear hk);(try clear hi)))
      go_ret
      exact ⟨by first|rfl|(simp [e1_,e2_] <;> rfl)|(simp [*,e1_,e2_] <;> rfl)|(simp [e1_,e2_,pk_empty1,pk_empty2];done)|(simp [*,e1_,e2_,pk_empty1,pk_empty2];done),by repeat (first|(with_reducible first|exact HB.out|apply l1_|apply l2_|apply l3_)|exact HB.out)⟩
     ·replace c7:=Bool.eq_false_iff.mpr c7
      subst c7
      have H1 : (spec_l21Own.l0 k1 t293 (wrap64 (x4_1 + 1))) = some r:=by rw [if_neg (show ¬ (false = true) by decide)] at H;exact H
      clear H
      have H:=H1
      clear H1
      have H':=m_ H
      clear H
      obtain ⟨Ao10,co10,eo10⟩:=Kd.R_slice HO_3.out
      subst eo10
      have p296 : 0 ≤ (x4_1 : Int):=of_decide_eq_true (by first|(with_reducible assumption)|assumption)
      have q296 : x4_1 < (t293.length : Int):=of_decide_eq_true (by first|(with_reducible assumption)|assumption)
      obtain ⟨ad296,e296,hx296_0,hx296_1⟩:=at_T32 (Kd.R_reads' HO_3.out).2.2 x4_1 p296 q296
      cases e296
      replace p296:=eq_true p296
      replace q296:=eq_true q296
      go_wp2_with (first|((with_reducible refine gate_callee (f:=79) rfl ?_);refine goesL_ (some 17) rfl rfl Tryd.func79 (by kernel_rfl) rfl #[.agg #[.int .i64 ((rd_T32 t293 x4_1).f0),.int .i64 ((rd_T32 t293 x4_1).f1)]] rfl (by (try simp only [List.map_toArray,List.map_cons,List.map_nil]);first|done|rfl|(simp only [List.length_drop,List.length_take];rfl)) ?_;(with_reducible refine (spec_EndDoor.calls ((rd_T32 t293 x4_1).f0) ((rd_T32 t293 x4_1).f1) false _ A6.out).mono ?_);rintro e w11 ⟨rfl,hb⟩;refine ⟨_,rfl,?_⟩;have n0_:=m_ (Kd.R_below (by (with_reducible repeat (first|apply Kd.R_alloc|apply Kd.R_drewN|apply Kd.R_drew));exact HO_3.out) hb);have n1_:=m_ (l5_ (by repeat (first|(with_reducible first|exact HB.out|apply l1_|apply l2_|apply l3_)|exact HB.out)) hb);clear HO_3;clear HB;have HO_3:=n0_;have HB:=n1_;clear n0_ n1_;(try clear hb);(try clear hb2);(try clear hk);(try clear hi)))
      go_roundg k1
      case measure=>have:=HK1.out;omega
      case rel=>exact ⟨(wrap64 (x4_1 + 1)),(by first|rfl|(simp;done)|(simp [*];done)),H',⟨by have:=HK1.out;omega⟩,⟨by (with_reducible repeat (first|apply Kd.R_alloc|apply Kd.R_drewN|apply Kd.R_drew));exact HO_3.out⟩,⟨by repeat (first|(with_reducible first|exact HB.out|apply l1_|apply l2_|apply l3_)|exact HB.out)⟩⟩
    ·rw [if_neg c5] at H
     exact absurd H (by simp)
   ·rw [if_neg c4] at H
    have c4b0 : decide (x4_1 < (t293.length : Int)) = false:=decide_eq_false c4
    clear c4
    obtain rfl:=Option.some.inj H
    obtain ⟨Ao12,co12,eo12⟩:=Kd.R_slice HO_3.out
    subst eo12
    go_wp2
    go_ret
    exact ⟨by first|rfl|(simp [e1_,e2_] <;> rfl)|(simp [*,e1_,e2_] <;> rfl)|(simp [e1_,e2_,pk_empty1,pk_empty2];done)|(simp [*,e1_,e2_,pk_empty1,pk_empty2];done),by repeat (first|(with_reducible first|exact HB.out|apply l1_|apply l2_|apply l3_)|exact HB.out)⟩

end Go.Proofs.YtclhmoghkcnkmaaDoor.A
