-- Printed by myprint.py (wip/tools) out of the translation. Not trusted: Lean checks it.
import Derived.Test.YtejpgpjjocbbjaaDoorAx0
import Derived.Test.YtejpgpjjocbbjaaDoorAx2
import Derived.Test.YtejpgpjjocbbjaaDoorAx4
namespace Go.Proofs.YtejpgpjjocbbjaaDoor.A
open Go.RowKit Go.Proofs.YtejpgpjjocbbjaaDoorW.PrintWords Go.Proofs.YtejpgpjjocbbjaaDoorW.PrintLast Go.Proofs.YtejpgpjjocbbjaaDoorW.PrintMore
attribute [local go_sem] max2_int min2_int max_two min_two max_three min_three max_four min_four   -- for this text's walks alone
set_option linter.unusedVariables false
set_option linter.unusedSimpArgs false

/-! ### spec_PktOk: function 20 -/
def spec_PktOk.j0 : Nat → Bool → Int → Int → Int → Int → Int → Int → ByteArray → Option (Bool)
 | 0, _, _, _, _, _, _, _, _ => none
 | k + 1, x18, x244000, x244001, x244002, x244003, x244004, x244005, x244006 => if x18 = true then (some false) else (if x244000 = 1 then ((spec_TextOk.f k x244006).bind fun t247 => (if t247 = true then (some (!x244006.toList.isEmpty)) else (some false))) else (if x244000 = 2 then (some x244006.toList.isEmpty) else (some false)))
def spec_PktOk.f (k : Nat) (a0_0 : Int) (a0_1 : Int) (a0_2 : Int) (a0_3 : Int) (a0_4 : Int) (a0_5 : Int) (a0_6 : ByteArray) : Option (Bool) := (spec_l1Any.f a0_1 a0_2).bind fun t244 => (if t244 = true then ((spec_l1Any.f a0_3 a0_4).bind fun t245 => (if t245 = true then ((spec_l6In.f a0_5 0 99).bind fun t246 => (spec_PktOk.j0 k (!t246) a0_0 a0_1 a0_2 a0_3 a0_4 a0_5 a0_6)) else (spec_PktOk.j0 k true a0_0 a0_1 a0_2 a0_3 a0_4 a0_5 a0_6))) else (spec_PktOk.j0 k true a0_0 a0_1 a0_2 a0_3 a0_4 a0_5 a0_6))
theorem spec_PktOk.mono_l : ∀ k, (∀ y0 y1 y2 y3 y4 y5 y6 y7, LeO (spec_PktOk.j0 k y0 y1 y2 y3 y4 y5 y6 y7) (spec_PktOk.j0 (k + 1) y0 y1 y2 y3 y4 y5 y6 y7))
 | 0 => fun _ _ _ _ _ _ _ _ r h => by simp [spec_PktOk.j0] at h
 | k + 1 => by
  have ih0:=spec_PktOk.mono_l k
  ·intro y0 y1 y2 y3 y4 y5 y6 y7
   unfold spec_PktOk.j0
   repeat' first
   | (with_reducible exact ih0 _ _ _ _ _ _ _ _)
   | (with_reducible exact spec_TextOk.mono _ _)
   | (with_reducible exact LeO.refl _)
   | (with_reducible exact LeO.none _)
   | (with_reducible refine LeO.ite ?_ ?_)
   | (with_reducible refine LeO.bind ?_ (fun _ => ?_))
   | exact ih0 _ _ _ _ _ _ _ _
   | exact spec_TextOk.mono _ _
   | exact LeO.none _
   | refine LeO.ite ?_ ?_
   | refine LeO.bind ?_ (fun _ => ?_)
theorem spec_PktOk.mono : ∀ a0 a1 a2 a3 a4 a5 a6 k, LeO (spec_PktOk.f k a0 a1 a2 a3 a4 a5 a6) (spec_PktOk.f (k + 1) a0 a1 a2 a3 a4 a5 a6) := by
 intro a0 a1 a2 a3 a4 a5 a6 k
 have ih0:=spec_PktOk.mono_l k
 unfold spec_PktOk.f
 repeat' first
   | (with_reducible exact ih0 _ _ _ _ _ _ _ _)
   | (with_reducible exact spec_TextOk.mono _ _)
   | (with_reducible exact LeO.refl _)
   | (with_reducible exact LeO.none _)
   | (with_reducible refine LeO.ite ?_ ?_)
   | (with_reducible refine LeO.bind ?_ (fun _ => ?_))
   | exact ih0 _ _ _ _ _ _ _ _
   | exact spec_TextOk.mono _ _
   | exact LeO.none _
   | refine LeO.ite ?_ ?_
   | refine LeO.bind ?_ (fun _ => ?_)
set_option maxHeartbeats 8000000 in
set_option maxRecDepth 100000 in
theorem spec_PktOk.calls (k : Nat) (a0_0 : Int) (a0_1 : Int) (a0_2 : Int) (a0_3 : Int) (a0_4 : Int) (a0_5 : Int) (a0_6 : ByteArray) (r : Bool) (w : World) (h : spec_PktOk.f k a0_0 a0_1 a0_2 a0_3 a0_4 a0_5 a0_6 = some r) :
  Calls Tryd.prog 20 #[.agg #[.int .i64 a0_0,.int .i64 a0_1,.int .i64 a0_2,.int .i64 a0_3,.int .i64 a0_4,.int .i64 a0_5,.string a0_6]] w fun e w'=>e = .returned (.bool r) ∧ Below w.heap.size w w':=by
 have hu26:=Tryd.underlying26
 have hu24:=Tryd.underlying24
 have HB:=m_ (Below.refl w.heap.size w)
 have H : ((spec_l1Any.f a0_1 a0_2).bind fun t244=>(if t244 = true then ((spec_l1Any.f a0_3 a0_4).bind fun t245=>(if t245 = true then ((spec_l6In.f a0_5 0 99).bind fun t246=>(spec_PktOk.j0 k (!t246) a0_0 a0_1 a0_2 a0_3 a0_4 a0_5 a0_6)) else (spec_PktOk.j0 k true a0_0 a0_1 a0_2 a0_3 a0_4 a0_5 a0_6))) else (spec_PktOk.j0 k true a0_0 a0_1 a0_2 a0_3 a0_4 a0_5 a0_6))) = some r:=h
 clear h
 have HC2:=m_ H
 clear H
 go_enter Tryd.func20,Tryd.ntmps20
 go_upto_region 1 with (first|((with_reducible refine gate_dst (N:=1) rfl ?_);refine box_event ?hg (N:=1) ?hd (cs:=#[.int .i64 a0_0,.int .i64 a0_1,.int .i64 a0_2,.int .i64 a0_3,.int .i64 a0_4,.int .i64 a0_5,.string a0_6]) (t:=26) ?hr ?_;(case hd=>rfl);(case hg=>rfl);(case hr=>first|(go_simp;done)|(go_simp;rfl));intro gb243 hg w3 hbox hb;have n0_:=m_ (l5_ (by repeat (first|(with_reducible first|exact HB.out|apply l1_|apply l2_|apply l3_)|exact HB.out)) hb);have n1_:=m_ (hbox);have n2_:=m_ ((by rw [hg];exact (l6_ (by repeat (first|(with_reducible first|exact HB.out|apply l1_|apply l2_|apply l3_)|exact HB.out))) : w.heap.size ≤ gb243));have n3_:=n2_;clear HB;have HB:=n0_;have BK243:=n1_;have GW243:=n2_;have GE243:=n3_;clear n0_ n1_ n2_ n3_;clear hb hbox hg))
 (try simp only [Act.put,s1_,s2_,s3_])
 go_cut [18] (fun v18 wc=>∃ (kq : Nat) (x18_1 : Bool),v18 = .bool x18_1 ∧ Aside0 (spec_PktOk.j0 kq x18_1 a0_0 a0_1 a0_2 a0_3 a0_4 a0_5 a0_6 = some r) ∧ Aside0 (kq ≤ k) ∧ Aside0 (wc.heap[gb243]? = some (.cells #[.int .i64 a0_0,.int .i64 a0_1,.int .i64 a0_2,.int .i64 a0_3,.int .i64 a0_4,.int .i64 a0_5,.string a0_6] 26 (0,0))) ∧ Aside0 (Below w.heap.size w wc))
 case first =>
  have H:=HC2.out
  clear HC2
  replace H:=Option.bind_eq_some_iff.mp H
  obtain ⟨t244,A40,H⟩:=H
  replace H : (if t244 = true then ((spec_l1Any.f a0_3 a0_4).bind fun t245=>(if t245 = true then ((spec_l6In.f a0_5 0 99).bind fun t246=>(spec_PktOk.j0 k (!t246) a0_0 a0_1 a0_2 a0_3 a0_4 a0_5 a0_6)) else (spec_PktOk.j0 k true a0_0 a0_1 a0_2 a0_3 a0_4 a0_5 a0_6))) else (spec_PktOk.j0 k true a0_0 a0_1 a0_2 a0_3 a0_4 a0_5 a0_6)) = some r:=H
  have A4:=m_ A40
  clear A40
  by_cases c5 : t244 = true
  ·subst c5
   have H1 : ((spec_l1Any.f a0_3 a0_4).bind fun t245=>(if t245 = true then ((spec_l6In.f a0_5 0 99).bind fun t246=>(spec_PktOk.j0 k (!t246) a0_0 a0_1 a0_2 a0_3 a0_4 a0_5 a0_6)) else (spec_PktOk.j0 k true a0_0 a0_1 a0_2 a0_3 a0_4 a0_5 a0_6))) = some r:=by rw [if_pos rfl] at H;exact H
   clear H
   have H:=H1
   clear H1
   replace H:=Option.bind_eq_some_iff.mp H
   obtain ⟨t245,A60,H⟩:=H
   replace H : (if t245 = true then ((spec_l6In.f a0_5 0 99).bind fun t246=>(spec_PktOk.j0 k (!t246) a0_0 a0_1 a0_2 a0_3 a0_4 a0_5 a0_6)) else (spec_PktOk.j0 k true a0_0 a0_1 a0_2 a0_3 a0_4 a0_5 a0_6)) = some r:=H
   have A6:=m_ A60
   clear A60
   by_cases c7 : t245 = true
   ·subst c7
    have H1 : ((spec_l6In.f a0_5 0 99).bind fun t246=>(spec_PktOk.j0 k (!t246) a0_0 a0_1 a0_2 a0_3 a0_4 a0_5 a0_6)) = some r:=by rw [if_pos rfl] at H;exact H
    clear H
    have H:=H1
    clear H1
    replace H:=Option.bind_eq_some_iff.mp H
    obtain ⟨t246,A80,H⟩:=H
    replace H : (spec_PktOk.j0 k (!t246) a0_0 a0_1 a0_2 a0_3 a0_4 a0_5 a0_6) = some r:=H
    have A8:=m_ A80
    clear A80
    have H':=m_ H
    clear H
    have hcz9_0 : w3.cell? ⟨gb243,0,none⟩ = some (.int .i64 a0_0):=(c_ BK243.out 0).trans rfl
    have hcz9_1 : w3.cell? ⟨gb243,1,none⟩ = some (.int .i64 a0_1):=(c_ BK243.out 1).trans rfl
    have hcz9_2 : w3.cell? ⟨gb243,2,none⟩ = some (.int .i64 a0_2):=(c_ BK243.out 2).trans rfl
    have hcz9_3 : w3.cell? ⟨gb243,3,none⟩ = some (.int .i64 a0_3):=(c_ BK243.out 3).trans rfl
    have hcz9_4 : w3.cell? ⟨gb243,4,none⟩ = some (.int .i64 a0_4):=(c_ BK243.out 4).trans rfl
    have hcz9_5 : w3.cell? ⟨gb243,5,none⟩ = some (.int .i64 a0_5):=(c_ BK243.out 5).trans rfl
    have hcz9_6 : w3.cell? ⟨gb243,6,none⟩ = some (.string a0_6):=(c_ BK243.out 6).trans rfl
    go_wp2_with (first|((with_reducible refine gate_callee (f:=43) rfl ?_);refine goesL_ (some 5) rfl rfl Tryd.func43 (by kernel_rfl) rfl #[.agg #[.int .i64 a0_1,.int .i64 a0_2]] rfl (by (try simp only [List.map_toArray,List.map_cons,List.map_nil]);first|done|rfl|(simp only [List.length_drop,List.length_take];rfl)) ?_;(with_reducible refine (spec_l1Any.calls a0_1 a0_2 true _ A4.out).mono ?_);rintro e w10 ⟨rfl,hb⟩;refine ⟨_,rfl,?_⟩;have n0_:=m_ (blk_below (g:=gb243) (o:=.cells #[.int .i64 a0_0,.int .i64 a0_1,.int .i64 a0_2,.int .i64 a0_3,.int .i64 a0_4,.int .i64 a0_5,.string a0_6] 26 (0,0)) (by (with_reducible repeat first|apply b1_|apply b2_|apply b3_);exact BK243.out) hb);have n1_:=m_ (l5_ (by repeat (first|(with_reducible first|exact HB.out|apply l1_|apply l2_|apply l3_|refine l4_ ?_ GE243.out)|exact HB.out)) hb);clear BK243;clear HB;have BK243:=n0_;have HB:=n1_;clear n0_ n1_;(try clear hb);(try clear hb2);(try clear hk);(try clear hi);have hcz11_0 : w10.cell? ⟨gb243,0,none⟩ = some (.int .i64 a0_0):=(c_ BK243.out 0).trans rfl;have hcz11_1 : w10.cell? ⟨gb243,1,none⟩ = some (.int .i64 a0_1):=(c_ BK243.out 1).trans rfl;have hcz11_2 : w10.cell? ⟨gb243,2,none⟩ = some (.int .i64 a0_2):=(c_ BK243.out 2).trans rfl;have hcz11_3 : w10.cell? ⟨gb243,3,none⟩ = some (.int .i64 a0_3):=(c_ BK243.out 3).trans rfl;have hcz11_4 : w10.cell? ⟨gb243,4,none⟩ = some (.int .i64 a0_4):=(c_ BK243.out 4).trans rfl;have hcz11_5 : w10.cell? ⟨gb243,5,none⟩ = some (.int .i64 a0_5):=(c_ BK243.out 5).trans rfl;have hcz11_6 : w10.cell? ⟨gb243,6,none⟩ = some (.string a0_6):=(c_ BK243.out 6).trans rfl)|(go_at_call 43;(with_reducible refine (spec_l1Any.calls a0_3 a0_4 true _ A6.out).mono ?_);rintro e w12 ⟨rfl,hb⟩;have n0_:=m_ (blk_below (g:=gb243) (o:=.cells #[.int .i64 a0_0,.int .i64 a0_1,.int .i64 a0_2,.int .i64 a0_3,.int .i64 a0_4,.int .i64 a0_5,.string a0_6] 26 (0,0)) (by (with_reducible repeat first|apply b1_|apply b2_|apply b3_);exact BK243.out) hb);have n1_:=m_ (l5_ (by repeat (first|(with_reducible first|exact HB.out|apply l1_|apply l2_|apply l3_|refine l4_ ?_ GE243.out)|exact HB.out)) hb);clear BK243;clear HB;have BK243:=n0_;have HB:=n1_;clear n0_ n1_;(try clear hb);(try clear hb2);(try clear hk);(try clear hi);have hcz13_0 : w12.cell? ⟨gb243,0,none⟩ = some (.int .i64 a0_0):=(c_ BK243.out 0).trans rfl;have hcz13_1 : w12.cell? ⟨gb243,1,none⟩ = some (.int .i64 a0_1):=(c_ BK243.out 1).trans rfl;have hcz13_2 : w12.cell? ⟨gb243,2,none⟩ = some (.int .i64 a0_2):=(c_ BK243.out 2).trans rfl;have hcz13_3 : w12.cell? ⟨gb243,3,none⟩ = some (.int .i64 a0_3):=(c_ BK243.out 3).trans rfl;have hcz13_4 : w12.cell? ⟨gb243,4,none⟩ = some (.int .i64 a0_4):=(c_ BK243.out 4).trans rfl;have hcz13_5 : w12.cell? ⟨gb243,5,none⟩ = some (.int .i64 a0_5):=(c_ BK243.out 5).trans rfl;have hcz13_6 : w12.cell? ⟨gb243,6,none⟩ = some (.string a0_6):=(c_ BK243.out 6).trans rfl)|(go_at_call 31;(with_reducible refine (spec_l6In.calls a0_5 0 99 t246 _ A8.out).mono ?_);rintro e w' ⟨rfl,⟨nd,rfl⟩⟩))
    go_meet
    case rel=>exact ⟨_,(!t246),(by first|rfl|(simp;done)|(simp [*];done)),H',⟨by first|omega|exact Nat.le_refl _⟩,⟨by (with_reducible repeat first|apply b1_|apply b2_|apply b3_);exact BK243.out⟩,⟨by repeat (first|(with_reducible first|exact HB.out|apply l1_|apply l2_|apply l3_|refine l4_ ?_ GE243.out)|exact HB.out)⟩⟩
   ·replace c7:=Bool.eq_false_iff.mpr c7
    subst c7
    have H1 : (spec_PktOk.j0 k true a0_0 a0_1 a0_2 a0_3 a0_4 a0_5 a0_6) = some r:=by rw [if_neg (show ¬ (false = true) by decide)] at H;exact H
    clear H
    have H:=H1
    clear H1
    have H':=m_ H
    clear H
    have hcz14_0 : w3.cell? ⟨gb243,0,none⟩ = some (.int .i64 a0_0):=(c_ BK243.out 0).trans rfl
    have hcz14_1 : w3.cell? ⟨gb243,1,none⟩ = some (.int .i64 a0_1):=(c_ BK243.out 1).trans rfl
    have hcz14_2 : w3.cell? ⟨gb243,2,none⟩ = some (.int .i64 a0_2):=(c_ BK243.out 2).trans rfl
    have hcz14_3 : w3.cell? ⟨gb243,3,none⟩ = some (.int .i64 a0_3):=(c_ BK243.out 3).trans rfl
    have hcz14_4 : w3.cell? ⟨gb243,4,none⟩ = some (.int .i64 a0_4):=(c_ BK243.out 4).trans rfl
    have hcz14_5 : w3.cell? ⟨gb243,5,none⟩ = some (.int .i64 a0_5):=(c_ BK243.out 5).trans rfl
    have hcz14_6 : w3.cell? ⟨gb243,6,none⟩ = some (.string a0_6):=(c_ BK243.out 6).trans rfl
    go_wp2_with (first|((with_reducible refine gate_callee (f:=43) rfl ?_);refine goesL_ (some 5) rfl rfl Tryd.func43 (by kernel_rfl) rfl #[.agg #[.int .i64 a0_1,.int .i64 a0_2]] rfl (by (try simp only [List.map_toArray,List.map_cons,List.map_nil]);first|done|rfl|(simp only [List.length_drop,List.length_take];rfl)) ?_;(with_reducible refine (spec_l1Any.calls a0_1 a0_2 true _ A4.out).mono ?_);rintro e w15 ⟨rfl,hb⟩;refine ⟨_,rfl,?_⟩;have n0_:=m_ (blk_below (g:=gb243) (o:=.cells #[.int .i64 a0_0,.int .i64 a0_1,.int .i64 a0_2,.int .i64 a0_3,.int .i64 a0_4,.int .i64 a0_5,.string a0_6] 26 (0,0)) (by (with_reducible repeat first|apply b1_|apply b2_|apply b3_);exact BK243.out) hb);have n1_:=m_ (l5_ (by repeat (first|(with_reducible first|exact HB.out|apply l1_|apply l2_|apply l3_|refine l4_ ?_ GE243.out)|exact HB.out)) hb);clear BK243;clear HB;have BK243:=n0_;have HB:=n1_;clear n0_ n1_;(try clear hb);(try clear hb2);(try clear hk);(try clear hi);have hcz16_0 : w15.cell? ⟨gb243,0,none⟩ = some (.int .i64 a0_0):=(c_ BK243.out 0).trans rfl;have hcz16_1 : w15.cell? ⟨gb243,1,none⟩ = some (.int .i64 a0_1):=(c_ BK243.out 1).trans rfl;have hcz16_2 : w15.cell? ⟨gb243,2,none⟩ = some (.int .i64 a0_2):=(c_ BK243.out 2).trans rfl;have hcz16_3 : w15.cell? ⟨gb243,3,none⟩ = some (.int .i64 a0_3):=(c_ BK243.out 3).trans rfl;have hcz16_4 : w15.cell? ⟨gb243,4,none⟩ = some (.int .i64 a0_4):=(c_ BK243.out 4).trans rfl;have hcz16_5 : w15.cell? ⟨gb243,5,none⟩ = some (.int .i64 a0_5):=(c_ BK243.out 5).trans rfl;have hcz16_6 : w15.cell? ⟨gb243,6,none⟩ = some (.string a0_6):=(c_ BK243.out 6).trans rfl)|(go_at_call 43;(with_reducible refine (spec_l1Any.calls a0_3 a0_4 false _ A6.out).mono ?_);rintro e w17 ⟨rfl,hb⟩;have n0_:=m_ (blk_below (g:=gb243) (o:=.cells #[.int .i64 a0_0,.int .i64 a0_1,.int .i64 a0_2,.int .i64 a0_3,.int .i64 a0_4,.int .i64 a0_5,.string a0_6] 26 (0,0)) (by (with_reducible repeat first|apply b1_|apply b2_|apply b3_);exact BK243.out) hb);have n1_:=m_ (l5_ (by repeat (first|(with_reducible first|exact HB.out|apply l1_|apply l2_|apply l3_|refine l4_ ?_ GE243.out)|exact HB.out)) hb);clear BK243;clear HB;have BK243:=n0_;have HB:=n1_;clear n0_ n1_;(try clear hb);(try clear hb2);(try clear hk);(try clear hi)))
    go_meet
    case rel=>exact ⟨_,(true),(by first|rfl|(simp;done)|(simp [*];done)),H',⟨by first|omega|exact Nat.le_refl _⟩,⟨by (with_reducible repeat first|apply b1_|apply b2_|apply b3_);exact BK243.out⟩,⟨by repeat (first|(with_reducible first|exact HB.out|apply l1_|apply l2_|apply l3_|refine l4_ ?_ GE243.out)|exact HB.out)⟩⟩
  ·replace c5:=Bool.eq_false_iff.mpr c5
   subst c5
   have H1 : (spec_PktOk.j0 k true a0_0 a0_1 a0_2 a0_3 a0_4 a0_5 a0_6) = some r:=by rw [if_neg (show ¬ (false = true) by decide)] at H;exact H
   clear H
   have H:=H1
   clear H1
   have H':=m_ H
   clear H
   have hcz18_0 : w3.cell? ⟨gb243,0,none⟩ = some (.int .i64 a0_0):=(c_ BK243.out 0).trans rfl
   have hcz18_1 : w3.cell? ⟨gb243,1,none⟩ = some (.int .i64 a0_1):=(c_ BK243.out 1).trans rfl
   have hcz18_2 : w3.cell? ⟨gb243,2,none⟩ = some (.int .i64 a0_2):=(c_ BK243.out 2).trans rfl
   have hcz18_3 : w3.cell? ⟨gb243,3,none⟩ = some (.int .i64 a0_3):=(c_ BK243.out 3).trans rfl
   have hcz18_4 : w3.cell? ⟨gb243,4,none⟩ = some (.int .i64 a0_4):=(c_ BK243.out 4).trans rfl
   have hcz18_5 : w3.cell? ⟨gb243,5,none⟩ = some (.int .i64 a0_5):=(c_ BK243.out 5).trans rfl
   have hcz18_6 : w3.cell? ⟨gb243,6,none⟩ = some (.string a0_6):=(c_ BK243.out 6).trans rfl
   go_wp2_with (first|((with_reducible refine gate_callee (f:=43) rfl ?_);refine goesL_ (some 5) rfl rfl Tryd.func43 (by kernel_rfl) rfl #[.agg #[.int .i64 a0_1,.int .i64 a0_2]] rfl (by (try simp only [List.map_toArray,List.map_cons,List.map_nil]);first|done|rfl|(simp only [List.length_drop,List.length_take];rfl)) ?_;(with_reducible refine (spec_l1Any.calls a0_1 a0_2 false _ A4.out).mono ?_);rintro e w19 ⟨rfl,hb⟩;refine ⟨_,rfl,?_⟩;have n0_:=m_ (blk_below (g:=gb243) (o:=.cells #[.int .i64 a0_0,.int .i64 a0_1,.int .i64 a0_2,.int .i64 a0_3,.int .i64 a0_4,.int .i64 a0_5,.string a0_6] 26 (0,0)) (by (with_reducible repeat first|apply b1_|apply b2_|apply b3_);exact BK243.out) hb);have n1_:=m_ (l5_ (by repeat (first|(with_reducible first|exact HB.out|apply l1_|apply l2_|apply l3_|refine l4_ ?_ GE243.out)|exact HB.out)) hb);clear BK243;clear HB;have BK243:=n0_;have HB:=n1_;clear n0_ n1_;(try clear hb);(try clear hb2);(try clear hk);(try clear hi)))
   go_meet
   case rel=>exact ⟨_,(true),(by first|rfl|(simp;done)|(simp [*];done)),H',⟨by first|omega|exact Nat.le_refl _⟩,⟨by (with_reducible repeat first|apply b1_|apply b2_|apply b3_);exact BK243.out⟩,⟨by repeat (first|(with_reducible first|exact HB.out|apply l1_|apply l2_|apply l3_|refine l4_ ?_ GE243.out)|exact HB.out)⟩⟩
 case rest =>
  clear HC2
  try clear c2
  try clear p2
  try clear c4
  try clear c5
  try clear c7
  try clear hcz11_0
  try clear hcz11_1
  try clear hcz11_2
  try clear hcz11_3
  try clear hcz11_4
  try clear hcz11_5
  try clear hcz11_6
  try clear hcz13_0
  try clear hcz13_1
  try clear hcz13_2
  try clear hcz13_3
  try clear hcz13_4
  try clear hcz13_5
  try clear hcz13_6
  try clear hcz14_0
  try clear hcz14_1
  try clear hcz14_2
  try clear hcz14_3
  try clear hcz14_4
  try clear hcz14_5
  try clear hcz14_6
  try clear hcz16_0
  try clear hcz16_1
  try clear hcz16_2
  try clear hcz16_3
  try clear hcz16_4
  try clear hcz16_5
  try clear hcz16_6
  try clear hcz18_0
  try clear hcz18_1
  try clear hcz18_2
  try clear hcz18_3
  try clear hcz18_4
  try clear hcz18_5
  try clear hcz18_6
  try clear hcz9_0
  try clear hcz9_1
  try clear hcz9_2
  try clear hcz9_3
  try clear hcz9_4
  try clear hcz9_5
  try clear hcz9_6
  try clear hfz11_0
  try clear hfz11_1
  try clear hfz11_2
  try clear hfz11_3
  try clear hfz11_4
  try clear hfz11_5
  try clear hfz11_6
  try clear hfz13_0
  try clear hfz13_1
  try clear hfz13_2
  try clear hfz13_3
  try clear hfz13_4
  try clear hfz13_5
  try clear hfz13_6
  try clear hfz14_0
  try clear hfz14_1
  try clear hfz14_2
  try clear hfz14_3
  try clear hfz14_4
  try clear hfz14_5
  try clear hfz14_6
  try clear hfz16_0
  try clear hfz16_1
  try clear hfz16_2
  try clear hfz16_3
  try clear hfz16_4
  try clear hfz16_5
  try clear hfz16_6
  try clear hfz18_0
  try clear hfz18_1
  try clear hfz18_2
  try clear hfz18_3
  try clear hfz18_4
  try clear hfz18_5
  try clear hfz18_6
  try clear hfz9_0
  try clear hfz9_1
  try clear hfz9_2
  try clear hfz9_3
  try clear hfz9_4
  try clear hfz9_5
  try clear hfz9_6
  obtain ⟨kq,x18_1,rfl,HA,HJ1,BK243,HB⟩:=hcut
  cases kq with
  | zero => exact absurd HA.out (by simp [spec_PktOk.j0])
  | succ kj1 =>
   have H:=HA.out
   clear HA
   simp only [spec_PktOk.j0] at H
   by_cases c20 : x18_1 = true
   ·subst c20
    have H1 : (some false) = some r:=by rw [if_pos rfl] at H;exact H
    clear H
    have H:=H1
    clear H1
    obtain rfl:=Option.some.inj H
    go_wp2
    go_ret
    exact ⟨by first|rfl|(simp [e1_,e2_] <;> rfl)|(simp [*,e1_,e2_] <;> rfl)|(simp [e1_,e2_,pk_empty1,pk_empty2];done)|(simp [*,e1_,e2_,pk_empty1,pk_empty2];done),by repeat (first|(with_reducible first|exact HB.out|apply l1_|apply l2_|apply l3_|refine l4_ ?_ GE243.out)|exact HB.out)⟩
   ·replace c20:=Bool.eq_false_iff.mpr c20
    subst c20
    have H1 : (if a0_0 = 1 then ((spec_TextOk.f kj1 a0_6).bind fun t247=>(if t247 = true then (some (!a0_6.toList.isEmpty)) else (some false))) else (if a0_0 = 2 then (some a0_6.toList.isEmpty) else (some false))) = some r:=by rw [if_neg (show ¬ (false = true) by decide)] at H;exact H
    clear H
    have H:=H1
    clear H1
    by_cases c21 : a0_0 = 1
    ·rw [if_pos c21] at H
     have c21b0 : (a0_0 == 1) = true:=beq_iff_eq.mpr c21
     have c21b1 : (a0_0 != 1) = false:=bne_eq_false_iff_eq.mpr c21
     clear c21
     replace H:=Option.bind_eq_some_iff.mp H
     obtain ⟨t247,A220,H⟩:=H
     replace H : (if t247 = true then (some (!a0_6.toList.isEmpty)) else (some false)) = some r:=H
     have A22:=m_ A220
     clear A220
     by_cases c23 : t247 = true
     ·subst c23
      have H1 : (some (!a0_6.toList.isEmpty)) = some r:=by rw [if_pos rfl] at H;exact H
      clear H
      have H:=H1
      clear H1
      obtain rfl:=Option.some.inj H
      have hcz24_0 : wc.cell? ⟨gb243,0,none⟩ = some (.int .i64 a0_0):=(c_ BK243.out 0).trans rfl
      have hcz24_1 : wc.cell? ⟨gb243,1,none⟩ = some (.int .i64 a0_1):=(c_ BK243.out 1).trans rfl
      have hcz24_2 : wc.cell? ⟨gb243,2,none⟩ = some (.int .i64 a0_2):=(c_ BK243.out 2).trans rfl
      have hcz24_3 : wc.cell? ⟨gb243,3,none⟩ = some (.int .i64 a0_3):=(c_ BK243.out 3).trans rfl
      have hcz24_4 : wc.cell? ⟨gb243,4,none⟩ = some (.int .i64 a0_4):=(c_ BK243.out 4).trans rfl
      have hcz24_5 : wc.cell? ⟨gb243,5,none⟩ = some (.int .i64 a0_5):=(c_ BK243.out 5).trans rfl
      have hcz24_6 : wc.cell? ⟨gb243,6,none⟩ = some (.string a0_6):=(c_ BK243.out 6).trans rfl
      go_wp2_with (first|((with_reducible refine gate_callee (f:=44) rfl ?_);refine goesL_ (some 25) rfl rfl Tryd.func44 (by kernel_rfl) rfl #[.string a0_6] rfl (by (try simp only [List.map_toArray,List.map_cons,List.map_nil]);first|done|rfl|(simp only [List.length_drop,List.length_take];rfl)) ?_;(with_reducible refine (spec_TextOk.calls kj1 a0_6 true _ A22.out).mono ?_);rintro e w' ⟨rfl,⟨nd,rfl⟩⟩;refine ⟨_,rfl,?_⟩))
      go_ret
      exact ⟨by first|rfl|(simp [e1_,e2_] <;> rfl)|(simp [*,e1_,e2_] <;> rfl)|(simp [e1_,e2_,pk_empty1,pk_empty2];done)|(simp [*,e1_,e2_,pk_empty1,pk_empty2];done),by repeat (first|(with_reducible first|exact HB.out|apply l1_|apply l2_|apply l3_|refine l4_ ?_ GE243.out)|exact HB.out)⟩
     ·replace c23:=Bool.eq_false_iff.mpr c23
      subst c23
      have H1 : (some false) = some r:=by rw [if_neg (show ¬ (false = true) by decide)] at H;exact H
      clear H
      have H:=H1
      clear H1
      obtain rfl:=Option.some.inj H
      have hcz25_0 : wc.cell? ⟨gb243,0,none⟩ = some (.int .i64 a0_0):=(c_ BK243.out 0).trans rfl
      have hcz25_1 : wc.cell? ⟨gb243,1,none⟩ = some (.int .i64 a0_1):=(c_ BK243.out 1).trans rfl
      have hcz25_2 : wc.cell? ⟨gb243,2,none⟩ = some (.int .i64 a0_2):=(c_ BK243.out 2).trans rfl
      have hcz25_3 : wc.cell? ⟨gb243,3,none⟩ = some (.int .i64 a0_3):=(c_ BK243.out 3).trans rfl
      have hcz25_4 : wc.cell? ⟨gb243,4,none⟩ = some (.int .i64 a0_4):=(c_ BK243.out 4).trans rfl
      have hcz25_5 : wc.cell? ⟨gb243,5,none⟩ = some (.int .i64 a0_5):=(c_ BK243.out 5).trans rfl
      have hcz25_6 : wc.cell? ⟨gb243,6,none⟩ = some (.string a0_6):=(c_ BK243.out 6).trans rfl
      go_wp2_with (first|((with_reducible refine gate_callee (f:=44) rfl ?_);refine goesL_ (some 25) rfl rfl Tryd.func44 (by kernel_rfl) rfl #[.string a0_6] rfl (by (try simp only [List.map_toArray,List.map_cons,List.map_nil]);first|done|rfl|(simp only [List.length_drop,List.length_take];rfl)) ?_;(with_reducible refine (spec_TextOk.calls kj1 a0_6 false _ A22.out).mono ?_);rintro e w' ⟨rfl,⟨nd,rfl⟩⟩;refine ⟨_,rfl,?_⟩))
      go_ret
      exact ⟨by first|rfl|(simp [e1_,e2_] <;> rfl)|(simp [*,e1_,e2_] <;> rfl)|(simp [e1_,e2_,pk_empty1,pk_empty2];done)|(simp [*,e1_,e2_,pk_empty1,pk_empty2];done),by repeat (first|(with_reducible first|exact HB.out|apply l1_|apply l2_|apply l3_|refine l4_ ?_ GE243.out)|exact HB.out)⟩
    ·rw [if_neg c21] at H
     have c21b0 : (a0_0 == 1) = false:=beq_eq_false_iff_ne.mpr c21
     have c21b1 : (a0_0 != 1) = true:=bne_iff_ne.mpr c21
     by_cases c26 : a0_0 = 2
     ·rw [if_pos c26] at H
      have c26b0 : (a0_0 == 2) = true:=beq_iff_eq.mpr c26
      have c26b1 : (a0_0 != 2) = false:=bne_eq_false_iff_eq.mpr c26
      clear c26
      obtain rfl:=Option.some.inj H
      have hcz27_0 : wc.cell? ⟨gb243,0,none⟩ = some (.int .i64 a0_0):=(c_ BK243.out 0).trans rfl
      have hcz27_1 : wc.cell? ⟨gb243,1,none⟩ = some (.int .i64 a0_1):=(c_ BK243.out 1).trans rfl
      have hcz27_2 : wc.cell? ⟨gb243,2,none⟩ = some (.int .i64 a0_2):=(c_ BK243.out 2).trans rfl
      have hcz27_3 : wc.cell? ⟨gb243,3,none⟩ = some (.int .i64 a0_3):=(c_ BK243.out 3).trans rfl
      have hcz27_4 : wc.cell? ⟨gb243,4,none⟩ = some (.int .i64 a0_4):=(c_ BK243.out 4).trans rfl
      have hcz27_5 : wc.cell? ⟨gb243,5,none⟩ = some (.int .i64 a0_5):=(c_ BK243.out 5).trans rfl
      have hcz27_6 : wc.cell? ⟨gb243,6,none⟩ = some (.string a0_6):=(c_ BK243.out 6).trans rfl
      go_wp2
      go_ret
      exact ⟨by first|rfl|(simp [e1_,e2_] <;> rfl)|(simp [*,e1_,e2_] <;> rfl)|(simp [e1_,e2_,pk_empty1,pk_empty2];done)|(simp [*,e1_,e2_,pk_empty1,pk_empty2];done),by repeat (first|(with_reducible first|exact HB.out|apply l1_|apply l2_|apply l3_|refine l4_ ?_ GE243.out)|exact HB.out)⟩
     ·rw [if_neg c26] at H
      have c26b0 : (a0_0 == 2) = false:=beq_eq_false_iff_ne.mpr c26
      have c26b1 : (a0_0 != 2) = true:=bne_iff_ne.mpr c26
      obtain rfl:=Option.some.inj H
      have hcz28_0 : wc.cell? ⟨gb243,0,none⟩ = some (.int .i64 a0_0):=(c_ BK243.out 0).trans rfl
      have hcz28_1 : wc.cell? ⟨gb243,1,none⟩ = some (.int .i64 a0_1):=(c_ BK243.out 1).trans rfl
      have hcz28_2 : wc.cell? ⟨gb243,2,none⟩ = some (.int .i64 a0_2):=(c_ BK243.out 2).trans rfl
      have hcz28_3 : wc.cell? ⟨gb243,3,none⟩ = some (.int .i64 a0_3):=(c_ BK243.out 3).trans rfl
      have hcz28_4 : wc.cell? ⟨gb243,4,none⟩ = some (.int .i64 a0_4):=(c_ BK243.out 4).trans rfl
      have hcz28_5 : wc.cell? ⟨gb243,5,none⟩ = some (.int .i64 a0_5):=(c_ BK243.out 5).trans rfl
      have hcz28_6 : wc.cell? ⟨gb243,6,none⟩ = some (.string a0_6):=(c_ BK243.out 6).trans rfl
      go_wp2
      go_ret
      exact ⟨by first|rfl|(simp [e1_,e2_] <;> rfl)|(simp [*,e1_,e2_] <;> rfl)|(simp [e1_,e2_,pk_empty1,pk_empty2];done)|(simp [*,e1_,e2_,pk_empty1,pk_empty2];done),by repeat (first|(with_reducible first|exact HB.out|apply l1_|apply l2_|apply l3_|refine l4_ ?_ GE243.out)|exact HB.out)⟩

/-! ### spec_PktText: function 9 -/
def spec_PktText.f (k : Nat) (a0_0 : Int) (a0_1 : Int) (a0_2 : Int) (a0_3 : Int) (a0_4 : Int) (a0_5 : Int) (a0_6 : ByteArray) : Option (ByteArray) := (spec_PktOk.f k a0_0 a0_1 a0_2 a0_3 a0_4 a0_5 a0_6).bind fun t249 => (if t249 = true then ((spec_EndText.f k a0_1 a0_2).bind fun t250 => (if t250.size + 1 ≤ 9223372036854775807 then ((spec_EndText.f k a0_3 a0_4).bind fun t251 => (if t250.size + 1 + t251.size ≤ 9223372036854775807 then (if t250.size + 1 + t251.size + 1 ≤ 9223372036854775807 then ((spec_l6Dec.f k a0_5).bind fun t252 => (if t250.size + 1 + t251.size + 1 + t252.size ≤ 9223372036854775807 then (if a0_0 = 2 then (if 4 + (t250.size + 1 + t251.size + 1 + t252.size) ≤ 9223372036854775807 then (some ((⟨#[97, 99, 107, 32]⟩ : ByteArray) ++ ((((t250 ++ (⟨#[32]⟩ : ByteArray)) ++ t251) ++ (⟨#[32]⟩ : ByteArray)) ++ t252))) else (none)) else (if 5 + (t250.size + 1 + t251.size + 1 + t252.size) ≤ 9223372036854775807 then (if 5 + (t250.size + 1 + t251.size + 1 + t252.size) + 1 ≤ 9223372036854775807 then (if 5 + (t250.size + 1 + t251.size + 1 + t252.size) + 1 + a0_6.size ≤ 9223372036854775807 then (some ((((⟨#[100, 97, 116, 97, 32]⟩ : ByteArray) ++ ((((t250 ++ (⟨#[32]⟩ : ByteArray)) ++ t251) ++ (⟨#[32]⟩ : ByteArray)) ++ t252)) ++ (⟨#[32]⟩ : ByteArray)) ++ a0_6)) else (none)) else (none)) else (none))) else (none))) else (none)) else (none))) else (none))) else (some (⟨#[]⟩ : ByteArray)))
theorem spec_PktText.mono : ∀ a0 a1 a2 a3 a4 a5 a6 k, LeO (spec_PktText.f k a0 a1 a2 a3 a4 a5 a6) (spec_PktText.f (k + 1) a0 a1 a2 a3 a4 a5 a6) := by
 intro a0 a1 a2 a3 a4 a5 a6 k
 unfold spec_PktText.f
 repeat' first
   | (with_reducible exact spec_EndText.mono _ _ _)
   | (with_reducible exact spec_PktOk.mono _ _ _ _ _ _ _ _)
   | (with_reducible exact spec_l6Dec.mono _ _)
   | (with_reducible exact LeO.refl _)
   | (with_reducible exact LeO.none _)
   | (with_reducible refine LeO.ite ?_ ?_)
   | (with_reducible refine LeO.bind ?_ (fun _ => ?_))
   | exact spec_EndText.mono _ _ _
   | exact spec_PktOk.mono _ _ _ _ _ _ _ _
   | exact spec_l6Dec.mono _ _
   | exact LeO.none _
   | refine LeO.ite ?_ ?_
   | refine LeO.bind ?_ (fun _ => ?_)
def spec_PktText.T3 : Bool × List (List Nat × List Nat) := (true, [([], []), ([0], [0]), ([1], [1]), ([2], [2]), ([], []), ([4], [4]), ([5, 2], [5]), ([3, 6], [3, 6]), ([7], [7]), ([], []), ([9], [9]), ([10, 6], [10]), ([8, 11], [8, 11]), ([12, 11, 0, 1, 2, 3, 4, 5, 6, 7, 8, 9, 10, 11, 12], [12])])
def spec_PktText.B3 : List Nat := [0, 1, 3, 7, 0, 16, 55, 127, 255, 0, 512, 1655, 4095, 8191]
theorem spec_PktText.tab3 : rtab .any (opsOf Tryd.f9 3) = spec_PktText.T3 := by kernel_rfl
theorem spec_PktText.bits3 : waitsOk spec_PktText.T3.2 spec_PktText.B3 = true := by kernel_rfl
set_option maxHeartbeats 8000000 in
set_option maxRecDepth 100000 in
theorem spec_PktText.calls (k : Nat) (a0_0 : Int) (a0_1 : Int) (a0_2 : Int) (a0_3 : Int) (a0_4 : Int) (a0_5 : Int) (a0_6 : ByteArray) (r : ByteArray) (w : World) (h : spec_PktText.f k a0_0 a0_1 a0_2 a0_3 a0_4 a0_5 a0_6 = some r) :
  Calls Tryd.prog 9 #[.agg #[.int .i64 a0_0,.int .i64 a0_1,.int .i64 a0_2,.int .i64 a0_3,.int .i64 a0_4,.int .i64 a0_5,.string a0_6]] w fun e w'=>e = .returned (.string r) ∧ Below w.heap.size w w':=by
 have hu26:=Tryd.underlying26
 have hu24:=Tryd.underlying24
 have HB:=m_ (Below.refl w.heap.size w)
 have H : ((spec_PktOk.f k a0_0 a0_1 a0_2 a0_3 a0_4 a0_5 a0_6).bind fun t249=>(if t249 = true then ((spec_EndText.f k a0_1 a0_2).bind fun t250=>(if t250.size + 1 ≤ 9223372036854775807 then ((spec_EndText.f k a0_3 a0_4).bind fun t251=>(if t250.size + 1 + t251.size ≤ 9223372036854775807 then (if t250.size + 1 + t251.size + 1 ≤ 9223372036854775807 then ((spec_l6Dec.f k a0_5).bind fun t252=>(if t250.size + 1 + t251.size + 1 + t252.size ≤ 9223372036854775807 then (if a0_0 = 2 then (if 4 + (t250.size + 1 + t251.size + 1 + t252.size) ≤ 9223372036854775807 then (some ((⟨#[97,99,107,32]⟩ : ByteArray) ++ ((((t250 ++ (⟨#[32]⟩ : ByteArray)) ++ t251) ++ (⟨#[32]⟩ : ByteArray)) ++ t252))) else (none)) else (if 5 + (t250.size + 1 + t251.size + 1 + t252.size) ≤ 9223372036854775807 then (if 5 + (t250.size + 1 + t251.size + 1 + t252.size) + 1 ≤ 9223372036854775807 then (if 5 + (t250.size + 1 + t251.size + 1 + t252.size) + 1 + a0_6.size ≤ 9223372036854775807 then (some ((((⟨#[100,97,116,97,32]⟩ : ByteArray) ++ ((((t250 ++ (⟨#[32]⟩ : ByteArray)) ++ t251) ++ (⟨#[32]⟩ : ByteArray)) ++ t252)) ++ (⟨#[32]⟩ : ByteArray)) ++ a0_6)) else (none)) else (none)) else (none))) else (none))) else (none)) else (none))) else (none))) else (some (⟨#[]⟩ : ByteArray)))) = some r:=h
 clear h
 replace H:=Option.bind_eq_some_iff.mp H
 obtain ⟨t249,A20,H⟩:=H
 replace H : (if t249 = true then ((spec_EndText.f k a0_1 a0_2).bind fun t250=>(if t250.size + 1 ≤ 9223372036854775807 then ((spec_EndText.f k a0_3 a0_4).bind fun t251=>(if t250.size + 1 + t251.size ≤ 9223372036854775807 then (if t250.size + 1 + t251.size + 1 ≤ 9223372036854775807 then ((spec_l6Dec.f k a0_5).bind fun t252=>(if t250.size + 1 + t251.size + 1 + t252.size ≤ 9223372036854775807 then (if a0_0 = 2 then (if 4 + (t250.size + 1 + t251.size + 1 + t252.size) ≤ 9223372036854775807 then (some ((⟨#[97,99,107,32]⟩ : ByteArray) ++ ((((t250 ++ (⟨#[32]⟩ : ByteArray)) ++ t251) ++ (⟨#[32]⟩ : ByteArray)) ++ t252))) else (none)) else (if 5 + (t250.size + 1 + t251.size + 1 + t252.size) ≤ 9223372036854775807 then (if 5 + (t250.size + 1 + t251.size + 1 + t252.size) + 1 ≤ 9223372036854775807 then (if 5 + (t250.size + 1 + t251.size + 1 + t252.size) + 1 + a0_6.size ≤ 9223372036854775807 then (some ((((⟨#[100,97,116,97,32]⟩ : ByteArray) ++ ((((t250 ++ (⟨#[32]⟩ : ByteArray)) ++ t251) ++ (⟨#[32]⟩ : ByteArray)) ++ t252)) ++ (⟨#[32]⟩ : ByteArray)) ++ a0_6)) else (none)) else (none)) else (none))) else (none))) else (none)) else (none))) else (none))) else (some (⟨#[]⟩ : ByteArray))) = some r:=H
 have A2:=m_ A20
 clear A20
 by_cases c3 : t249 = true
 ·subst c3
  have H1 : ((spec_EndText.f k a0_1 a0_2).bind fun t250=>(if t250.size + 1 ≤ 9223372036854775807 then ((spec_EndText.f k a0_3 a0_4).bind fun t251=>(if t250.size + 1 + t251.size ≤ 9223372036854775807 then (if t250.size + 1 + t251.size + 1 ≤ 9223372036854775807 then ((spec_l6Dec.f k a0_5).bind fun t252=>(if t250.size + 1 + t251.size + 1 + t252.size ≤ 9223372036854775807 then (if a0_0 = 2 then (if 4 + (t250.size + 1 + t251.size + 1 + t252.size) ≤ 9223372036854775807 then (some ((⟨#[97,99,107,32]⟩ : ByteArray) ++ ((((t250 ++ (⟨#[32]⟩ : ByteArray)) ++ t251) ++ (⟨#[32]⟩ : ByteArray)) ++ t252))) else (none)) else (if 5 + (t250.size + 1 + t251.size + 1 + t252.size) ≤ 9223372036854775807 then (if 5 + (t250.size + 1 + t251.size + 1 + t252.size) + 1 ≤ 9223372036854775807 then (if 5 + (t250.size + 1 + t251.size + 1 + t252.size) + 1 + a0_6.size ≤ 9223372036854775807 then (some ((((⟨#[100,97,116,97,32]⟩ : ByteArray) ++ ((((t250 ++ (⟨#[32]⟩ : ByteArray)) ++ t251) ++ (⟨#[32]⟩ : ByteArray)) ++ t252)) ++ (⟨#[32]⟩ : ByteArray)) ++ a0_6)) else (none)) else (none)) else (none))) else (none))) else (none)) else (none))) else (none))) = some r:=by rw [if_pos rfl] at H;exact H
  clear H
  have H:=H1
  clear H1
  replace H:=Option.bind_eq_some_iff.mp H
  obtain ⟨t250,A40,H⟩:=H
  replace H : (if t250.size + 1 ≤ 9223372036854775807 then ((spec_EndText.f k a0_3 a0_4).bind fun t251=>(if t250.size + 1 + t251.size ≤ 9223372036854775807 then (if t250.size + 1 + t251.size + 1 ≤ 9223372036854775807 then ((spec_l6Dec.f k a0_5).bind fun t252=>(if t250.size + 1 + t251.size + 1 + t252.size ≤ 9223372036854775807 then (if a0_0 = 2 then (if 4 + (t250.size + 1 + t251.size + 1 + t252.size) ≤ 9223372036854775807 then (some ((⟨#[97,99,107,32]⟩ : ByteArray) ++ ((((t250 ++ (⟨#[32]⟩ : ByteArray)) ++ t251) ++ (⟨#[32]⟩ : ByteArray)) ++ t252))) else (none)) else (if 5 + (t250.size + 1 + t251.size + 1 + t252.size) ≤ 9223372036854775807 then (if 5 + (t250.size + 1 + t251.size + 1 + t252.size) + 1 ≤ 9223372036854775807 then (if 5 + (t250.size + 1 + t251.size + 1 + t252.size) + 1 + a0_6.size ≤ 9223372036854775807 then (some ((((⟨#[100,97,116,97,32]⟩ : ByteArray) ++ ((((t250 ++ (⟨#[32]⟩ : ByteArray)) ++ t251) ++ (⟨#[32]⟩ : ByteArray)) ++ t252)) ++ (⟨#[32]⟩ : ByteArray)) ++ a0_6)) else (none)) else (none)) else (none))) else (none))) else (none)) else (none))) else (none)) = some r:=H
  have A4:=m_ A40
  clear A40
  by_cases c5 : t250.size + 1 ≤ 9223372036854775807
  ·rw [if_pos c5] at H
   have c5b0:=eq_true c5
   have c5b1 : decide (t250.size + 1 ≤ 9223372036854775807) = true:=decide_eq_true c5
   try have c5b2 : (9223372036854775807 < t250.size + 1) = False:=eq_false (Nat.not_lt.2 c5)
   replace H:=Option.bind_eq_some_iff.mp H
   obtain ⟨t251,A60,H⟩:=H
   replace H : (if t250.size + 1 + t251.size ≤ 9223372036854775807 then (if t250.size + 1 + t251.size + 1 ≤ 9223372036854775807 then ((spec_l6Dec.f k a0_5).bind fun t252=>(if t250.size + 1 + t251.size + 1 + t252.size ≤ 9223372036854775807 then (if a0_0 = 2 then (if 4 + (t250.size + 1 + t251.size + 1 + t252.size) ≤ 9223372036854775807 then (some ((⟨#[97,99,107,32]⟩ : ByteArray) ++ ((((t250 ++ (⟨#[32]⟩ : ByteArray)) ++ t251) ++ (⟨#[32]⟩ : ByteArray)) ++ t252))) else (none)) else (if 5 + (t250.size + 1 + t251.size + 1 + t252.size) ≤ 9223372036854775807 then (if 5 + (t250.size + 1 + t251.size + 1 + t252.size) + 1 ≤ 9223372036854775807 then (if 5 + (t250.size + 1 + t251.size + 1 + t252.size) + 1 + a0_6.size ≤ 9223372036854775807 then (some ((((⟨#[100,97,116,97,32]⟩ : ByteArray) ++ ((((t250 ++ (⟨#[32]⟩ : ByteArray)) ++ t251) ++ (⟨#[32]⟩ : ByteArray)) ++ t252)) ++ (⟨#[32]⟩ : ByteArray)) ++ a0_6)) else (none)) else (none)) else (none))) else (none))) else (none)) else (none)) = some r:=H
   have A6:=m_ A60
   clear A60
   by_cases c7 : t250.size + 1 + t251.size ≤ 9223372036854775807
   ·rw [if_pos c7] at H
    have c7b0:=eq_true c7
    have c7b1 : decide (t250.size + 1 + t251.size ≤ 9223372036854775807) = true:=decide_eq_true c7
    try have c7b2 : (9223372036854775807 < t250.size + 1 + t251.size) = False:=eq_false (Nat.not_lt.2 c7)
    by_cases c8 : t250.size + 1 + t251.size + 1 ≤ 9223372036854775807
    ·rw [if_pos c8] at H
     have c8b0:=eq_true c8
     have c8b1 : decide (t250.size + 1 + t251.size + 1 ≤ 9223372036854775807) = true:=decide_eq_true c8
     try have c8b2 : (9223372036854775807 < t250.size + 1 + t251.size + 1) = False:=eq_false (Nat.not_lt.2 c8)
     replace H:=Option.bind_eq_some_iff.mp H
     obtain ⟨t252,A90,H⟩:=H
     replace H : (if t250.size + 1 + t251.size + 1 + t252.size ≤ 9223372036854775807 then (if a0_0 = 2 then (if 4 + (t250.size + 1 + t251.size + 1 + t252.size) ≤ 9223372036854775807 then (some ((⟨#[97,99,107,32]⟩ : ByteArray) ++ ((((t250 ++ (⟨#[32]⟩ : ByteArray)) ++ t251) ++ (⟨#[32]⟩ : ByteArray)) ++ t252))) else (none)) else (if 5 + (t250.size + 1 + t251.size + 1 + t252.size) ≤ 9223372036854775807 then (if 5 + (t250.size + 1 + t251.size + 1 + t252.size) + 1 ≤ 9223372036854775807 then (if 5 + (t250.size + 1 + t251.size + 1 + t252.size) + 1 + a0_6.size ≤ 9223372036854775807 then (some ((((⟨#[100,97,116,97,32]⟩ : ByteArray) ++ ((((t250 ++ (⟨#[32]⟩ : ByteArray)) ++ t251) ++ (⟨#[32]⟩ : ByteArray)) ++ t252)) ++ (⟨#[32]⟩ : ByteArray)) ++ a0_6)) else (none)) else (none)) else (none))) else (none)) = some r:=H
     have A9:=m_ A90
     clear A90
     by_cases c10 : t250.size + 1 + t251.size + 1 + t252.size ≤ 9223372036854775807
     ·rw [if_pos c10] at H
      have c10b0:=eq_true c10
      have c10b1 : decide (t250.size + 1 + t251.size + 1 + t252.size ≤ 9223372036854775807) = true:=decide_eq_true c10
      try have c10b2 : (9223372036854775807 < t250.size + 1 + t251.size + 1 + t252.size) = False:=eq_false (Nat.not_lt.2 c10)
      by_cases c11 : a0_0 = 2
      ·rw [if_pos c11] at H
       have c11b0 : (a0_0 == 2) = true:=beq_iff_eq.mpr c11
       have c11b1 : (a0_0 != 2) = false:=bne_eq_false_iff_eq.mpr c11
       clear c11
       by_cases c12 : 4 + (t250.size + 1 + t251.size + 1 + t252.size) ≤ 9223372036854775807
       ·rw [if_pos c12] at H
        have c12b0:=eq_true c12
        have c12b1 : decide (4 + (t250.size + 1 + t251.size + 1 + t252.size) ≤ 9223372036854775807) = true:=decide_eq_true c12
        try have c12b2 : (9223372036854775807 < 4 + (t250.size + 1 + t251.size + 1 + t252.size)) = False:=eq_false (Nat.not_lt.2 c12)
        obtain rfl:=Option.some.inj H
        go_enter Tryd.func9,Tryd.ntmps9
        try go_wp2_with (first|((with_reducible refine gate_dst (N:=1) rfl ?_);refine box_event ?hg (N:=1) ?hd (cs:=#[.int .i64 a0_0,.int .i64 a0_1,.int .i64 a0_2,.int .i64 a0_3,.int .i64 a0_4,.int .i64 a0_5,.string a0_6]) (t:=26) ?hr ?_;(case hd=>rfl);(case hg=>rfl);(case hr=>first|(go_simp;done)|(go_simp;rfl));intro gb248 hg w13 hbox hb;have n0_:=m_ (l5_ (by repeat (first|(with_reducible first|exact HB.out|apply l1_|apply l2_|apply l3_)|exact HB.out)) hb);have n1_:=m_ (hbox);have n2_:=m_ ((by rw [hg];exact (l6_ (by repeat (first|(with_reducible first|exact HB.out|apply l1_|apply l2_|apply l3_)|exact HB.out))) : w.heap.size ≤ gb248));have n3_:=m_ ((by rw [hg];exact (l6_ (by repeat (first|(with_reducible first|exact HB.out|apply l1_|apply l2_|apply l3_)|exact HB.out))) : w.heap.size ≤ gb248));clear HB;have HB:=n0_;have BK248:=n1_;have GW248:=n2_;have GE248:=n3_;clear n0_ n1_ n2_ n3_;clear hb hbox hg;have hcz14_0 : w13.cell? ⟨gb248,0,none⟩ = some (.int .i64 a0_0):=(c_ BK248.out 0).trans rfl;have hcz14_1 : w13.cell? ⟨gb248,1,none⟩ = some (.int .i64 a0_1):=(c_ BK248.out 1).trans rfl;have hcz14_2 : w13.cell? ⟨gb248,2,none⟩ = some (.int .i64 a0_2):=(c_ BK248.out 2).trans rfl;have hcz14_3 : w13.cell? ⟨gb248,3,none⟩ = some (.int .i64 a0_3):=(c_ BK248.out 3).trans rfl;have hcz14_4 : w13.cell? ⟨gb248,4,none⟩ = some (.int .i64 a0_4):=(c_ BK248.out 4).trans rfl;have hcz14_5 : w13.cell? ⟨gb248,5,none⟩ = some (.int .i64 a0_5):=(c_ BK248.out 5).trans rfl;have hcz14_6 : w13.cell? ⟨gb248,6,none⟩ = some (.string a0_6):=(c_ BK248.out 6).trans rfl)|((with_reducible refine gate_callee (f:=20) rfl ?_);refine goesL_ (some 5) rfl rfl Tryd.func20 (by kernel_rfl) rfl #[.agg #[.int .i64 a0_0,.int .i64 a0_1,.int .i64 a0_2,.int .i64 a0_3,.int .i64 a0_4,.int .i64 a0_5,.string a0_6]] rfl (by (try simp only [List.map_toArray,List.map_cons,List.map_nil]);first|done|rfl|(simp only [List.length_drop,List.length_take];rfl)) ?_;(with_reducible refine (spec_PktOk.calls k a0_0 a0_1 a0_2 a0_3 a0_4 a0_5 a0_6 true _ A2.out).mono ?_);rintro e w15 ⟨rfl,hb⟩;refine ⟨_,rfl,?_⟩;have n0_:=m_ (blk_below (g:=gb248) (o:=.cells #[.int .i64 a0_0,.int .i64 a0_1,.int .i64 a0_2,.int .i64 a0_3,.int .i64 a0_4,.int .i64 a0_5,.string a0_6] 26 (0,0)) (by (with_reducible repeat first|apply b1_|apply b2_|apply b3_);exact BK248.out) hb);have n1_:=m_ (l5_ (by repeat (first|(with_reducible first|exact HB.out|apply l1_|apply l2_|apply l3_|refine l4_ ?_ GE248.out)|exact HB.out)) hb);clear BK248;clear HB;have BK248:=n0_;have HB:=n1_;clear n0_ n1_;(try clear hb);(try clear hb2);(try clear hk);(try clear hi)))
        have n0_:=m_ (b2_ BK248.out)
        have n1_:=m_ (l3_ HB.out)
        clear BK248
        clear HB
        have BK248:=n0_
        have HB:=n1_
        clear n0_ n1_
        refine start_ (n:=14) (S:=fun w'=>w'.cell? ⟨gb248,0,none⟩ = some (.int .i64 a0_0) ∧ w'.cell? ⟨gb248,1,none⟩ = some (.int .i64 a0_1) ∧ w'.cell? ⟨gb248,2,none⟩ = some (.int .i64 a0_2) ∧ w'.cell? ⟨gb248,3,none⟩ = some (.int .i64 a0_3) ∧ w'.cell? ⟨gb248,4,none⟩ = some (.int .i64 a0_4) ∧ w'.cell? ⟨gb248,5,none⟩ = some (.int .i64 a0_5) ∧ w'.cell? ⟨gb248,6,none⟩ = some (.string a0_6)) (ds:=[]) #[false,false,false,false,false,false,false,false,false,false,false,false,false,false] (by kernel_rfl) rfl rfl ⟨(c_ BK248.out 0).trans rfl,(c_ BK248.out 1).trans rfl,(c_ BK248.out 2).trans rfl,(c_ BK248.out 3).trans rfl,(c_ BK248.out 4).trans rfl,(c_ BK248.out 5).trans rfl,(c_ BK248.out 6).trans rfl⟩ (fun hHeld=>?_);refine with_tabW spec_PktText.tab3 spec_PktText.bits3 (fun HT_ HW_=>?_)
        generalize w15.drew = w16 at BK248 HB hHeld ⊢
        refine pure_ (i:=0) (N:=some 7) (v:=?_) (a':=?_) #[true,false,false,false,false,false,false,false,false,false,false,false,false,false] rfl rfl (any_of HT_.out (by kernel_rfl)) (fun _ _ _ h=>h) (Or.inl ⟨by rfl,?_⟩) ?_ ?_
        rotate_left
        ·intro w'
         go_simp
         with_reducible rfl
        rotate_left
        ·simp only [Act.put,s1_,s2_,s3_,i64_w,i32_w]
         rfl
        refine pure_ (i:=4) (N:=some 11) (v:=?_) (a':=?_) #[true,false,false,false,true,false,false,false,false,false,false,false,false,false] rfl rfl (any_of HT_.out (by kernel_rfl)) (fun _ _ _ h=>h) (Or.inl ⟨by rfl,?_⟩) ?_ ?_
        rotate_left
        ·intro w'
         go_simp
         with_reducible rfl
        rotate_left
        ·simp only [Act.put,s1_,s2_,s3_,i64_w,i32_w]
         rfl
        refine pure_ (i:=9) (N:=some 16) (v:=?_) (a':=?_) #[true,false,false,false,true,false,false,false,false,true,false,false,false,false] rfl rfl (any_of HT_.out (by kernel_rfl)) (fun _ _ _ h=>h) (Or.inl ⟨by rfl,?_⟩) ?_ ?_
        rotate_left
        ·intro w'
         go_simp
         with_reducible rfl
        rotate_left
        ·simp only [Act.put,s1_,s2_,s3_,i64_w,i32_w]
         rfl
        refine take_ (i:=1) (N:=some 8) (v:=?_) (a':=?_) #[true,true,false,false,true,false,false,false,false,true,false,false,false,false] rfl rfl (take_ofW HT_.out HW_.out (by kernel_rfl)) (fun _ _ _ h=>h) (Or.inl ⟨by rfl,?_⟩) hHeld ?_ ?_
        rotate_left
        ·rintro w' ⟨s0,s1,s2,s3,s4,s5,s6⟩
         go_simp
         with_reducible rfl
        rotate_left
        ·simp only [Act.put,s1_,s2_,s3_,i64_w,i32_w]
         rfl
        refine take_ (i:=5) (N:=some 12) (v:=?_) (a':=?_) #[true,true,false,false,true,true,false,false,false,true,false,false,false,false] rfl rfl (take_ofW HT_.out HW_.out (by kernel_rfl)) (fun _ _ _ h=>h) (Or.inl ⟨by rfl,?_⟩) hHeld ?_ ?_
        rotate_left
        ·rintro w' ⟨s0,s1,s2,s3,s4,s5,s6⟩
         go_simp
         with_reducible rfl
        rotate_left
        ·simp only [Act.put,s1_,s2_,s3_,i64_w,i32_w]
         rfl
        refine take_ (i:=10) (N:=some 17) (v:=?_) (a':=?_) #[true,true,false,false,true,true,false,false,false,true,true,false,false,false] rfl rfl (take_ofW HT_.out HW_.out (by kernel_rfl)) (fun _ _ _ h=>h) (Or.inl ⟨by rfl,?_⟩) hHeld ?_ ?_
        rotate_left
        ·rintro w' ⟨s0,s1,s2,s3,s4,s5,s6⟩
         go_simp
         with_reducible rfl
        rotate_left
        ·simp only [Act.put,s1_,s2_,s3_,i64_w,i32_w]
         rfl
        refine one_ (i:=2) (N:=some 9) #[true,true,true,false,true,true,false,false,false,true,true,false,false,false] rfl rfl (one_of HT_.out (by kernel_rfl)) (by decide) (fun K hK=>?_)
        refine goes_ Tryd.func21 (by kernel_rfl) rfl #[.agg #[.int .i64 a0_1,.int .i64 a0_2]] (by rfl) rfl rfl (by (try simp only [List.map_toArray,List.map_cons,List.map_nil]);first|done|rfl|(simp only [List.length_drop,List.length_take];rfl)) ?_
        with_reducible refine (spec_EndText.calls k a0_1 a0_2 t250 _ A4.out).mono ?_
        rintro e w17 ⟨rfl,hb⟩
        refine ⟨_,rfl,?_⟩
        have n0_:=m_ (blk_below (g:=gb248) (o:=.cells #[.int .i64 a0_0,.int .i64 a0_1,.int .i64 a0_2,.int .i64 a0_3,.int .i64 a0_4,.int .i64 a0_5,.string a0_6] 26 (0,0)) (by (with_reducible repeat first|apply b1_|apply b2_|apply b3_);exact BK248.out) hb)
        have n1_:=m_ (l5_ (by repeat (first|(with_reducible first|exact HB.out|apply l1_|apply l2_|apply l3_|refine l4_ ?_ GE248.out)|exact HB.out)) hb)
        clear BK248
        clear HB
        have BK248:=n0_
        have HB:=n1_
        clear n0_ n1_
        (try clear hb)
        (try clear hb2)
        (try clear hk)
        (try clear hi)
        refine hK.out _ _ ⟨(c_ BK248.out 0).trans rfl,(c_ BK248.out 1).trans rfl,(c_ BK248.out 2).trans rfl,(c_ BK248.out 3).trans rfl,(c_ BK248.out 4).trans rfl,(c_ BK248.out 5).trans rfl,(c_ BK248.out 6).trans rfl⟩ (fun hHeld=>?_)
        clear hK K
        refine norm_ (a':=?_) ?_ ?_
        rotate_left
        ·show Act.put _ (some 9) _ = _
         simp only [Act.put,s1_,s2_,s3_,i64_w,i32_w]
         rfl
        refine pure_ (i:=3) (N:=some 10) (v:=?_) (a':=?_) #[true,true,true,true,true,true,false,false,false,true,true,false,false,false] rfl rfl (any_of HT_.out (by kernel_rfl)) (fun _ _ _ h=>h) (Or.inl ⟨by rfl,?_⟩) ?_ ?_
        rotate_left
        ·intro w'
         go_simp
         with_reducible rfl
        rotate_left
        ·simp only [Act.put,s1_,s2_,s3_,i64_w,i32_w]
         rfl
        refine one_ (i:=6) (N:=some 13) #[true,true,true,true,true,true,true,false,false,true,true,false,false,false] rfl rfl (one_of HT_.out (by kernel_rfl)) (by decide) (fun K hK=>?_)
        refine goes_ Tryd.func21 (by kernel_rfl) rfl #[.agg #[.int .i64 a0_3,.int .i64 a0_4]] (by rfl) rfl rfl (by (try simp only [List.map_toArray,List.map_cons,List.map_nil]);first|done|rfl|(simp only [List.length_drop,List.length_take];rfl)) ?_
        with_reducible refine (spec_EndText.calls k a0_3 a0_4 t251 _ A6.out).mono ?_
        rintro e w18 ⟨rfl,hb⟩
        refine ⟨_,rfl,?_⟩
        have n0_:=m_ (blk_below (g:=gb248) (o:=.cells #[.int .i64 a0_0,.int .i64 a0_1,.int .i64 a0_2,.int .i64 a0_3,.int .i64 a0_4,.int .i64 a0_5,.string a0_6] 26 (0,0)) (by (with_reducible repeat first|apply b1_|apply b2_|apply b3_);exact BK248.out) hb)
        have n1_:=m_ (l5_ (by repeat (first|(with_reducible first|exact HB.out|apply l1_|apply l2_|apply l3_|refine l4_ ?_ GE248.out)|exact HB.out)) hb)
        clear BK248
        clear HB
        have BK248:=n0_
        have HB:=n1_
        clear n0_ n1_
        (try clear hb)
        (try clear hb2)
        (try clear hk)
        (try clear hi)
        refine hK.out _ _ ⟨(c_ BK248.out 0).trans rfl,(c_ BK248.out 1).trans rfl,(c_ BK248.out 2).trans rfl,(c_ BK248.out 3).trans rfl,(c_ BK248.out 4).trans rfl,(c_ BK248.out 5).trans rfl,(c_ BK248.out 6).trans rfl⟩ (fun hHeld=>?_)
        clear hK K
        refine norm_ (a':=?_) ?_ ?_
        rotate_left
        ·show Act.put _ (some 13) _ = _
         simp only [Act.put,s1_,s2_,s3_,i64_w,i32_w]
         rfl
        refine pure_ (i:=7) (N:=some 14) (v:=?_) (a':=?_) #[true,true,true,true,true,true,true,true,false,true,true,false,false,false] rfl rfl (any_of HT_.out (by kernel_rfl)) (fun _ _ _ h=>h) (Or.inl ⟨by rfl,?_⟩) ?_ ?_
        rotate_left
        ·intro w'
         go_simp
         with_reducible rfl
        rotate_left
        ·simp only [Act.put,s1_,s2_,s3_,i64_w,i32_w]
         rfl
        refine pure_ (i:=8) (N:=some 15) (v:=?_) (a':=?_) #[true,true,true,true,true,true,true,true,true,true,true,false,false,false] rfl rfl (any_of HT_.out (by kernel_rfl)) (fun _ _ _ h=>h) (Or.inl ⟨by rfl,?_⟩) ?_ ?_
        rotate_left
        ·intro w'
         go_simp
         with_reducible rfl
        rotate_left
        ·simp only [Act.put,s1_,s2_,s3_,i64_w,i32_w]
         rfl
        refine one_ (i:=11) (N:=some 18) #[true,true,true,true,true,true,true,true,true,true,true,true,false,false] rfl rfl (one_of HT_.out (by kernel_rfl)) (by decide) (fun K hK=>?_)
        refine goes_ Tryd.func22 (by kernel_rfl) rfl #[.int .i64 a0_5] (by rfl) rfl rfl (by (try simp only [List.map_toArray,List.map_cons,List.map_nil]);first|done|rfl|(simp only [List.length_drop,List.length_take];rfl)) ?_
        with_reducible refine (spec_l6Dec.calls k a0_5 t252 _ A9.out).mono ?_
        rintro e w19 ⟨rfl,hb⟩
        refine ⟨_,rfl,?_⟩
        have n0_:=m_ (blk_below (g:=gb248) (o:=.cells #[.int .i64 a0_0,.int .i64 a0_1,.int .i64 a0_2,.int .i64 a0_3,.int .i64 a0_4,.int .i64 a0_5,.string a0_6] 26 (0,0)) (by (with_reducible repeat first|apply b1_|apply b2_|apply b3_);exact BK248.out) hb)
        have n1_:=m_ (l5_ (by repeat (first|(with_reducible first|exact HB.out|apply l1_|apply l2_|apply l3_|refine l4_ ?_ GE248.out)|exact HB.out)) hb)
        clear BK248
        clear HB
        have BK248:=n0_
        have HB:=n1_
        clear n0_ n1_
        (try clear hb)
        (try clear hb2)
        (try clear hk)
        (try clear hi)
        refine hK.out _ _ ⟨(c_ BK248.out 0).trans rfl,(c_ BK248.out 1).trans rfl,(c_ BK248.out 2).trans rfl,(c_ BK248.out 3).trans rfl,(c_ BK248.out 4).trans rfl,(c_ BK248.out 5).trans rfl,(c_ BK248.out 6).trans rfl⟩ (fun hHeld=>?_)
        clear hK K
        refine norm_ (a':=?_) ?_ ?_
        rotate_left
        ·show Act.put _ (some 18) _ = _
         simp only [Act.put,s1_,s2_,s3_,i64_w,i32_w]
         rfl
        refine pure_ (i:=12) (N:=some 19) (v:=?_) (a':=?_) #[true,true,true,true,true,true,true,true,true,true,true,true,true,false] rfl rfl (any_of HT_.out (by kernel_rfl)) (fun _ _ _ h=>h) (Or.inl ⟨by rfl,?_⟩) ?_ ?_
        rotate_left
        ·intro w'
         go_simp
         with_reducible rfl
        rotate_left
        ·simp only [Act.put,s1_,s2_,s3_,i64_w,i32_w]
         rfl
        refine pure_ (i:=13) (N:=some 3) (v:=?_) (a':=?_) #[true,true,true,true,true,true,true,true,true,true,true,true,true,true] rfl rfl (any_of HT_.out (by kernel_rfl)) (fun _ _ _ h=>h) (Or.inl ⟨by rfl,?_⟩) ?_ ?_
        rotate_left
        ·intro w'
         go_simp
         with_reducible rfl
        rotate_left
        ·simp only [Act.put,s1_,s2_,s3_,i64_w,i32_w]
         rfl
        refine done_ (done_of HT_.out (by kernel_rfl)) ?_
        have hcz20_0 : w19.cell? ⟨gb248,0,none⟩ = some (.int .i64 a0_0):=(c_ BK248.out 0).trans rfl
        have hcz20_1 : w19.cell? ⟨gb248,1,none⟩ = some (.int .i64 a0_1):=(c_ BK248.out 1).trans rfl
        have hcz20_2 : w19.cell? ⟨gb248,2,none⟩ = some (.int .i64 a0_2):=(c_ BK248.out 2).trans rfl
        have hcz20_3 : w19.cell? ⟨gb248,3,none⟩ = some (.int .i64 a0_3):=(c_ BK248.out 3).trans rfl
        have hcz20_4 : w19.cell? ⟨gb248,4,none⟩ = some (.int .i64 a0_4):=(c_ BK248.out 4).trans rfl
        have hcz20_5 : w19.cell? ⟨gb248,5,none⟩ = some (.int .i64 a0_5):=(c_ BK248.out 5).trans rfl
        have hcz20_6 : w19.cell? ⟨gb248,6,none⟩ = some (.string a0_6):=(c_ BK248.out 6).trans rfl
        try go_wp2
        go_ret
        exact ⟨by first|rfl|(simp [e1_,e2_] <;> rfl)|(simp [*,e1_,e2_] <;> rfl)|(simp [e1_,e2_,pk_empty1,pk_empty2];done)|(simp [*,e1_,e2_,pk_empty1,pk_empty2];done),by repeat (first|(with_reducible first|exact HB.out|apply l1_|apply l2_|apply l3_|refine l4_ ?_ GE248.out)|exact HB.out)⟩
       ·rw [if_neg c12] at H
        exact absurd H (by simp)
      ·rw [if_neg c11] at H
       have c11b0 : (a0_0 == 2) = false:=beq_eq_false_iff_ne.mpr c11
       have c11b1 : (a0_0 != 2) = true:=bne_iff_ne.mpr c11
       by_cases c21 : 5 + (t250.size + 1 + t251.size + 1 + t252.size) ≤ 9223372036854775807
       ·rw [if_pos c21] at H
        have c21b0:=eq_true c21
        have c21b1 : decide (5 + (t250.size + 1 + t251.size + 1 + t252.size) ≤ 9223372036854775807) = true:=decide_eq_true c21
        try have c21b2 : (9223372036854775807 < 5 + (t250.size + 1 + t251.size + 1 + t252.size)) = False:=eq_false (Nat.not_lt.2 c21)
        by_cases c22 : 5 + (t250.size + 1 + t251.size + 1 + t252.size) + 1 ≤ 9223372036854775807
        ·rw [if_pos c22] at H
         have c22b0:=eq_true c22
         have c22b1 : decide (5 + (t250.size + 1 + t251.size + 1 + t252.size) + 1 ≤ 9223372036854775807) = true:=decide_eq_true c22
         try have c22b2 : (9223372036854775807 < 5 + (t250.size + 1 + t251.size + 1 + t252.size) + 1) = False:=eq_false (Nat.not_lt.2 c22)
         by_cases c23 : 5 + (t250.size + 1 + t251.size + 1 + t252.size) + 1 + a0_6.size ≤ 9223372036854775807
         ·rw [if_pos c23] at H
          have c23b0:=eq_true c23
          have c23b1 : decide (5 + (t250.size + 1 + t251.size + 1 + t252.size) + 1 + a0_6.size ≤ 9223372036854775807) = true:=decide_eq_true c23
          try have c23b2 : (9223372036854775807 < 5 + (t250.size + 1 + t251.size + 1 + t252.size) + 1 + a0_6.size) = False:=eq_false (Nat.not_lt.2 c23)
          obtain rfl:=Option.some.inj H
          go_enter Tryd.func9,Tryd.ntmps9
          try go_wp2_with (first|((with_reducible refine gate_dst (N:=1) rfl ?_);refine box_event ?hg (N:=1) ?hd (cs:=#[.int .i64 a0_0,.int .i64 a0_1,.int .i64 a0_2,.int .i64 a0_3,.int .i64 a0_4,.int .i64 a0_5,.string a0_6]) (t:=26) ?hr ?_;(case hd=>rfl);(case hg=>rfl);(case hr=>first|(go_simp;done)|(go_simp;rfl));intro gb248 hg w24 hbox hb;have n0_:=m_ (l5_ (by repeat (first|(with_reducible first|exact HB.out|apply l1_|apply l2_|apply l3_)|exact HB.out)) hb);have n1_:=m_ (hbox);have n2_:=m_ ((by rw [hg];exact (l6_ (by repeat (first|(with_reducible first|exact HB.out|apply l1_|apply l2_|apply l3_)|exact HB.out))) : w.heap.size ≤ gb248));have n3_:=m_ ((by rw [hg];exact (l6_ (by repeat (first|(with_reducible first|exact HB.out|apply l1_|apply l2_|apply l3_)|exact HB.out))) : w.heap.size ≤ gb248));clear HB;have HB:=n0_;have BK248:=n1_;have GW248:=n2_;have GE248:=n3_;clear n0_ n1_ n2_ n3_;clear hb hbox hg;have hcz25_0 : w24.cell? ⟨gb248,0,none⟩ = some (.int .i64 a0_0):=(c_ BK248.out 0).trans rfl;have hcz25_1 : w24.cell? ⟨gb248,1,none⟩ = some (.int .i64 a0_1):=(c_ BK248.out 1).trans rfl;have hcz25_2 : w24.cell? ⟨gb248,2,none⟩ = some (.int .i64 a0_2):=(c_ BK248.out 2).trans rfl;have hcz25_3 : w24.cell? ⟨gb248,3,none⟩ = some (.int .i64 a0_3):=(c_ BK248.out 3).trans rfl;have hcz25_4 : w24.cell? ⟨gb248,4,none⟩ = some (.int .i64 a0_4):=(c_ BK248.out 4).trans rfl;have hcz25_5 : w24.cell? ⟨gb248,5,none⟩ = some (.int .i64 a0_5):=(c_ BK248.out 5).trans rfl;have hcz25_6 : w24.cell? ⟨gb248,6,none⟩ = some (.string a0_6):=(c_ BK248.out 6).trans rfl)|((with_reducible refine gate_callee (f:=20) rfl ?_);refine goesL_ (some 5) rfl rfl Tryd.func20 (by kernel_rfl) rfl #[.agg #[.int .i64 a0_0,.int .i64 a0_1,.int .i64 a0_2,.int .i64 a0_3,.int .i64 a0_4,.int .i64 a0_5,.string a0_6]] rfl (by (try simp only [List.map_toArray,List.map_cons,List.map_nil]);first|done|rfl|(simp only [List.length_drop,List.length_take];rfl)) ?_;(with_reducible refine (spec_PktOk.calls k a0_0 a0_1 a0_2 a0_3 a0_4 a0_5 a0_6 true _ A2.out).mono ?_);rintro e w26 ⟨rfl,hb⟩;refine ⟨_,rfl,?_⟩;have n0_:=m_ (blk_below (g:=gb248) (o:=.cells #[.int .i64 a0_0,.int .i64 a0_1,.int .i64 a0_2,.int .i64 a0_3,.int .i64 a0_4,.int .i64 a0_5,.string a0_6] 26 (0,0)) (by (with_reducible repeat first|apply b1_|apply b2_|apply b3_);exact BK248.out) hb);have n1_:=m_ (l5_ (by repeat (first|(with_reducible first|exact HB.out|apply l1_|apply l2_|apply l3_|refine l4_ ?_ GE248.out)|exact HB.out)) hb);clear BK248;clear HB;have BK248:=n0_;have HB:=n1_;clear n0_ n1_;(try clear hb);(try clear hb2);(try clear hk);(try clear hi)))
          have n0_:=m_ (b2_ BK248.out)
          have n1_:=m_ (l3_ HB.out)
          clear BK248
          clear HB
          have BK248:=n0_
          have HB:=n1_
          clear n0_ n1_
          refine start_ (n:=14) (S:=fun w'=>w'.cell? ⟨gb248,0,none⟩ = some (.int .i64 a0_0) ∧ w'.cell? ⟨gb248,1,none⟩ = some (.int .i64 a0_1) ∧ w'.cell? ⟨gb248,2,none⟩ = some (.int .i64 a0_2) ∧ w'.cell? ⟨gb248,3,none⟩ = some (.int .i64 a0_3) ∧ w'.cell? ⟨gb248,4,none⟩ = some (.int .i64 a0_4) ∧ w'.cell? ⟨gb248,5,none⟩ = some (.int .i64 a0_5) ∧ w'.cell? ⟨gb248,6,none⟩ = some (.string a0_6)) (ds:=[]) #[false,false,false,false,false,false,false,false,false,false,false,false,false,false] (by kernel_rfl) rfl rfl ⟨(c_ BK248.out 0).trans rfl,(c_ BK248.out 1).trans rfl,(c_ BK248.out 2).trans rfl,(c_ BK248.out 3).trans rfl,(c_ BK248.out 4).trans rfl,(c_ BK248.out 5).trans rfl,(c_ BK248.out 6).trans rfl⟩ (fun hHeld=>?_);refine with_tabW spec_PktText.tab3 spec_PktText.bits3 (fun HT_ HW_=>?_)
          generalize w26.drew = w27 at BK248 HB hHeld ⊢
          refine pure_ (i:=0) (N:=some 7) (v:=?_) (a':=?_) #[true,false,false,false,false,false,false,false,false,false,false,false,false,false] rfl rfl (any_of HT_.out (by kernel_rfl)) (fun _ _ _ h=>h) (Or.inl ⟨by rfl,?_⟩) ?_ ?_
          rotate_left
          ·intro w'
           go_simp
           with_reducible rfl
          rotate_left
          ·simp only [Act.put,s1_,s2_,s3_,i64_w,i32_w]
           rfl
          refine pure_ (i:=4) (N:=some 11) (v:=?_) (a':=?_) #[true,false,false,false,true,false,false,false,false,false,false,false,false,false] rfl rfl (any_of HT_.out (by kernel_rfl)) (fun _ _ _ h=>h) (Or.inl ⟨by rfl,?_⟩) ?_ ?_
          rotate_left
          ·intro w'
           go_simp
           with_reducible rfl
          rotate_left
          ·simp only [Act.put,s1_,s2_,s3_,i64_w,i32_w]
           rfl
          refine pure_ (i:=9) (N:=some 16) (v:=?_) (a':=?_) #[true,false,false,false,true,false,false,false,false,true,false,false,false,false] rfl rfl (any_of HT_.out (by kernel_rfl)) (fun _ _ _ h=>h) (Or.inl ⟨by rfl,?_⟩) ?_ ?_
          rotate_left
          ·intro w'
           go_simp
           with_reducible rfl
          rotate_left
          ·simp only [Act.put,s1_,s2_,s3_,i64_w,i32_w]
           rfl
          refine take_ (i:=1) (N:=some 8) (v:=?_) (a':=?_) #[true,true,false,false,true,false,false,false,false,true,false,false,false,false] rfl rfl (take_ofW HT_.out HW_.out (by kernel_rfl)) (fun _ _ _ h=>h) (Or.inl ⟨by rfl,?_⟩) hHeld ?_ ?_
          rotate_left
          ·rintro w' ⟨s0,s1,s2,s3,s4,s5,s6⟩
           go_simp
           with_reducible rfl
          rotate_left
          ·simp only [Act.put,s1_,s2_,s3_,i64_w,i32_w]
           rfl
          refine take_ (i:=5) (N:=some 12) (v:=?_) (a':=?_) #[true,true,false,false,true,true,false,false,false,true,false,false,false,false] rfl rfl (take_ofW HT_.out HW_.out (by kernel_rfl)) (fun _ _ _ h=>h) (Or.inl ⟨by rfl,?_⟩) hHeld ?_ ?_
          rotate_left
          ·rintro w' ⟨s0,s1,s2,s3,s4,s5,s6⟩
           go_simp
           with_reducible rfl
          rotate_left
          ·simp only [Act.put,s1_,s2_,s3_,i64_w,i32_w]
           rfl
          refine take_ (i:=10) (N:=some 17) (v:=?_) (a':=?_) #[true,true,false,false,true,true,false,false,false,true,true,false,false,false] rfl rfl (take_ofW HT_.out HW_.out (by kernel_rfl)) (fun _ _ _ h=>h) (Or.inl ⟨by rfl,?_⟩) hHeld ?_ ?_
          rotate_left
          ·rintro w' ⟨s0,s1,s2,s3,s4,s5,s6⟩
           go_simp
           with_reducible rfl
          rotate_left
          ·simp only [Act.put,s1_,s2_,s3_,i64_w,i32_w]
           rfl
          refine one_ (i:=2) (N:=some 9) #[true,true,true,false,true,true,false,false,false,true,true,false,false,false] rfl rfl (one_of HT_.out (by kernel_rfl)) (by decide) (fun K hK=>?_)
          refine goes_ Tryd.func21 (by kernel_rfl) rfl #[.agg #[.int .i64 a0_1,.int .i64 a0_2]] (by rfl) rfl rfl (by (try simp only [List.map_toArray,List.map_cons,List.map_nil]);first|done|rfl|(simp only [List.length_drop,List.length_take];rfl)) ?_
          with_reducible refine (spec_EndText.calls k a0_1 a0_2 t250 _ A4.out).mono ?_
          rintro e w28 ⟨rfl,hb⟩
          refine ⟨_,rfl,?_⟩
          have n0_:=m_ (blk_below (g:=gb248) (o:=.cells #[.int .i64 a0_0,.int .i64 a0_1,.int .i64 a0_2,.int .i64 a0_3,.int .i64 a0_4,.int .i64 a0_5,.string a0_6] 26 (0,0)) (by (with_reducible repeat first|apply b1_|apply b2_|apply b3_);exact BK248.out) hb)
          have n1_:=m_ (l5_ (by repeat (first|(with_reducible first|exact HB.out|apply l1_|apply l2_|apply l3_|refine l4_ ?_ GE248.out)|exact HB.out)) hb)
          clear BK248
          clear HB
          have BK248:=n0_
          have HB:=n1_
          clear n0_ n1_
          (try clear hb)
          (try clear hb2)
          (try clear hk)
          (try clear hi)
          refine hK.out _ _ ⟨(c_ BK248.out 0).trans rfl,(c_ BK248.out 1).trans rfl,(c_ BK248.out 2).trans rfl,(c_ BK248.out 3).trans rfl,(c_ BK248.out 4).trans rfl,(c_ BK248.out 5).trans rfl,(c_ BK248.out 6).trans rfl⟩ (fun hHeld=>?_)
          clear hK K
          refine norm_ (a':=?_) ?_ ?_
          rotate_left
          ·show Act.put _ (some 9) _ = _
           simp only [Act.put,s1_,s2_,s3_,i64_w,i32_w]
           rfl
          refine pure_ (i:=3) (N:=some 10) (v:=?_) (a':=?_) #[true,true,true,true,true,true,false,false,false,true,true,false,false,false] rfl rfl (any_of HT_.out (by kernel_rfl)) (fun _ _ _ h=>h) (Or.inl ⟨by rfl,?_⟩) ?_ ?_
          rotate_left
          ·intro w'
           go_simp
           with_reducible rfl
          rotate_left
          ·simp only [Act.put,s1_,s2_,s3_,i64_w,i32_w]
           rfl
          refine one_ (i:=6) (N:=some 13) #[true,true,true,true,true,true,true,false,false,true,true,false,false,false] rfl rfl (one_of HT_.out (by kernel_rfl)) (by decide) (fun K hK=>?_)
          refine goes_ Tryd.func21 (by kernel_rfl) rfl #[.agg #[.int .i64 a0_3,.int .i64 a0_4]] (by rfl) rfl rfl (by (try simp only [List.map_toArray,List.map_cons,List.map_nil]);first|done|rfl|(simp only [List.length_drop,List.length_take];rfl)) ?_
          with_reducible refine (spec_EndText.calls k a0_3 a0_4 t251 _ A6.out).mono ?_
          rintro e w29 ⟨rfl,hb⟩
          refine ⟨_,rfl,?_⟩
          have n0_:=m_ (blk_below (g:=gb248) (o:=.cells #[.int .i64 a0_0,.int .i64 a0_1,.int .i64 a0_2,.int .i64 a0_3,.int .i64 a0_4,.int .i64 a0_5,.string a0_6] 26 (0,0)) (by (with_reducible repeat first|apply b1_|apply b2_|apply b3_);exact BK248.out) hb)
          have n1_:=m_ (l5_ (by repeat (first|(with_reducible first|exact HB.out|apply l1_|apply l2_|apply l3_|refine l4_ ?_ GE248.out)|exact HB.out)) hb)
          clear BK248
          clear HB
          have BK248:=n0_
          have HB:=n1_
          clear n0_ n1_
          (try clear hb)
          (try clear hb2)
          (try clear hk)
          (try clear hi)
          refine hK.out _ _ ⟨(c_ BK248.out 0).trans rfl,(c_ BK248.out 1).trans rfl,(c_ BK248.out 2).trans rfl,(c_ BK248.out 3).trans rfl,(c_ BK248.out 4).trans rfl,(c_ BK248.out 5).trans rfl,(c_ BK248.out 6).trans rfl⟩ (fun hHeld=>?_)
          clear hK K
          refine norm_ (a':=?_) ?_ ?_
          rotate_left
          ·show Act.put _ (some 13) _ = _
           simp only [Act.put,s1_,s2_,s3_,i64_w,i32_w]
           rfl
          refine pure_ (i:=7) (N:=some 14) (v:=?_) (a':=?_) #[true,true,true,true,true,true,true,true,false,true,true,false,false,false] rfl rfl (any_of HT_.out (by kernel_rfl)) (fun _ _ _ h=>h) (Or.inl ⟨by rfl,?_⟩) ?_ ?_
          rotate_left
          ·intro w'
           go_simp
           with_reducible rfl
          rotate_left
          ·simp only [Act.put,s1_,s2_,s3_,i64_w,i32_w]
           rfl
          refine pure_ (i:=8) (N:=some 15) (v:=?_) (a':=?_) #[true,true,true,true,true,true,true,true,true,true,true,false,false,false] rfl rfl (any_of HT_.out (by kernel_rfl)) (fun _ _ _ h=>h) (Or.inl ⟨by rfl,?_⟩) ?_ ?_
          rotate_left
          ·intro w'
           go_simp
           with_reducible rfl
          rotate_left
          ·simp only [Act.put,s1_,s2_,s3_,i64_w,i32_w]
           rfl
          refine one_ (i:=11) (N:=some 18) #[true,true,true,true,true,true,true,true,true,true,true,true,false,false] rfl rfl (one_of HT_.out (by kernel_rfl)) (by decide) (fun K hK=>?_)
          refine goes_ Tryd.func22 (by kernel_rfl) rfl #[.int .i64 a0_5] (by rfl) rfl rfl (by (try simp only [List.map_toArray,List.map_cons,List.map_nil]);first|done|rfl|(simp only [List.length_drop,List.length_take];rfl)) ?_
          with_reducible refine (spec_l6Dec.calls k a0_5 t252 _ A9.out).mono ?_
          rintro e w30 ⟨rfl,hb⟩
          refine ⟨_,rfl,?_⟩
          have n0_:=m_ (blk_below (g:=gb248) (o:=.cells #[.int .i64 a0_0,.int .i64 a0_1,.int .i64 a0_2,.int .i64 a0_3,.int .i64 a0_4,.int .i64 a0_5,.string a0_6] 26 (0,0)) (by (with_reducible repeat first|apply b1_|apply b2_|apply b3_);exact BK248.out) hb)
          have n1_:=m_ (l5_ (by repeat (first|(with_reducible first|exact HB.out|apply l1_|apply l2_|apply l3_|refine l4_ ?_ GE248.out)|exact HB.out)) hb)
          clear BK248
          clear HB
          have BK248:=n0_
          have HB:=n1_
          clear n0_ n1_
          (try clear hb)
          (try clear hb2)
          (try clear hk)
          (try clear hi)
          refine hK.out _ _ ⟨(c_ BK248.out 0).trans rfl,(c_ BK248.out 1).trans rfl,(c_ BK248.out 2).trans rfl,(c_ BK248.out 3).trans rfl,(c_ BK248.out 4).trans rfl,(c_ BK248.out 5).trans rfl,(c_ BK248.out 6).trans rfl⟩ (fun hHeld=>?_)
          clear hK K
          refine norm_ (a':=?_) ?_ ?_
          rotate_left
          ·show Act.put _ (some 18) _ = _
           simp only [Act.put,s1_,s2_,s3_,i64_w,i32_w]
           rfl
          refine pure_ (i:=12) (N:=some 19) (v:=?_) (a':=?_) #[true,true,true,true,true,true,true,true,true,true,true,true,true,false] rfl rfl (any_of HT_.out (by kernel_rfl)) (fun _ _ _ h=>h) (Or.inl ⟨by rfl,?_⟩) ?_ ?_
          rotate_left
          ·intro w'
           go_simp
           with_reducible rfl
          rotate_left
          ·simp only [Act.put,s1_,s2_,s3_,i64_w,i32_w]
           rfl
          refine pure_ (i:=13) (N:=some 3) (v:=?_) (a':=?_) #[true,true,true,true,true,true,true,true,true,true,true,true,true,true] rfl rfl (any_of HT_.out (by kernel_rfl)) (fun _ _ _ h=>h) (Or.inl ⟨by rfl,?_⟩) ?_ ?_
          rotate_left
          ·intro w'
           go_simp
           with_reducible rfl
          rotate_left
          ·simp only [Act.put,s1_,s2_,s3_,i64_w,i32_w]
           rfl
          refine done_ (done_of HT_.out (by kernel_rfl)) ?_
          have hcz31_0 : w30.cell? ⟨gb248,0,none⟩ = some (.int .i64 a0_0):=(c_ BK248.out 0).trans rfl
          have hcz31_1 : w30.cell? ⟨gb248,1,none⟩ = some (.int .i64 a0_1):=(c_ BK248.out 1).trans rfl
          have hcz31_2 : w30.cell? ⟨gb248,2,none⟩ = some (.int .i64 a0_2):=(c_ BK248.out 2).trans rfl
          have hcz31_3 : w30.cell? ⟨gb248,3,none⟩ = some (.int .i64 a0_3):=(c_ BK248.out 3).trans rfl
          have hcz31_4 : w30.cell? ⟨gb248,4,none⟩ = some (.int .i64 a0_4):=(c_ BK248.out 4).trans rfl
          have hcz31_5 : w30.cell? ⟨gb248,5,none⟩ = some (.int .i64 a0_5):=(c_ BK248.out 5).trans rfl
          have hcz31_6 : w30.cell? ⟨gb248,6,none⟩ = some (.string a0_6):=(c_ BK248.out 6).trans rfl
          try go_wp2
          go_ret
          exact ⟨by first|rfl|(simp [e1_,e2_] <;> rfl)|(simp [*,e1_,e2_] <;> rfl)|(simp [e1_,e2_,pk_empty1,pk_empty2];done)|(simp [*,e1_,e2_,pk_empty1,pk_empty2];done),by repeat (first|(with_reducible first|exact HB.out|apply l1_|apply l2_|apply l3_|refine l4_ ?_ GE248.out)|exact HB.out)⟩
         ·rw [if_neg c23] at H
          exact absurd H (by simp)
        ·rw [if_neg c22] at H
         exact absurd H (by simp)
       ·rw [if_neg c21] at H
        exact absurd H (by simp)
     ·rw [if_neg c10] at H
      exact absurd H (by simp)
    ·rw [if_neg c8] at H
     exact absurd H (by simp)
   ·rw [if_neg c7] at H
    exact absurd H (by simp)
  ·rw [if_neg c5] at H
   exact absurd H (by simp)
 ·replace c3:=Bool.eq_false_iff.mpr c3
  subst c3
  have H1 : (some (⟨#[]⟩ : ByteArray)) = some r:=by rw [if_neg (show ¬ (false = true) by decide)] at H;exact H
  clear H
  have H:=H1
  clear H1
  obtain rfl:=Option.some.inj H
  go_enter Tryd.func9,Tryd.ntmps9
  go_wp2_with (first|((with_reducible refine gate_dst (N:=1) rfl ?_);refine box_event ?hg (N:=1) ?hd (cs:=#[.int .i64 a0_0,.int .i64 a0_1,.int .i64 a0_2,.int .i64 a0_3,.int .i64 a0_4,.int .i64 a0_5,.string a0_6]) (t:=26) ?hr ?_;(case hd=>rfl);(case hg=>rfl);(case hr=>first|(go_simp;done)|(go_simp;rfl));intro gb248 hg w32 hbox hb;have n0_:=m_ (l5_ (by repeat (first|(with_reducible first|exact HB.out|apply l1_|apply l2_|apply l3_)|exact HB.out)) hb);have n1_:=m_ (hbox);have n2_:=m_ ((by rw [hg];exact (l6_ (by repeat (first|(with_reducible first|exact HB.out|apply l1_|apply l2_|apply l3_)|exact HB.out))) : w.heap.size ≤ gb248));have n3_:=m_ ((by rw [hg];exact (l6_ (by repeat (first|(with_reducible first|exact HB.out|apply l1_|apply l2_|apply l3_)|exact HB.out))) : w.heap.size ≤ gb248));clear HB;have HB:=n0_;have BK248:=n1_;have GW248:=n2_;have GE248:=n3_;clear n0_ n1_ n2_ n3_;clear hb hbox hg;have hcz33_0 : w32.cell? ⟨gb248,0,none⟩ = some (.int .i64 a0_0):=(c_ BK248.out 0).trans rfl;have hcz33_1 : w32.cell? ⟨gb248,1,none⟩ = some (.int .i64 a0_1):=(c_ BK248.out 1).trans rfl;have hcz33_2 : w32.cell? ⟨gb248,2,none⟩ = some (.int .i64 a0_2):=(c_ BK248.out 2).trans rfl;have hcz33_3 : w32.cell? ⟨gb248,3,none⟩ = some (.int .i64 a0_3):=(c_ BK248.out 3).trans rfl;have hcz33_4 : w32.cell? ⟨gb248,4,none⟩ = some (.int .i64 a0_4):=(c_ BK248.out 4).trans rfl;have hcz33_5 : w32.cell? ⟨gb248,5,none⟩ = some (.int .i64 a0_5):=(c_ BK248.out 5).trans rfl;have hcz33_6 : w32.cell? ⟨gb248,6,none⟩ = some (.string a0_6):=(c_ BK248.out 6).trans rfl)|((with_reducible refine gate_callee (f:=20) rfl ?_);refine goesL_ (some 5) rfl rfl Tryd.func20 (by kernel_rfl) rfl #[.agg #[.int .i64 a0_0,.int .i64 a0_1,.int .i64 a0_2,.int .i64 a0_3,.int .i64 a0_4,.int .i64 a0_5,.string a0_6]] rfl (by (try simp only [List.map_toArray,List.map_cons,List.map_nil]);first|done|rfl|(simp only [List.length_drop,List.length_take];rfl)) ?_;(with_reducible refine (spec_PktOk.calls k a0_0 a0_1 a0_2 a0_3 a0_4 a0_5 a0_6 false _ A2.out).mono ?_);rintro e w34 ⟨rfl,hb⟩;refine ⟨_,rfl,?_⟩;have n0_:=m_ (blk_below (g:=gb248) (o:=.cells #[.int .i64 a0_0,.int .i64 a0_1,.int .i64 a0_2,.int .i64 a0_3,.int .i64 a0_4,.int .i64 a0_5,.string a0_6] 26 (0,0)) (by (with_reducible repeat first|apply b1_|apply b2_|apply b3_);exact BK248.out) hb);have n1_:=m_ (l5_ (by repeat (first|(with_reducible first|exact HB.out|apply l1_|apply l2_|apply l3_|refine l4_ ?_ GE248.out)|exact HB.out)) hb);clear BK248;clear HB;have BK248:=n0_;have HB:=n1_;clear n0_ n1_;(try clear hb);(try clear hb2);(try clear hk);(try clear hi)))
  go_ret
  exact ⟨by first|rfl|(simp [e1_,e2_] <;> rfl)|(simp [*,e1_,e2_] <;> rfl)|(simp [e1_,e2_,pk_empty1,pk_empty2];done)|(simp [*,e1_,e2_,pk_empty1,pk_empty2];done),by repeat (first|(with_reducible first|exact HB.out|apply l1_|apply l2_|apply l3_|refine l4_ ?_ GE248.out)|exact HB.out)⟩

/-! ### strings_Split: function 23 -/
/-- A text, cut at one byte. -/
def strings_Split.f (a0 a1 : ByteArray) : Option (List (ByteArray)) := if a0.size ≤ 4294967280 ∧ a1.size = 1 then some (Lib.splitB a1 0 (Lib.countB a0 a1) a0) else none
set_option maxHeartbeats 4000000 in
set_option maxRecDepth 100000 in
theorem strings_Split.calls (a0 a1 : ByteArray) (r : List (ByteArray)) (w : World) (h : strings_Split.f a0 a1 = some r) :
  Calls Tryd.prog 23 #[.string a0,.string a1] w fun e w'=>∃ v0_ : Value,e = .returned v0_ ∧ Kd.R Kd.string 9 w' w.heap.size (fun _=>True) v0_ r ∧ Below w.heap.size w w':=by
 unfold strings_Split.f at h
 by_cases hs : a0.size ≤ 4294967280 ∧ a1.size = 1
 ·rw [if_pos hs] at h
  obtain rfl:=Option.some.inj h
  obtain ⟨c,rfl⟩:=Lib.one_byte a1 hs.2
  have h1 : 1 ≤ (⟨#[c]⟩ : ByteArray).size:=Nat.le_refl _
  have hle:=Lib.countB_le ⟨#[c]⟩ h1 a0.size a0 (Nat.le_refl _)
  have hlen:=Lib.splitB_all ⟨#[c]⟩ h1 0 _ a0 rfl
  have cc:=Any.strings_genSplit_core Go.Proofs.Tryd.lays221 (by kernel_rfl) a0 ⟨#[c]⟩ 0 (-1) (Lib.countB a0 ⟨#[c]⟩ + 1) w (by omega) h1 (Nat.zero_le _)
   (fun x cs _=>(Go.Proofs.Tryd.strings_Index_one x c _).mono fun e w' ⟨he,hw⟩=>⟨by rw [he];show _ = Ending.returned (Value.int .i64 (Lib.index x.data.toList [c]));rw [Lib.index_one],hw⟩)
   ((Go.Proofs.Tryd.strings_Count_one a0 c w).mono fun e w' ⟨he,hw⟩=>⟨by rw [he];show _ = Ending.returned (Value.int .i64 ((Lib.count a0.data.toList [c] : Nat) : Int));rw [Lib.count_one];rfl,hw⟩)
   (by decide) (by decide) (by rw [if_pos (by decide)];omega)
  rw [Nat.add_sub_cancel,hlen] at cc
  have e2 : Lib.cellsOf (Lib.splitB ⟨#[c]⟩ 0 (Lib.countB a0 ⟨#[c]⟩) a0) (Lib.countB a0 ⟨#[c]⟩ + 1) = ((Lib.splitB ⟨#[c]⟩ 0 (Lib.countB a0 ⟨#[c]⟩) a0).map Value.string).toArray:=by rw [← hlen];exact Lib.cellsOf_full _
  rw [e2] at cc
  have cc' : Calls Tryd.prog 45 #[.string a0,.string ⟨#[c]⟩,.int .i64 0,.int .i64 (-1)] w fun e w' =>
    e = .returned (.slice (some ⟨w.heap.size,0,none⟩) (Lib.countB a0 ⟨#[c]⟩ + 1) (Lib.countB a0 ⟨#[c]⟩ + 1)) ∧ w' = w.alloc (.cells ((Lib.splitB ⟨#[c]⟩ 0 (Lib.countB a0 ⟨#[c]⟩) a0).map Value.string).toArray 9):=cc
  generalize Lib.splitB ⟨#[c]⟩ 0 (Lib.countB a0 ⟨#[c]⟩) a0 = L at hlen cc'
  generalize Lib.countB a0 ⟨#[c]⟩ = m at hlen cc' hle
  clear cc
  have HL:=m_ hlen
  have HM:=m_ hle
  have HS:=m_ hs.1
  clear hlen hle hs
  go_enter Tryd.func23,Tryd.ntmps23
  go_wp2_with (go_at_call 45;refine cc'.mono ?_;rintro e w' ⟨rfl,hw⟩;rw [hw])
  go_ret
  refine ⟨_,rfl,?_,l1_ (Below.refl _ _) _⟩
  have hl:=HL.out
  have ho:=Go.Proofs.YtejpgpjjocbbjaaDoorW.ownsWide_lit (base:=w.heap.size) (e:=9) (size:=1) w (L.map Value.string).toArray L.length (Nat.le_refl _) (by have:=HM.out;have:=HS.out;have : (maxLen : Nat) = 9223372036854775807:=rfl;omega) (by simp)
  rw [hl] at ho
  exact Kd.R_of_own (enc:=Value.string) (h1:=fun _=>rfl) (by rw [hl];simpa [encs] using ho) (fun _ _=>trivial)
 ·rw [if_neg hs] at h;cases h

/-! ### strconv_Atoi: function 26 -/
/-- Of a numeral its number; else an error, of which only that it is one is told. -/
def strconv_Atoi.f (a0 : ByteArray) : Option (Int × Option Int) := if a0.size ≤ 281474976710656 then (match Lib.atoiAll a0.data.toList with | .ok v => some (v, none) | .range => some (Lib.atoiSat a0.data.toList, some 0) | _ => some (0, some 0)) else none
def ErrIs : Option Int → Value → Prop
 | none, E => E = .nilIface
 | some _, E => ∃ t p, E = .iface t p
theorem below_bytes_ {w w' : World} {t : TypeId} {s : ByteArray} (h : w' = w ∨ ∃ s', w' = Lib.bytesWorld w t s') : Below w.heap.size w w' := by
 rcases h with rfl|⟨s',rfl⟩
 ·exact Below.refl _ _
 ·exact Lib.bytesWorld_below _ _ _
theorem strconv_Atoi.calls (a0 : ByteArray) (r1 : Int) (r2 : Option Int) (w : World) (hG : GV w) (h : strconv_Atoi.f a0 = some (r1, r2)) :
  Calls Tryd.prog 26 #[.string a0] w fun e w'=>∃ E,ErrIs r2 E ∧ e = .returned (.tuple #[.int .i64 r1,E]) ∧ Below w.heap.size w w':=by
 unfold strconv_Atoi.f at h
 by_cases hs : a0.size ≤ 281474976710656
 ·rw [if_pos hs] at h
  obtain ⟨⟨t,p,g1⟩,⟨t',p',g2⟩⟩:=hG
  cases hc : Lib.atoiAll a0.data.toList with
  | ok v =>
   rw [hc] at h
   obtain ⟨rfl,rfl⟩:=Prod.mk.inj (Option.some.inj h)
   refine (Go.Proofs.Tryd.strconv_Atoi_ok a0 (by omega) v hc w).mono ?_
   rintro e w' ⟨rfl,hw⟩
   exact ⟨_,rfl,rfl,below_bytes_ (s:=a0) hw⟩
  | range =>
   rw [hc] at h
   obtain ⟨rfl,rfl⟩:=Prod.mk.inj (Option.some.inj h)
   refine (Go.Proofs.Tryd.strconv_Atoi_range a0 hs hc _ w g2 (Or.inr ⟨_,_,rfl⟩)).mono ?_
   rintro e w' ⟨N,rfl,_,_,hb⟩
   exact ⟨_,⟨_,_,rfl⟩,rfl,hb⟩
  | _ =>
   rw [hc] at h
   obtain ⟨rfl,rfl⟩:=Prod.mk.inj (Option.some.inj h)
   refine (Go.Proofs.Tryd.strconv_Atoi_syntax a0 hs (fun v e=>by rw [hc] at e;cases e) (fun e=>by rw [hc] at e;cases e) _ w g1 (Or.inr ⟨_,_,rfl⟩)).mono ?_
   rintro e w' ⟨N,rfl,_,_,hb⟩
   exact ⟨_,⟨_,_,rfl⟩,rfl,hb⟩
 ·rw [if_neg hs] at h;cases h

/-! ### stringslite_Index: function 81 -/
/-- The first place of one byte in a text; -1: nowhere. -/
def stringslite_Index.f (a0 a1 : ByteArray) : Option (Int) := if a1.size = 1 then some (Lib.indexByte a0.data.toList (a1.data.toList.headD 0)) else none
theorem stringslite_Index.calls (a0 a1 : ByteArray) (r : Int) (w : World) (h : stringslite_Index.f a0 a1 = some r) :
  Calls Tryd.prog 81 #[.string a0,.string a1] w fun e w'=>e = .returned (.int .i64 r) ∧ Below w.heap.size w w':=by
 unfold stringslite_Index.f at h
 by_cases hs : a1.size = 1
 ·rw [if_pos hs] at h
  obtain rfl:=Option.some.inj h
  have e : a1 = ⟨#[a1.data.toList.headD 0]⟩:=by
   obtain ⟨⟨l⟩⟩:=a1
   have hl : l.length = 1:=hs
   match l,hl with
   | [c], _ => rfl
  have:=Go.Proofs.Tryd.stringslite_Index_one a0 (a1.data.toList.headD 0) w
  rw [← e] at this
  refine this.mono ?_
  rintro e w' ⟨rfl,rfl⟩
  exact ⟨rfl,Below.refl _ _⟩
 ·rw [if_neg hs] at h;cases h

/-! ### stringslite_Cut: function 65 -/
def stringslite_Cut.f (a0 : ByteArray) (a1 : ByteArray) : Option (ByteArray × ByteArray × Bool) := (stringslite_Index.f a0 a1).bind fun t253 => (if t253 ≥ 0 then (if 0 ≤ t253 then (if t253 ≤ (a0.size : Int) then (if 0 ≤ (wrap64 (t253 + (a1.size : Int))) then (if (wrap64 (t253 + (a1.size : Int))) ≤ (a0.size : Int) then (some (a0.extract 0 (t253 : Int).toNat, a0.extract ((wrap64 (t253 + (a1.size : Int))) : Int).toNat a0.size, true)) else (none)) else (none)) else (none)) else (none)) else (some (a0, (⟨#[]⟩ : ByteArray), false)))
set_option maxHeartbeats 8000000 in
set_option maxRecDepth 100000 in
theorem stringslite_Cut.calls (a0 : ByteArray) (a1 : ByteArray) (r1 : ByteArray) (r2 : ByteArray) (r3 : Bool) (w : World) (h : stringslite_Cut.f a0 a1 = some (r1, r2, r3)) :
  Calls Tryd.prog 65 #[.string a0,.string a1] w fun e w'=>e = .returned (.tuple #[.string r1,.string r2,.bool r3]) ∧ Below w.heap.size w w':=by
 have HB:=m_ (Below.refl w.heap.size w)
 have H : ((stringslite_Index.f a0 a1).bind fun t253=>(if t253 ≥ 0 then (if 0 ≤ t253 then (if t253 ≤ (a0.size : Int) then (if 0 ≤ (wrap64 (t253 + (a1.size : Int))) then (if (wrap64 (t253 + (a1.size : Int))) ≤ (a0.size : Int) then (some (a0.extract 0 (t253 : Int).toNat,a0.extract ((wrap64 (t253 + (a1.size : Int))) : Int).toNat a0.size,true)) else (none)) else (none)) else (none)) else (none)) else (some (a0,(⟨#[]⟩ : ByteArray),false)))) = some (r1,r2,r3):=h
 clear h
 replace H:=Option.bind_eq_some_iff.mp H
 obtain ⟨t253,A30,H⟩:=H
 replace H : (if t253 ≥ 0 then (if 0 ≤ t253 then (if t253 ≤ (a0.size : Int) then (if 0 ≤ (wrap64 (t253 + (a1.size : Int))) then (if (wrap64 (t253 + (a1.size : Int))) ≤ (a0.size : Int) then (some (a0.extract 0 (t253 : Int).toNat,a0.extract ((wrap64 (t253 + (a1.size : Int))) : Int).toNat a0.size,true)) else (none)) else (none)) else (none)) else (none)) else (some (a0,(⟨#[]⟩ : ByteArray),false))) = some (r1,r2,r3):=H
 have A3:=m_ A30
 clear A30
 by_cases c4 : t253 ≥ 0
 ·rw [if_pos c4] at H
  have c4b0 : decide (0 ≤ t253) = true:=decide_eq_true c4
  clear c4
  by_cases c5 : 0 ≤ t253
  ·rw [if_pos c5] at H
   have c5b0:=eq_true c5
   have c5b1 : decide (0 ≤ t253) = true:=decide_eq_true c5
   clear c5
   by_cases c6 : t253 ≤ (a0.size : Int)
   ·rw [if_pos c6] at H
    have c6b0:=eq_true c6
    have c6b1 : decide (t253 ≤ (a0.size : Int)) = true:=decide_eq_true c6
    clear c6
    obtain ⟨ji7,hji7⟩ : ∃ j_ : Int,(wrap64 (t253 + (a1.size : Int))) = j_:=⟨_,rfl⟩
    replace H : (if 0 ≤ (ji7) then (if (ji7) ≤ (a0.size : Int) then (some (a0.extract 0 (t253 : Int).toNat,a0.extract ((ji7) : Int).toNat a0.size,true)) else (none)) else (none)) = some (r1,r2,r3):=by first|(rw [hji7] at H;exact H)|(simp only [hji7] at H ⊢;exact H)
    (try rw [hji7] at A3)
    have hji7w : (IntKind.i64.wrap (t253 + (a1.size : Int))) = ji7:=(i64_w _).trans hji7
    by_cases c8 : 0 ≤ (ji7)
    ·rw [if_pos c8] at H
     have c8b0:=eq_true c8
     have c8b1 : decide (0 ≤ (ji7)) = true:=decide_eq_true c8
     clear c8
     by_cases c9 : (ji7) ≤ (a0.size : Int)
     ·rw [if_pos c9] at H
      have c9b0:=eq_true c9
      have c9b1 : decide ((ji7) ≤ (a0.size : Int)) = true:=decide_eq_true c9
      clear c9
      simp only [Option.some.injEq,Prod.mk.injEq] at H
      obtain ⟨rfl,rfl,rfl⟩:=H
      go_enter Tryd.func65,Tryd.ntmps65
      go_wp2_with (first|(go_at_call 81;(with_reducible refine (stringslite_Index.calls a0 a1 t253 _ A3.out).mono ?_);rintro e w10 ⟨rfl,hb⟩;have n0_:=m_ (l5_ (by repeat (first|(with_reducible first|exact HB.out|apply l1_|apply l2_|apply l3_)|exact HB.out)) hb);clear HB;have HB:=n0_;clear n0_;(try clear hb);(try clear hb2);(try clear hk);(try clear hi)))
      repeat (go_quiet (first|(go_at_call 81;(with_reducible refine (stringslite_Index.calls a0 a1 t253 _ A3.out).mono ?_);rintro e w10 ⟨rfl,hb⟩;have n0_:=m_ (l5_ (by repeat (first|(with_reducible first|exact HB.out|apply l1_|apply l2_|apply l3_)|exact HB.out)) hb);clear HB;have HB:=n0_;clear n0_;(try clear hb);(try clear hb2);(try clear hk);(try clear hi)));try go_wp2_with (first|(go_at_call 81;(with_reducible refine (stringslite_Index.calls a0 a1 t253 _ A3.out).mono ?_);rintro e w10 ⟨rfl,hb⟩;have n0_:=m_ (l5_ (by repeat (first|(with_reducible first|exact HB.out|apply l1_|apply l2_|apply l3_)|exact HB.out)) hb);clear HB;have HB:=n0_;clear n0_;(try clear hb);(try clear hb2);(try clear hk);(try clear hi))))
      go_ret3
      exact ⟨by first|rfl|(simp [e1_,e2_] <;> rfl)|(simp only [← hji7];first|rfl|(simp [e1_,e2_] <;> rfl))|(simp [*,e1_,e2_] <;> rfl)|(simp [e1_,e2_,pk_empty1,pk_empty2];done)|(simp [*,e1_,e2_,pk_empty1,pk_empty2];done),by repeat (first|(with_reducible first|exact HB.out|apply l1_|apply l2_|apply l3_)|exact HB.out)⟩
     ·rw [if_neg c9] at H
      exact absurd H (by simp)
    ·rw [if_neg c8] at H
     exact absurd H (by simp)
   ·rw [if_neg c6] at H
    exact absurd H (by simp)
  ·rw [if_neg c5] at H
   exact absurd H (by simp)
 ·rw [if_neg c4] at H
  have c4b0 : decide (0 ≤ t253) = false:=decide_eq_false c4
  clear c4
  simp only [Option.some.injEq,Prod.mk.injEq] at H
  obtain ⟨rfl,rfl,rfl⟩:=H
  go_enter Tryd.func65,Tryd.ntmps65
  go_wp2_with (first|(go_at_call 81;(with_reducible refine (stringslite_Index.calls a0 a1 t253 _ A3.out).mono ?_);rintro e w11 ⟨rfl,hb⟩;have n0_:=m_ (l5_ (by repeat (first|(with_reducible first|exact HB.out|apply l1_|apply l2_|apply l3_)|exact HB.out)) hb);clear HB;have HB:=n0_;clear n0_;(try clear hb);(try clear hb2);(try clear hk);(try clear hi)))
  repeat (go_quiet (first|(go_at_call 81;(with_reducible refine (stringslite_Index.calls a0 a1 t253 _ A3.out).mono ?_);rintro e w11 ⟨rfl,hb⟩;have n0_:=m_ (l5_ (by repeat (first|(with_reducible first|exact HB.out|apply l1_|apply l2_|apply l3_)|exact HB.out)) hb);clear HB;have HB:=n0_;clear n0_;(try clear hb);(try clear hb2);(try clear hk);(try clear hi)));try go_wp2_with (first|(go_at_call 81;(with_reducible refine (stringslite_Index.calls a0 a1 t253 _ A3.out).mono ?_);rintro e w11 ⟨rfl,hb⟩;have n0_:=m_ (l5_ (by repeat (first|(with_reducible first|exact HB.out|apply l1_|apply l2_|apply l3_)|exact HB.out)) hb);clear HB;have HB:=n0_;clear n0_;(try clear hb);(try clear hb2);(try clear hk);(try clear hi))))
  go_ret3
  exact ⟨by first|rfl|(simp [e1_,e2_] <;> rfl)|(simp [*,e1_,e2_] <;> rfl)|(simp [e1_,e2_,pk_empty1,pk_empty2];done)|(simp [*,e1_,e2_,pk_empty1,pk_empty2];done),by repeat (first|(with_reducible first|exact HB.out|apply l1_|apply l2_|apply l3_)|exact HB.out)⟩

/-! ### strings_Cut: function 46 -/
def strings_Cut.f (a0 : ByteArray) (a1 : ByteArray) : Option (ByteArray × ByteArray × Bool) := (stringslite_Cut.f a0 a1).bind fun bt254 => (some (bt254.1, bt254.2.1, bt254.2.2))
set_option maxHeartbeats 8000000 in
set_option maxRecDepth 100000 in
theorem strings_Cut.calls (a0 : ByteArray) (a1 : ByteArray) (r1 : ByteArray) (r2 : ByteArray) (r3 : Bool) (w : World) (h : strings_Cut.f a0 a1 = some (r1, r2, r3)) :
  Calls Tryd.prog 46 #[.string a0,.string a1] w fun e w'=>e = .returned (.tuple #[.string r1,.string r2,.bool r3]) ∧ Below w.heap.size w w':=by
 have HB:=m_ (Below.refl w.heap.size w)
 have H : ((stringslite_Cut.f a0 a1).bind fun bt254=>(some (bt254.1,bt254.2.1,bt254.2.2))) = some (r1,r2,r3):=h
 clear h
 replace H:=Option.bind_eq_some_iff.mp H
 obtain ⟨⟨t254,t255,t256⟩,A30,H⟩:=H
 replace H : (some (t254,t255,t256)) = some (r1,r2,r3):=H
 have A3:=m_ A30
 clear A30
 simp only [Option.some.injEq,Prod.mk.injEq] at H
 obtain ⟨rfl,rfl,rfl⟩:=H
 go_enter Tryd.func46,Tryd.ntmps46
 go_wp2_with (first|((with_reducible refine gate_callee (f:=65) rfl ?_);refine goesL_ (some 9) rfl rfl Tryd.func65 (by kernel_rfl) rfl #[.string a0,.string a1] rfl (by (try simp only [List.map_toArray,List.map_cons,List.map_nil]);first|done|rfl|(simp only [List.length_drop,List.length_take];rfl)) ?_;(with_reducible refine (stringslite_Cut.calls a0 a1 t254 t255 t256 _ A3.out).mono ?_);rintro e w4 ⟨rfl,hb⟩;refine ⟨_,rfl,?_⟩;have n0_:=m_ (l5_ (by repeat (first|(with_reducible first|exact HB.out|apply l1_|apply l2_|apply l3_)|exact HB.out)) hb);clear HB;have HB:=n0_;clear n0_;(try clear hb);(try clear hb2);(try clear hk);(try clear hi)))
 go_ret3
 exact ⟨by first|rfl|(simp [e1_,e2_] <;> rfl)|(simp [*,e1_,e2_] <;> rfl)|(simp [e1_,e2_,pk_empty1,pk_empty2];done)|(simp [*,e1_,e2_,pk_empty1,pk_empty2];done),by repeat (first|(with_reducible first|exact HB.out|apply l1_|apply l2_|apply l3_)|exact HB.out)⟩

end Go.Proofs.YtejpgpjjocbbjaaDoor.A
