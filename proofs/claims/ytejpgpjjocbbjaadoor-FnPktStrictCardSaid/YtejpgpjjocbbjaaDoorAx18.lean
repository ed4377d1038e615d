-- Printed by myprint.py (wip/tools) out of the translation. Not trusted: Lean checks it.
import Derived.Test.YtejpgpjjocbbjaaDoorAx0
import Derived.Test.YtejpgpjjocbbjaaDoorAx1
import Derived.Test.YtejpgpjjocbbjaaDoorAx3
import Derived.Test.YtejpgpjjocbbjaaDoorAx4
import Derived.Test.YtejpgpjjocbbjaaDoorAx5
import Derived.Test.YtejpgpjjocbbjaaDoorAx7
import Derived.Test.YtejpgpjjocbbjaaDoorAx8
import Derived.Test.YtejpgpjjocbbjaaDoorAx10
import Derived.Test.YtejpgpjjocbbjaaDoorAx13
namespace Go.Proofs.YtejpgpjjocbbjaaDoor.A
open Go.RowKit Go.Proofs.YtejpgpjjocbbjaaDoorW.PrintWords Go.Proofs.YtejpgpjjocbbjaaDoorW.PrintLast Go.Proofs.YtejpgpjjocbbjaaDoorW.PrintMore
attribute [local go_sem] max2_int min2_int max_two min_two max_three min_three max_four min_four   -- for this text's walks alone
set_option linter.unusedVariables false
set_option linter.unusedSimpArgs false

attribute [local go_sem high] eqA26
/-! ### spec_DrawPktRead: function 14 -/
def spec_DrawPktRead.f (k : Nat) (l0 : List Int) : Option (ByteArray) := (spec_l6Open.f l0).bind fun bt419 => ((spec_l71Pkt.f k bt419.1 bt419.2).bind fun bt422 => ((spec_PktText.f k bt422.1 bt422.2.1 bt422.2.2.1 bt422.2.2.2.1 bt422.2.2.2.2.1 bt422.2.2.2.2.2.1 bt422.2.2.2.2.2.2.1).bind fun t430 => ((spec_l6Rd_pick.f k bt419.1 bt422.2.2.2.2.2.2.2 (wrap64 ((t430.size : Int) + 1))).bind fun bt431 => ((spec_l6Rd_pick.f k bt419.1 bt431.2 8).bind fun bt433 => (if bt433.1 = 0 then (if 0 ≤ bt431.1 then (if bt431.1 ≤ (t430.size : Int) then (some (t430.extract 0 (bt431.1 : Int).toNat)) else (none)) else (none)) else (if bt433.1 = 1 then (if 0 ≤ bt431.1 then (if bt431.1 ≤ (t430.size : Int) then ((spec_l6Rd_of.f k bt419.1 bt433.2 (([(⟨#[48]⟩ : ByteArray), (⟨#[32]⟩ : ByteArray), (⟨#[97]⟩ : ByteArray), (⟨#[32, 120]⟩ : ByteArray), (⟨#[57]⟩ : ByteArray)] : List ByteArray))).bind fun bt438 => (if (bt431.1 : Int).toNat + bt438.1.size ≤ 9223372036854775807 then (if (bt431.1 : Int).toNat + bt438.1.size + (t430.size - (bt431.1 : Int).toNat) ≤ 9223372036854775807 then (some (((t430.extract 0 (bt431.1 : Int).toNat) ++ bt438.1) ++ (t430.extract (bt431.1 : Int).toNat t430.size))) else (none)) else (none))) else (none)) else (none)) else (some t430)))))))
theorem spec_DrawPktRead.mono : ∀ a0 k, LeO (spec_DrawPktRead.f k a0) (spec_DrawPktRead.f (k + 1) a0) := by
 intro a0 k
 unfold spec_DrawPktRead.f
 repeat' first
   | (with_reducible exact spec_PktText.mono _ _ _ _ _ _ _ _)
   | (with_reducible exact spec_l6Rd_of.mono _ _ _ _)
   | (with_reducible exact spec_l6Rd_pick.mono _ _ _ _)
   | (with_reducible exact spec_l71Pkt.mono _ _ _)
   | (with_reducible exact LeO.refl _)
   | (with_reducible exact LeO.none _)
   | (with_reducible refine LeO.ite ?_ ?_)
   | (with_reducible refine LeO.bind ?_ (fun _ => ?_))
   | exact spec_PktText.mono _ _ _ _ _ _ _ _
   | exact spec_l6Rd_of.mono _ _ _ _
   | exact spec_l6Rd_pick.mono _ _ _ _
   | exact spec_l71Pkt.mono _ _ _
   | exact LeO.none _
   | refine LeO.ite ?_ ?_
   | refine LeO.bind ?_ (fun _ => ?_)
def spec_DrawPktRead.T8 : Bool × List (List Nat × List Nat) := (true, [([], []), ([], []), ([0, 1], [0, 1]), ([], []), ([], []), ([3, 4], [3, 4]), ([2, 5], [2, 5]), ([], []), ([], []), ([7, 8], [7, 8]), ([6, 9], [6, 9]), ([10, 5, 0, 1, 2, 3, 4, 5, 6, 7, 8, 9, 10], [10])])
def spec_DrawPktRead.B8 : List Nat := [0, 0, 3, 0, 0, 24, 63, 0, 0, 384, 1023, 2047]
theorem spec_DrawPktRead.tab8 : rtab .any (opsOf Tryd.f14 8) = spec_DrawPktRead.T8 := by kernel_rfl
theorem spec_DrawPktRead.bits8 : waitsOk spec_DrawPktRead.T8.2 spec_DrawPktRead.B8 = true := by kernel_rfl
set_option maxHeartbeats 8000000 in
set_option maxRecDepth 100000 in
theorem spec_DrawPktRead.calls (k : Nat) (A0 : Option Addr) (c0 : Nat) (l0 : List Int) (r : ByteArray) (w : World) (hr0 : Kd.C (Kd.int .u8) w A0 l0.length l0) (hc0 : l0.length ≤ c0) (h : spec_DrawPktRead.f k l0 = some r) :
  Calls Tryd.prog 14 #[.slice A0 l0.length c0] w fun e w'=>e = .returned (.string r) ∧ Below w.heap.size w w':=by
 have HR0:=m_ hr0
 have HC0:=m_ hc0
 clear hr0 hc0
 have HB:=m_ (Below.refl w.heap.size w)
 have H : ((spec_l6Open.f l0).bind fun bt419=>((spec_l71Pkt.f k bt419.1 bt419.2).bind fun bt422=>((spec_PktText.f k bt422.1 bt422.2.1 bt422.2.2.1 bt422.2.2.2.1 bt422.2.2.2.2.1 bt422.2.2.2.2.2.1 bt422.2.2.2.2.2.2.1).bind fun t430=>((spec_l6Rd_pick.f k bt419.1 bt422.2.2.2.2.2.2.2 (wrap64 ((t430.size : Int) + 1))).bind fun bt431=>((spec_l6Rd_pick.f k bt419.1 bt431.2 8).bind fun bt433=>(if bt433.1 = 0 then (if 0 ≤ bt431.1 then (if bt431.1 ≤ (t430.size : Int) then (some (t430.extract 0 (bt431.1 : Int).toNat)) else (none)) else (none)) else (if bt433.1 = 1 then (if 0 ≤ bt431.1 then (if bt431.1 ≤ (t430.size : Int) then ((spec_l6Rd_of.f k bt419.1 bt433.2 (([(⟨#[48]⟩ : ByteArray),(⟨#[32]⟩ : ByteArray),(⟨#[97]⟩ : ByteArray),(⟨#[32,120]⟩ : ByteArray),(⟨#[57]⟩ : ByteArray)] : List ByteArray))).bind fun bt438=>(if (bt431.1 : Int).toNat + bt438.1.size ≤ 9223372036854775807 then (if (bt431.1 : Int).toNat + bt438.1.size + (t430.size - (bt431.1 : Int).toNat) ≤ 9223372036854775807 then (some (((t430.extract 0 (bt431.1 : Int).toNat) ++ bt438.1) ++ (t430.extract (bt431.1 : Int).toNat t430.size))) else (none)) else (none))) else (none)) else (none)) else (some t430)))))))) = some r:=h
 clear h
 replace H:=Option.bind_eq_some_iff.mp H
 obtain ⟨⟨t419,t420⟩,A20,H⟩:=H
 replace H : ((spec_l71Pkt.f k t419 t420).bind fun bt422=>((spec_PktText.f k bt422.1 bt422.2.1 bt422.2.2.1 bt422.2.2.2.1 bt422.2.2.2.2.1 bt422.2.2.2.2.2.1 bt422.2.2.2.2.2.2.1).bind fun t430=>((spec_l6Rd_pick.f k t419 bt422.2.2.2.2.2.2.2 (wrap64 ((t430.size : Int) + 1))).bind fun bt431=>((spec_l6Rd_pick.f k t419 bt431.2 8).bind fun bt433=>(if bt433.1 = 0 then (if 0 ≤ bt431.1 then (if bt431.1 ≤ (t430.size : Int) then (some (t430.extract 0 (bt431.1 : Int).toNat)) else (none)) else (none)) else (if bt433.1 = 1 then (if 0 ≤ bt431.1 then (if bt431.1 ≤ (t430.size : Int) then ((spec_l6Rd_of.f k t419 bt433.2 (([(⟨#[48]⟩ : ByteArray),(⟨#[32]⟩ : ByteArray),(⟨#[97]⟩ : ByteArray),(⟨#[32,120]⟩ : ByteArray),(⟨#[57]⟩ : ByteArray)] : List ByteArray))).bind fun bt438=>(if (bt431.1 : Int).toNat + bt438.1.size ≤ 9223372036854775807 then (if (bt431.1 : Int).toNat + bt438.1.size + (t430.size - (bt431.1 : Int).toNat) ≤ 9223372036854775807 then (some (((t430.extract 0 (bt431.1 : Int).toNat) ++ bt438.1) ++ (t430.extract (bt431.1 : Int).toNat t430.size))) else (none)) else (none))) else (none)) else (none)) else (some t430))))))) = some r:=H
 have A2:=m_ A20
 clear A20
 replace H:=Option.bind_eq_some_iff.mp H
 obtain ⟨⟨t422,t423,t424,t425,t426,t427,t428,t429⟩,A30,H⟩:=H
 replace H : ((spec_PktText.f k t422 t423 t424 t425 t426 t427 t428).bind fun t430=>((spec_l6Rd_pick.f k t419 t429 (wrap64 ((t430.size : Int) + 1))).bind fun bt431=>((spec_l6Rd_pick.f k t419 bt431.2 8).bind fun bt433=>(if bt433.1 = 0 then (if 0 ≤ bt431.1 then (if bt431.1 ≤ (t430.size : Int) then (some (t430.extract 0 (bt431.1 : Int).toNat)) else (none)) else (none)) else (if bt433.1 = 1 then (if 0 ≤ bt431.1 then (if bt431.1 ≤ (t430.size : Int) then ((spec_l6Rd_of.f k t419 bt433.2 (([(⟨#[48]⟩ : ByteArray),(⟨#[32]⟩ : ByteArray),(⟨#[97]⟩ : ByteArray),(⟨#[32,120]⟩ : ByteArray),(⟨#[57]⟩ : ByteArray)] : List ByteArray))).bind fun bt438=>(if (bt431.1 : Int).toNat + bt438.1.size ≤ 9223372036854775807 then (if (bt431.1 : Int).toNat + bt438.1.size + (t430.size - (bt431.1 : Int).toNat) ≤ 9223372036854775807 then (some (((t430.extract 0 (bt431.1 : Int).toNat) ++ bt438.1) ++ (t430.extract (bt431.1 : Int).toNat t430.size))) else (none)) else (none))) else (none)) else (none)) else (some t430)))))) = some r:=H
 have A3:=m_ A30
 clear A30
 replace H:=Option.bind_eq_some_iff.mp H
 obtain ⟨t430,A40,H⟩:=H
 replace H : ((spec_l6Rd_pick.f k t419 t429 (wrap64 ((t430.size : Int) + 1))).bind fun bt431=>((spec_l6Rd_pick.f k t419 bt431.2 8).bind fun bt433=>(if bt433.1 = 0 then (if 0 ≤ bt431.1 then (if bt431.1 ≤ (t430.size : Int) then (some (t430.extract 0 (bt431.1 : Int).toNat)) else (none)) else (none)) else (if bt433.1 = 1 then (if 0 ≤ bt431.1 then (if bt431.1 ≤ (t430.size : Int) then ((spec_l6Rd_of.f k t419 bt433.2 (([(⟨#[48]⟩ : ByteArray),(⟨#[32]⟩ : ByteArray),(⟨#[97]⟩ : ByteArray),(⟨#[32,120]⟩ : ByteArray),(⟨#[57]⟩ : ByteArray)] : List ByteArray))).bind fun bt438=>(if (bt431.1 : Int).toNat + bt438.1.size ≤ 9223372036854775807 then (if (bt431.1 : Int).toNat + bt438.1.size + (t430.size - (bt431.1 : Int).toNat) ≤ 9223372036854775807 then (some (((t430.extract 0 (bt431.1 : Int).toNat) ++ bt438.1) ++ (t430.extract (bt431.1 : Int).toNat t430.size))) else (none)) else (none))) else (none)) else (none)) else (some t430))))) = some r:=H
 have A4:=m_ A40
 clear A40
 replace H:=Option.bind_eq_some_iff.mp H
 obtain ⟨⟨t431,t432⟩,A50,H⟩:=H
 replace H : ((spec_l6Rd_pick.f k t419 t432 8).bind fun bt433=>(if bt433.1 = 0 then (if 0 ≤ t431 then (if t431 ≤ (t430.size : Int) then (some (t430.extract 0 (t431 : Int).toNat)) else (none)) else (none)) else (if bt433.1 = 1 then (if 0 ≤ t431 then (if t431 ≤ (t430.size : Int) then ((spec_l6Rd_of.f k t419 bt433.2 (([(⟨#[48]⟩ : ByteArray),(⟨#[32]⟩ : ByteArray),(⟨#[97]⟩ : ByteArray),(⟨#[32,120]⟩ : ByteArray),(⟨#[57]⟩ : ByteArray)] : List ByteArray))).bind fun bt438=>(if (t431 : Int).toNat + bt438.1.size ≤ 9223372036854775807 then (if (t431 : Int).toNat + bt438.1.size + (t430.size - (t431 : Int).toNat) ≤ 9223372036854775807 then (some (((t430.extract 0 (t431 : Int).toNat) ++ bt438.1) ++ (t430.extract (t431 : Int).toNat t430.size))) else (none)) else (none))) else (none)) else (none)) else (some t430)))) = some r:=H
 have A5:=m_ A50
 clear A50
 replace H:=Option.bind_eq_some_iff.mp H
 obtain ⟨⟨t433,t434⟩,A60,H⟩:=H
 replace H : (if t433 = 0 then (if 0 ≤ t431 then (if t431 ≤ (t430.size : Int) then (some (t430.extract 0 (t431 : Int).toNat)) else (none)) else (none)) else (if t433 = 1 then (if 0 ≤ t431 then (if t431 ≤ (t430.size : Int) then ((spec_l6Rd_of.f k t419 t434 (([(⟨#[48]⟩ : ByteArray),(⟨#[32]⟩ : ByteArray),(⟨#[97]⟩ : ByteArray),(⟨#[32,120]⟩ : ByteArray),(⟨#[57]⟩ : ByteArray)] : List ByteArray))).bind fun bt438=>(if (t431 : Int).toNat + bt438.1.size ≤ 9223372036854775807 then (if (t431 : Int).toNat + bt438.1.size + (t430.size - (t431 : Int).toNat) ≤ 9223372036854775807 then (some (((t430.extract 0 (t431 : Int).toNat) ++ bt438.1) ++ (t430.extract (t431 : Int).toNat t430.size))) else (none)) else (none))) else (none)) else (none)) else (some t430))) = some r:=H
 have A6:=m_ A60
 clear A60
 by_cases c7 : t433 = 0
 ·rw [if_pos c7] at H
  have c7b0 : (t433 == 0) = true:=beq_iff_eq.mpr c7
  have c7b1 : (t433 != 0) = false:=bne_eq_false_iff_eq.mpr c7
  clear c7
  by_cases c8 : 0 ≤ t431
  ·rw [if_pos c8] at H
   have c8b0:=eq_true c8
   have c8b1 : decide (0 ≤ t431) = true:=decide_eq_true c8
   clear c8
   by_cases c9 : t431 ≤ (t430.size : Int)
   ·rw [if_pos c9] at H
    have c9b0:=eq_true c9
    have c9b1 : decide (t431 ≤ (t430.size : Int)) = true:=decide_eq_true c9
    clear c9
    obtain rfl:=Option.some.inj H
    go_enter Tryd.func14,Tryd.ntmps14
    go_wp2_with (first|((with_reducible refine gate_callee (f:=16) rfl ?_);refine goesL_ (some 7) rfl rfl Tryd.func16 (by kernel_rfl) rfl #[.slice A0 l0.length c0] rfl (by (try simp only [List.map_toArray,List.map_cons,List.map_nil]);first|done|rfl|(simp only [List.length_drop,List.length_take];rfl)) ?_;(with_reducible refine (spec_l6Open.calls _ _ l0 t419 t420 w _ ?side1 ?side2 ?side3 A2.out).mono ?_);(case side1=>repeat (first|(with_reducible first|exact HB.out|apply l1_|apply l2_|apply l3_)|exact HB.out));(case side2=>exact HR0.out);(case side3=>exact HC0.out);rintro e w10 ⟨g421,rfl,hi,hb,hb2⟩;refine ⟨_,rfl,?_⟩;have n0_:=m_ (hb);have n1_:=m_ (hi);clear HB;have HB:=n0_;have HI421:=n1_;clear n0_ n1_;(try clear hb);(try clear hb2);(try clear hk);(try clear hi))|((with_reducible refine gate_callee (f:=15) rfl ?_);refine goesL_ (some 9) rfl rfl Tryd.func15 (by kernel_rfl) rfl #[.pointer (some ⟨g421,0,none⟩)] rfl (by (try simp only [List.map_toArray,List.map_cons,List.map_nil]);first|done|rfl|(simp only [List.length_drop,List.length_take];rfl)) ?_;(with_reducible refine (spec_l71Pkt.calls k g421 t419 t420 t422 t423 t424 t425 t426 t427 t428 t429 w _ ?side1 ?side2 A3.out).mono ?_);(case side1=>repeat (first|(with_reducible first|exact HI421.out|apply IsS62.alloc|apply IsS62.drewN|apply IsS62.drew|apply IsS62.set_1)|exact HI421.out));(case side2=>repeat (first|(with_reducible first|exact HB.out|apply l1_|apply l2_|apply l3_|refine l4_ ?_ (IsS62.ge HI421.out))|exact HB.out));rintro e w11 ⟨rfl,hi,hb,hk⟩;refine ⟨_,rfl,?_⟩;have n0_:=m_ (hb);have n1_:=m_ (hi);clear HB;clear HI421;have HB:=n0_;have HI421:=n1_;clear n0_ n1_;(try clear hb);(try clear hb2);(try clear hk);(try clear hi))|((with_reducible refine gate_callee (f:=9) rfl ?_);refine goesL_ (some 10) rfl rfl Tryd.func9 (by kernel_rfl) rfl #[.agg #[.int .i64 t422,.int .i64 t423,.int .i64 t424,.int .i64 t425,.int .i64 t426,.int .i64 t427,.string t428]] rfl (by (try simp only [List.map_toArray,List.map_cons,List.map_nil]);first|done|rfl|(simp only [List.length_drop,List.length_take];rfl)) ?_;(with_reducible refine (spec_PktText.calls k t422 t423 t424 t425 t426 t427 t428 t430 _ A4.out).mono ?_);rintro e w12 ⟨rfl,hb⟩;refine ⟨_,rfl,?_⟩;have n0_:=m_ (IsS62.below (by repeat (first|(with_reducible first|exact HI421.out|apply IsS62.alloc|apply IsS62.drewN|apply IsS62.drew|apply IsS62.set_1)|exact HI421.out)) hb);have n1_:=m_ (l5_ (by repeat (first|(with_reducible first|exact HB.out|apply l1_|apply l2_|apply l3_|refine l4_ ?_ (IsS62.ge HI421.out))|exact HB.out)) hb);clear HI421;clear HB;have HI421:=n0_;have HB:=n1_;clear n0_ n1_;(try clear hb);(try clear hb2);(try clear hk);(try clear hi))|((with_reducible refine gate_callee (f:=35) rfl ?_);refine goesL_ (some 15) rfl rfl Tryd.func35 (by kernel_rfl) rfl #[.pointer (some ⟨g421,0,none⟩),.int .i64 (wrap64 ((t430.size : Int) + 1))] rfl (by (try simp only [List.map_toArray,List.map_cons,List.map_nil]);first|done|rfl|(simp only [List.length_drop,List.length_take];rfl)) ?_;(with_reducible refine (spec_l6Rd_pick.calls k g421 t419 t429 (wrap64 ((t430.size : Int) + 1)) t431 t432 w _ ?side1 ?side2 A5.out).mono ?_);(case side1=>repeat (first|(with_reducible first|exact HI421.out|apply IsS62.alloc|apply IsS62.drewN|apply IsS62.drew|apply IsS62.set_1)|exact HI421.out));(case side2=>repeat (first|(with_reducible first|exact HB.out|apply l1_|apply l2_|apply l3_|refine l4_ ?_ (IsS62.ge HI421.out))|exact HB.out));rintro e w13 ⟨rfl,hi,hb,hk⟩;refine ⟨_,rfl,?_⟩;have n0_:=m_ (hb);have n1_:=m_ (hi);clear HB;clear HI421;have HB:=n0_;have HI421:=n1_;clear n0_ n1_;(try clear hb);(try clear hb2);(try clear hk);(try clear hi))|((with_reducible refine gate_callee (f:=35) rfl ?_);refine goesL_ (some 17) rfl rfl Tryd.func35 (by kernel_rfl) rfl #[.pointer (some ⟨g421,0,none⟩),.int .i64 8] rfl (by (try simp only [List.map_toArray,List.map_cons,List.map_nil]);first|done|rfl|(simp only [List.length_drop,List.length_take];rfl)) ?_;(with_reducible refine (spec_l6Rd_pick.calls k g421 t419 t432 8 t433 t434 w _ ?side1 ?side2 A6.out).mono ?_);(case side1=>repeat (first|(with_reducible first|exact HI421.out|apply IsS62.alloc|apply IsS62.drewN|apply IsS62.drew|apply IsS62.set_1)|exact HI421.out));(case side2=>repeat (first|(with_reducible first|exact HB.out|apply l1_|apply l2_|apply l3_|refine l4_ ?_ (IsS62.ge HI421.out))|exact HB.out));rintro e w14 ⟨rfl,hi,hb,hk⟩;refine ⟨_,rfl,?_⟩;have n0_:=m_ (hb);have n1_:=m_ (hi);clear HB;clear HI421;have HB:=n0_;have HI421:=n1_;clear n0_ n1_;(try clear hb);(try clear hb2);(try clear hk);(try clear hi)))
    go_ret
    exact ⟨by first|rfl|(simp [e1_,e2_] <;> rfl)|(simp [*,e1_,e2_] <;> rfl)|(simp [e1_,e2_,pk_empty1,pk_empty2];done)|(simp [*,e1_,e2_,pk_empty1,pk_empty2];done),by repeat (first|(with_reducible first|exact HB.out|apply l1_|apply l2_|apply l3_|refine l4_ ?_ (IsS62.ge HI421.out))|exact HB.out)⟩
   ·rw [if_neg c9] at H
    exact absurd H (by simp)
  ·rw [if_neg c8] at H
   exact absurd H (by simp)
 ·rw [if_neg c7] at H
  have c7b0 : (t433 == 0) = false:=beq_eq_false_iff_ne.mpr c7
  have c7b1 : (t433 != 0) = true:=bne_iff_ne.mpr c7
  by_cases c15 : t433 = 1
  ·rw [if_pos c15] at H
   have c15b0 : (t433 == 1) = true:=beq_iff_eq.mpr c15
   have c15b1 : (t433 != 1) = false:=bne_eq_false_iff_eq.mpr c15
   clear c15
   by_cases c16 : 0 ≤ t431
   ·rw [if_pos c16] at H
    have c16b0:=eq_true c16
    have c16b1 : decide (0 ≤ t431) = true:=decide_eq_true c16
    clear c16
    by_cases c17 : t431 ≤ (t430.size : Int)
    ·rw [if_pos c17] at H
     have c17b0:=eq_true c17
     have c17b1 : decide (t431 ≤ (t430.size : Int)) = true:=decide_eq_true c17
     clear c17
     obtain ⟨y435,hy435⟩ : ∃ y_ : List ByteArray,y_ = (([(⟨#[48]⟩ : ByteArray),(⟨#[32]⟩ : ByteArray),(⟨#[97]⟩ : ByteArray),(⟨#[32,120]⟩ : ByteArray),(⟨#[57]⟩ : ByteArray)] : List ByteArray)):=⟨_,rfl⟩
     replace H : ((spec_l6Rd_of.f k t419 t434 y435).bind fun bt438=>(if (t431 : Int).toNat + bt438.1.size ≤ 9223372036854775807 then (if (t431 : Int).toNat + bt438.1.size + (t430.size - (t431 : Int).toNat) ≤ 9223372036854775807 then (some (((t430.extract 0 (t431 : Int).toNat) ++ bt438.1) ++ (t430.extract (t431 : Int).toNat t430.size))) else (none)) else (none))) = some r:=by first|(rw [hy435];with_reducible exact H)|(have H2_:=(Option.bind_some _ _).symm.trans H;rw [hy435];with_reducible exact H2_)|(have H2_:=(Option.bind_some _ _).symm.trans H;with_reducible exact H2_)|with_reducible exact H|(rw [hy435];exact H)|exact H
     have Ny435:=m_ hy435
     clear hy435
     replace H:=Option.bind_eq_some_iff.mp H
     obtain ⟨⟨t438,t439⟩,A180,H⟩:=H
     replace H : (if (t431 : Int).toNat + t438.size ≤ 9223372036854775807 then (if (t431 : Int).toNat + t438.size + (t430.size - (t431 : Int).toNat) ≤ 9223372036854775807 then (some (((t430.extract 0 (t431 : Int).toNat) ++ t438) ++ (t430.extract (t431 : Int).toNat t430.size))) else (none)) else (none)) = some r:=H
     have A18:=m_ A180
     clear A180
     by_cases c19 : (t431 : Int).toNat + t438.size ≤ 9223372036854775807
     ·rw [if_pos c19] at H
      have c19b0:=eq_true c19
      have c19b1 : decide ((t431 : Int).toNat + t438.size ≤ 9223372036854775807) = true:=decide_eq_true c19
      try have c19b2 : (9223372036854775807 < (t431 : Int).toNat + t438.size) = False:=eq_false (Nat.not_lt.2 c19)
      have c20b0:=eq_true (of_decide_eq_true (by first|(with_reducible assumption)|assumption) : 0 ≤ t431)
      have c21b0:=eq_true (of_decide_eq_true (by first|(with_reducible assumption)|assumption) : t431 ≤ (t430.size : Int))
      by_cases c22 : (t431 : Int).toNat + t438.size + (t430.size - (t431 : Int).toNat) ≤ 9223372036854775807
      ·rw [if_pos c22] at H
       have c22b0:=eq_true c22
       have c22b1 : decide ((t431 : Int).toNat + t438.size + (t430.size - (t431 : Int).toNat) ≤ 9223372036854775807) = true:=decide_eq_true c22
       try have c22b2 : (9223372036854775807 < (t431 : Int).toNat + t438.size + (t430.size - (t431 : Int).toNat)) = False:=eq_false (Nat.not_lt.2 c22)
       obtain rfl:=Option.some.inj H
       go_enter Tryd.func14,Tryd.ntmps14
       try go_wp2_with (first|((with_reducible refine gate_callee (f:=16) rfl ?_);refine goesL_ (some 7) rfl rfl Tryd.func16 (by kernel_rfl) rfl #[.slice A0 l0.length c0] rfl (by (try simp only [List.map_toArray,List.map_cons,List.map_nil]);first|done|rfl|(simp only [List.length_drop,List.length_take];rfl)) ?_;(with_reducible refine (spec_l6Open.calls _ _ l0 t419 t420 w _ ?side1 ?side2 ?side3 A2.out).mono ?_);(case side1=>repeat (first|(with_reducible first|exact HB.out|apply l1_|apply l2_|apply l3_)|exact HB.out));(case side2=>exact HR0.out);(case side3=>exact HC0.out);rintro e w23 ⟨g421,rfl,hi,hb,hb2⟩;refine ⟨_,rfl,?_⟩;have n0_:=m_ (hb);have n1_:=m_ (hi);clear HB;have HB:=n0_;have HI421:=n1_;clear n0_ n1_;(try clear hb);(try clear hb2);(try clear hk);(try clear hi))|((with_reducible refine gate_callee (f:=15) rfl ?_);refine goesL_ (some 9) rfl rfl Tryd.func15 (by kernel_rfl) rfl #[.pointer (some ⟨g421,0,none⟩)] rfl (by (try simp only [List.map_toArray,List.map_cons,List.map_nil]);first|done|rfl|(simp only [List.length_drop,List.length_take];rfl)) ?_;(with_reducible refine (spec_l71Pkt.calls k g421 t419 t420 t422 t423 t424 t425 t426 t427 t428 t429 w _ ?side1 ?side2 A3.out).mono ?_);(case side1=>repeat (first|(with_reducible first|exact HI421.out|apply IsS62.alloc|apply IsS62.drewN|apply IsS62.drew|apply IsS62.set_1)|exact HI421.out));(case side2=>repeat (first|(with_reducible first|exact HB.out|apply l1_|apply l2_|apply l3_|refine l4_ ?_ (IsS62.ge HI421.out))|exact HB.out));rintro e w24 ⟨rfl,hi,hb,hk⟩;refine ⟨_,rfl,?_⟩;have n0_:=m_ (hb);have n1_:=m_ (hi);clear HB;clear HI421;have HB:=n0_;have HI421:=n1_;clear n0_ n1_;(try clear hb);(try clear hb2);(try clear hk);(try clear hi))|((with_reducible refine gate_callee (f:=9) rfl ?_);refine goesL_ (some 10) rfl rfl Tryd.func9 (by kernel_rfl) rfl #[.agg #[.int .i64 t422,.int .i64 t423,.int .i64 t424,.int .i64 t425,.int .i64 t426,.int .i64 t427,.string t428]] rfl (by (try simp only [List.map_toArray,List.map_cons,List.map_nil]);first|done|rfl|(simp only [List.length_drop,List.length_take];rfl)) ?_;(with_reducible refine (spec_PktText.calls k t422 t423 t424 t425 t426 t427 t428 t430 _ A4.out).mono ?_);rintro e w25 ⟨rfl,hb⟩;refine ⟨_,rfl,?_⟩;have n0_:=m_ (IsS62.below (by repeat (first|(with_reducible first|exact HI421.out|apply IsS62.alloc|apply IsS62.drewN|apply IsS62.drew|apply IsS62.set_1)|exact HI421.out)) hb);have n1_:=m_ (l5_ (by repeat (first|(with_reducible first|exact HB.out|apply l1_|apply l2_|apply l3_|refine l4_ ?_ (IsS62.ge HI421.out))|exact HB.out)) hb);clear HI421;clear HB;have HI421:=n0_;have HB:=n1_;clear n0_ n1_;(try clear hb);(try clear hb2);(try clear hk);(try clear hi))|((with_reducible refine gate_callee (f:=35) rfl ?_);refine goesL_ (some 15) rfl rfl Tryd.func35 (by kernel_rfl) rfl #[.pointer (some ⟨g421,0,none⟩),.int .i64 (wrap64 ((t430.size : Int) + 1))] rfl (by (try simp only [List.map_toArray,List.map_cons,List.map_nil]);first|done|rfl|(simp only [List.length_drop,List.length_take];rfl)) ?_;(with_reducible refine (spec_l6Rd_pick.calls k g421 t419 t429 (wrap64 ((t430.size : Int) + 1)) t431 t432 w _ ?side1 ?side2 A5.out).mono ?_);(case side1=>repeat (first|(with_reducible first|exact HI421.out|apply IsS62.alloc|apply IsS62.drewN|apply IsS62.drew|apply IsS62.set_1)|exact HI421.out));(case side2=>repeat (first|(with_reducible first|exact HB.out|apply l1_|apply l2_|apply l3_|refine l4_ ?_ (IsS62.ge HI421.out))|exact HB.out));rintro e w26 ⟨rfl,hi,hb,hk⟩;refine ⟨_,rfl,?_⟩;have n0_:=m_ (hb);have n1_:=m_ (hi);clear HB;clear HI421;have HB:=n0_;have HI421:=n1_;clear n0_ n1_;(try clear hb);(try clear hb2);(try clear hk);(try clear hi))|((with_reducible refine gate_callee (f:=35) rfl ?_);refine goesL_ (some 17) rfl rfl Tryd.func35 (by kernel_rfl) rfl #[.pointer (some ⟨g421,0,none⟩),.int .i64 8] rfl (by (try simp only [List.map_toArray,List.map_cons,List.map_nil]);first|done|rfl|(simp only [List.length_drop,List.length_take];rfl)) ?_;(with_reducible refine (spec_l6Rd_pick.calls k g421 t419 t432 8 t433 t434 w _ ?side1 ?side2 A6.out).mono ?_);(case side1=>repeat (first|(with_reducible first|exact HI421.out|apply IsS62.alloc|apply IsS62.drewN|apply IsS62.drew|apply IsS62.set_1)|exact HI421.out));(case side2=>repeat (first|(with_reducible first|exact HB.out|apply l1_|apply l2_|apply l3_|refine l4_ ?_ (IsS62.ge HI421.out))|exact HB.out));rintro e w27 ⟨rfl,hi,hb,hk⟩;refine ⟨_,rfl,?_⟩;have n0_:=m_ (hb);have n1_:=m_ (hi);clear HB;clear HI421;have HB:=n0_;have HI421:=n1_;clear n0_ n1_;(try clear hb);(try clear hb2);(try clear hk);(try clear hi)))
       have n0_:=m_ (IsS62.drew HI421.out)
       have n1_:=m_ (l3_ HB.out)
       clear HI421
       clear HB
       have HI421:=n0_
       have HB:=n1_
       clear n0_ n1_
       refine start_ (n:=12) (S:=fun w'=>True) (ds:=[]) #[false,false,false,false,false,false,false,false,false,false,false,false] (by kernel_rfl) rfl rfl trivial (fun hHeld=>?_);refine with_tabW spec_DrawPktRead.tab8 spec_DrawPktRead.bits8 (fun HT_ HW_=>?_)
       generalize w27.drew = w28 at HI421 HB hHeld ⊢
       refine pure_ (i:=0) (N:=some 25) (v:=?_) (a':=?_) #[true,false,false,false,false,false,false,false,false,false,false,false] rfl rfl (any_of HT_.out (by kernel_rfl)) (fun _ _ _ h=>h) (Or.inl ⟨by rfl,?_⟩) ?_ ?_
       rotate_left
       ·intro w'
        go_simp
        with_reducible rfl
       rotate_left
       ·simp only [Act.put,s1_,s2_,s3_,i64_w,i32_w]
        rfl
       refine pure_ (i:=1) (N:=some 26) (v:=?_) (a':=?_) #[true,true,false,false,false,false,false,false,false,false,false,false] rfl rfl (any_of HT_.out (by kernel_rfl)) (fun _ _ _ h=>h) (Or.inl ⟨by rfl,?_⟩) ?_ ?_
       rotate_left
       ·intro w'
        go_simp
        with_reducible rfl
       rotate_left
       ·simp only [Act.put,s1_,s2_,s3_,i64_w,i32_w]
        rfl
       refine pure_ (i:=2) (N:=some 27) (v:=?_) (a':=?_) #[true,true,true,false,false,false,false,false,false,false,false,false] rfl rfl (any_of HT_.out (by kernel_rfl)) (fun _ _ _ h=>h) (Or.inl ⟨by rfl,?_⟩) ?_ ?_
       rotate_left
       ·intro w'
        go_simp
        with_reducible rfl
       rotate_left
       ·simp only [Act.put,s1_,s2_,s3_,i64_w,i32_w]
        rfl
       refine pure_ (i:=3) (N:=some 28) (v:=?_) (a':=?_) #[true,true,true,true,false,false,false,false,false,false,false,false] rfl rfl (any_of HT_.out (by kernel_rfl)) (fun _ _ _ h=>h) (Or.inl ⟨by rfl,?_⟩) ?_ ?_
       rotate_left
       ·intro w'
        go_simp
        with_reducible rfl
       rotate_left
       ·simp only [Act.put,s1_,s2_,s3_,i64_w,i32_w]
        rfl
       refine pure_ (i:=7) (N:=some 32) (v:=?_) (a':=?_) #[true,true,true,true,false,false,false,true,false,false,false,false] rfl rfl (any_of HT_.out (by kernel_rfl)) (fun _ _ _ h=>h) (Or.inl ⟨by rfl,?_⟩) ?_ ?_
       rotate_left
       ·intro w'
        go_simp
        with_reducible rfl
       rotate_left
       ·simp only [Act.put,s1_,s2_,s3_,i64_w,i32_w]
        rfl
       refine pure_ (i:=8) (N:=some 33) (v:=?_) (a':=?_) #[true,true,true,true,false,false,false,true,true,false,false,false] rfl rfl (any_of HT_.out (by kernel_rfl)) (fun _ _ _ h=>h) (Or.inl ⟨by rfl,?_⟩) ?_ ?_
       rotate_left
       ·intro w'
        go_simp
        with_reducible rfl
       rotate_left
       ·simp only [Act.put,s1_,s2_,s3_,i64_w,i32_w]
        rfl
       refine pure_ (i:=9) (N:=some 34) (v:=?_) (a':=?_) #[true,true,true,true,false,false,false,true,true,true,false,false] rfl rfl (any_of HT_.out (by kernel_rfl)) (fun _ _ _ h=>h) (Or.inl ⟨by rfl,?_⟩) ?_ ?_
       rotate_left
       ·intro w'
        go_simp
        with_reducible rfl
       rotate_left
       ·simp only [Act.put,s1_,s2_,s3_,i64_w,i32_w]
        rfl
       refine one_ (i:=4) (N:=some 29) #[true,true,true,true,true,false,false,true,true,true,false,false] rfl rfl (one_of HT_.out (by kernel_rfl)) (by decide) (fun K hK=>?_)
       refine Kd.R_lit_step Kd.string _ 9 ?hg (N:=29) ?hd (xs:=([(⟨#[48]⟩ : ByteArray),(⟨#[32]⟩ : ByteArray),(⟨#[97]⟩ : ByteArray),(⟨#[32,120]⟩ : ByteArray),(⟨#[57]⟩ : ByteArray)] : List ByteArray)) (inner:=[.string (⟨#[48]⟩ : ByteArray),.string (⟨#[32]⟩ : ByteArray),.string (⟨#[97]⟩ : ByteArray),.string (⟨#[32,120]⟩ : ByteArray),.string (⟨#[57]⟩ : ByteArray)]) (ok:=fun _=>True) (okp:=fun _=>True) ?hr ?hp (fun _ hk=>hk) trivial (Below.refl _ _) (Nat.le_refl _) (by simp) ?_;(case hd=>rfl);(case hg=>rfl);(case hr=>first|(go_simp;done)|(go_simp;rfl));(case hp=>exact (Reps.one (show Kd.M Kd.string _ _ _ (⟨#[48]⟩ : ByteArray) [.string (⟨#[48]⟩ : ByteArray)] from rfl) (Reps.one (show Kd.M Kd.string _ _ _ (⟨#[32]⟩ : ByteArray) [.string (⟨#[32]⟩ : ByteArray)] from rfl) (Reps.one (show Kd.M Kd.string _ _ _ (⟨#[97]⟩ : ByteArray) [.string (⟨#[97]⟩ : ByteArray)] from rfl) (Reps.one (show Kd.M Kd.string _ _ _ (⟨#[32,120]⟩ : ByteArray) [.string (⟨#[32,120]⟩ : ByteArray)] from rfl) (Reps.one (show Kd.M Kd.string _ _ _ (⟨#[57]⟩ : ByteArray) [.string (⟨#[57]⟩ : ByteArray)] from rfl) (Reps.none _ _)))))))
       intro v436 w29 ho30 hb hg_ hnew_
       clear hg_ hnew_
       (first|rw [← Ny435.out] at ho30|(simp only [Int.reduceToNat] at ho30;rw [← Ny435.out] at ho30))
       have n0_:=m_ (Kd.R_lower ho30 (l6_ (by repeat (first|(with_reducible first|exact HB.out|apply l1_|apply l2_|apply l3_|refine l4_ ?_ (IsS62.ge HI421.out))|exact HB.out))))
       have n1_:=m_ (IsS62.below (by repeat (first|(with_reducible first|exact HI421.out|apply IsS62.alloc|apply IsS62.drewN|apply IsS62.drew|apply IsS62.set_1)|exact HI421.out)) hb)
       have n2_:=m_ (l5_ (by repeat (first|(with_reducible first|exact HB.out|apply l1_|apply l2_|apply l3_|refine l4_ ?_ (IsS62.ge HI421.out))|exact HB.out)) hb)
       clear HI421
       clear HB
       have HO437:=n0_
       have HI421:=n1_
       have HB:=n2_
       clear n0_ n1_ n2_
       clear hb ho30
       obtain ⟨Ao31,co31,eo31⟩:=Kd.R_slice HO437.out
       (first|subst eo31|(injection eo31 with f1_ f2_ f3_;have f4_:=f1_.symm;have f5_:=f3_.symm;clear f1_ f2_ f3_;subst f4_;subst f5_))
       refine hK.out _ _ trivial (fun hHeld=>?_)
       clear hK K
       refine norm_ (a':=?_) ?_ ?_
       rotate_left
       ·show Act.put _ (some 29) _ = _
        simp only [Act.put,s1_,s2_,s3_,i64_w,i32_w]
        rfl
       refine one_ (i:=5) (N:=some 30) #[true,true,true,true,true,true,false,true,true,true,false,false] rfl rfl (one_of HT_.out (by kernel_rfl)) (by decide) (fun K hK=>?_)
       refine goes_ Tryd.func36 (by kernel_rfl) rfl #[.pointer (some ⟨g421,0,none⟩),.slice Ao31 y435.length co31] (by rfl) rfl rfl (by (try simp only [List.map_toArray,List.map_cons,List.map_nil]);first|done|rfl|(simp only [List.length_drop,List.length_take];rfl)) ?_
       with_reducible refine (spec_l6Rd_of.calls k g421 t419 t434 _ _ y435 t438 t439 w _ ?side1 ?side2 ?side3 ?side4 ?side5 A18.out).mono ?_
       (case side1=>repeat (first|(with_reducible first|exact HI421.out|apply IsS62.alloc|apply IsS62.drewN|apply IsS62.drew|apply IsS62.set_1)|exact HI421.out))
       (case side2=>repeat (first|(with_reducible first|exact HB.out|apply l1_|apply l2_|apply l3_|refine l4_ ?_ (IsS62.ge HI421.out))|exact HB.out))
       (case side3=>repeat (first|exact (Kd.R_reads' HO437.out).2.2|(with_reducible refine Kd.C_alloc ?_ _)|(with_reducible refine Kd.C_drewN ?_ _)|(with_reducible refine Kd.C_drew ?_)))
       (case side4=>exact (Kd.R_reads' HO437.out).2.1)
       (case side5=>exact far_slice (IsS62.own_ne HI421.out HO437.out (by decide)))
       rintro e w32 ⟨rfl,hi,hb,hk⟩
       refine ⟨_,rfl,?_⟩
       have n0_:=m_ (Kd.R_mono (Kd.R_keep (IsS62.apart (show IsS62 w _ g421 t419 t434 from by repeat (first|(with_reducible first|exact HI421.out|apply IsS62.alloc|apply IsS62.drewN|apply IsS62.drew|apply IsS62.set_1)|exact HI421.out)) (by (with_reducible repeat (first|apply Kd.R_alloc|apply Kd.R_drewN|apply Kd.R_drew));exact HO437.out) (by decide)) hk (fun _ h=>h.2)) (fun _ h=>h.1))
       have n1_:=m_ (hb)
       have n2_:=m_ (hi)
       clear HO437
       clear HB
       clear HI421
       have HO437:=n0_
       have HB:=n1_
       have HI421:=n2_
       clear n0_ n1_ n2_
       (try clear hb)
       (try clear hb2)
       (try clear hk)
       (try clear hi)
       refine hK.out _ _ trivial (fun hHeld=>?_)
       clear hK K
       refine norm_ (a':=?_) ?_ ?_
       rotate_left
       ·show Act.put _ (some 30) _ = _
        simp only [Act.put,s1_,s2_,s3_,i64_w,i32_w]
        rfl
       refine pure_ (i:=6) (N:=some 31) (v:=?_) (a':=?_) #[true,true,true,true,true,true,true,true,true,true,false,false] rfl rfl (any_of HT_.out (by kernel_rfl)) (fun _ _ _ h=>h) (Or.inl ⟨by rfl,?_⟩) ?_ ?_
       rotate_left
       ·intro w'
        go_simp
        with_reducible rfl
       rotate_left
       ·simp only [Act.put,s1_,s2_,s3_,i64_w,i32_w]
        rfl
       refine pure_ (i:=10) (N:=some 35) (v:=?_) (a':=?_) #[true,true,true,true,true,true,true,true,true,true,true,false] rfl rfl (any_of HT_.out (by kernel_rfl)) (fun _ _ _ h=>h) (Or.inl ⟨by rfl,?_⟩) ?_ ?_
       rotate_left
       ·intro w'
        go_simp
        with_reducible rfl
       rotate_left
       ·simp only [Act.put,s1_,s2_,s3_,i64_w,i32_w]
        rfl
       refine pure_ (i:=11) (N:=some 2) (v:=?_) (a':=?_) #[true,true,true,true,true,true,true,true,true,true,true,true] rfl rfl (any_of HT_.out (by kernel_rfl)) (fun _ _ _ h=>h) (Or.inl ⟨by rfl,?_⟩) ?_ ?_
       rotate_left
       ·intro w'
        go_simp
        with_reducible rfl
       rotate_left
       ·simp only [Act.put,s1_,s2_,s3_,i64_w,i32_w]
        rfl
       refine done_ (done_of HT_.out (by kernel_rfl)) ?_
       try go_wp2
       go_ret
       exact ⟨by first|rfl|(simp [e1_,e2_] <;> rfl)|(simp [*,e1_,e2_] <;> rfl)|(simp [e1_,e2_,pk_empty1,pk_empty2];done)|(simp [*,e1_,e2_,pk_empty1,pk_empty2];done),by repeat (first|(with_reducible first|exact HB.out|apply l1_|apply l2_|apply l3_|refine l4_ ?_ (IsS62.ge HI421.out))|exact HB.out)⟩
      ·rw [if_neg c22] at H
       exact absurd H (by simp)
     ·rw [if_neg c19] at H
      exact absurd H (by simp)
    ·rw [if_neg c17] at H
     exact absurd H (by simp)
   ·rw [if_neg c16] at H
    exact absurd H (by simp)
  ·rw [if_neg c15] at H
   have c15b0 : (t433 == 1) = false:=beq_eq_false_iff_ne.mpr c15
   have c15b1 : (t433 != 1) = true:=bne_iff_ne.mpr c15
   obtain rfl:=Option.some.inj H
   go_enter Tryd.func14,Tryd.ntmps14
   go_wp2_with (first|((with_reducible refine gate_callee (f:=16) rfl ?_);refine goesL_ (some 7) rfl rfl Tryd.func16 (by kernel_rfl) rfl #[.slice A0 l0.length c0] rfl (by (try simp only [List.map_toArray,List.map_cons,List.map_nil]);first|done|rfl|(simp only [List.length_drop,List.length_take];rfl)) ?_;(with_reducible refine (spec_l6Open.calls _ _ l0 t419 t420 w _ ?side1 ?side2 ?side3 A2.out).mono ?_);(case side1=>repeat (first|(with_reducible first|exact HB.out|apply l1_|apply l2_|apply l3_)|exact HB.out));(case side2=>exact HR0.out);(case side3=>exact HC0.out);rintro e w33 ⟨g421,rfl,hi,hb,hb2⟩;refine ⟨_,rfl,?_⟩;have n0_:=m_ (hb);have n1_:=m_ (hi);clear HB;have HB:=n0_;have HI421:=n1_;clear n0_ n1_;(try clear hb);(try clear hb2);(try clear hk);(try clear hi))|((with_reducible refine gate_callee (f:=15) rfl ?_);refine goesL_ (some 9) rfl rfl Tryd.func15 (by kernel_rfl) rfl #[.pointer (some ⟨g421,0,none⟩)] rfl (by (try simp only [List.map_toArray,List.map_cons,List.map_nil]);first|done|rfl|(simp only [List.length_drop,List.length_take];rfl)) ?_;(with_reducible refine (spec_l71Pkt.calls k g421 t419 t420 t422 t423 t424 t425 t426 t427 t428 t429 w _ ?side1 ?side2 A3.out).mono ?_);(case side1=>repeat (first|(with_reducible first|exact HI421.out|apply IsS62.alloc|apply IsS62.drewN|apply IsS62.drew|apply IsS62.set_1)|exact HI421.out));(case side2=>repeat (first|(with_reducible first|exact HB.out|apply l1_|apply l2_|apply l3_|refine l4_ ?_ (IsS62.ge HI421.out))|exact HB.out));rintro e w34 ⟨rfl,hi,hb,hk⟩;refine ⟨_,rfl,?_⟩;have n0_:=m_ (hb);have n1_:=m_ (hi);clear HB;clear HI421;have HB:=n0_;have HI421:=n1_;clear n0_ n1_;(try clear hb);(try clear hb2);(try clear hk);(try clear hi))|((with_reducible refine gate_callee (f:=9) rfl ?_);refine goesL_ (some 10) rfl rfl Tryd.func9 (by kernel_rfl) rfl #[.agg #[.int .i64 t422,.int .i64 t423,.int .i64 t424,.int .i64 t425,.int .i64 t426,.int .i64 t427,.string t428]] rfl (by (try simp only [List.map_toArray,List.map_cons,List.map_nil]);first|done|rfl|(simp only [List.length_drop,List.length_take];rfl)) ?_;(with_reducible refine (spec_PktText.calls k t422 t423 t424 t425 t426 t427 t428 t430 _ A4.out).mono ?_);rintro e w35 ⟨rfl,hb⟩;refine ⟨_,rfl,?_⟩;have n0_:=m_ (IsS62.below (by repeat (first|(with_reducible first|exact HI421.out|apply IsS62.alloc|apply IsS62.drewN|apply IsS62.drew|apply IsS62.set_1)|exact HI421.out)) hb);have n1_:=m_ (l5_ (by repeat (first|(with_reducible first|exact HB.out|apply l1_|apply l2_|apply l3_|refine l4_ ?_ (IsS62.ge HI421.out))|exact HB.out)) hb);clear HI421;clear HB;have HI421:=n0_;have HB:=n1_;clear n0_ n1_;(try clear hb);(try clear hb2);(try clear hk);(try clear hi))|((with_reducible refine gate_callee (f:=35) rfl ?_);refine goesL_ (some 15) rfl rfl Tryd.func35 (by kernel_rfl) rfl #[.pointer (some ⟨g421,0,none⟩),.int .i64 (wrap64 ((t430.size : Int) + 1))] rfl (by (try simp only [List.map_toArray,List.map_cons,List.map_nil]);first|done|rfl|(simp only [List.length_drop,List.length_take];rfl)) ?_;(with_reducible refine (spec_l6Rd_pick.calls k g421 t419 t429 (wrap64 ((t430.size : Int) + 1)) t431 t432 w _ ?side1 ?side2 A5.out).mono ?_);(case side1=>repeat (first|(with_reducible first|exact HI421.out|apply IsS62.alloc|apply IsS62.drewN|apply IsS62.drew|apply IsS62.set_1)|exact HI421.out));(case side2=>repeat (first|(with_reducible first|exact HB.out|apply l1_|apply l2_|apply l3_|refine l4_ ?_ (IsS62.ge HI421.out))|exact HB.out));rintro e w36 ⟨rfl,hi,hb,hk⟩;refine ⟨_,rfl,?_⟩;have n0_:=m_ (hb);have n1_:=m_ (hi);clear HB;clear HI421;have HB:=n0_;have HI421:=n1_;clear n0_ n1_;(try clear hb);(try clear hb2);(try clear hk);(try clear hi))|((with_reducible refine gate_callee (f:=35) rfl ?_);refine goesL_ (some 17) rfl rfl Tryd.func35 (by kernel_rfl) rfl #[.pointer (some ⟨g421,0,none⟩),.int .i64 8] rfl (by (try simp only [List.map_toArray,List.map_cons,List.map_nil]);first|done|rfl|(simp only [List.length_drop,List.length_take];rfl)) ?_;(with_reducible refine (spec_l6Rd_pick.calls k g421 t419 t432 8 t433 t434 w _ ?side1 ?side2 A6.out).mono ?_);(case side1=>repeat (first|(with_reducible first|exact HI421.out|apply IsS62.alloc|apply IsS62.drewN|apply IsS62.drew|apply IsS62.set_1)|exact HI421.out));(case side2=>repeat (first|(with_reducible first|exact HB.out|apply l1_|apply l2_|apply l3_|refine l4_ ?_ (IsS62.ge HI421.out))|exact HB.out));rintro e w37 ⟨rfl,hi,hb,hk⟩;refine ⟨_,rfl,?_⟩;have n0_:=m_ (hb);have n1_:=m_ (hi);clear HB;clear HI421;have HB:=n0_;have HI421:=n1_;clear n0_ n1_;(try clear hb);(try clear hb2);(try clear hk);(try clear hi)))
   go_ret
   exact ⟨by first|rfl|(simp [e1_,e2_] <;> rfl)|(simp [*,e1_,e2_] <;> rfl)|(simp [e1_,e2_,pk_empty1,pk_empty2];done)|(simp [*,e1_,e2_,pk_empty1,pk_empty2];done),by repeat (first|(with_reducible first|exact HB.out|apply l1_|apply l2_|apply l3_|refine l4_ ?_ (IsS62.ge HI421.out))|exact HB.out)⟩

/-! ### laws_FnPktStrict: function 6 -/
def laws_FnPktStrict.j0 : Nat → ByteArray → Bool → Bool → Bool → Int → Int → Int → Int → Int → Int → ByteArray → Int → Int → Int → Int → Int → Int → ByteArray → Option (Bool)
 | 0, _, _, _, _, _, _, _, _, _, _, _, _, _, _, _, _, _, _ => none
 | k + 1, x3, x5, x7, x34, x450000, x450001, x450002, x450003, x450004, x450005, x450006, x459000, x459001, x459002, x459003, x459004, x459005, x459006 => if x34 = true then (if (x7 == x5) = true then (some (x459000 == x450000 && ((x459001 == x450001 && (x459002 == x450002)) && ((x459003 == x450003 && (x459004 == x450004)) && (x459005 == x450005 && (x459006.toList == x450006.toList)))))) else (some false)) else ((impl_PktOk.f x459000 x459001 x459002 x459003 x459004 x459005 x459006).bind fun t459 => (if t459 = true then ((impl_PktText.f x459000 x459001 x459002 x459003 x459004 x459005 x459006).bind fun t460 => (some (t460.toList == x3.toList))) else (some false)))
def laws_FnPktStrict.f (k : Nat) (l0 : List Int) : Option (Bool) := if (l0.length : Int) > 1048576 then (some true) else ((spec_DrawPktRead.f k l0).bind fun t440 => ((spec_PktRead.f k t440).bind fun bt441 => ((impl_PktRead.f k t440).bind fun bt450 => (if (bt450.2.2.2.2.2.2.2 != bt441.2.2.2.2.2.2.2) = true then (laws_FnPktStrict.j0 k t440 bt441.2.2.2.2.2.2.2 bt450.2.2.2.2.2.2.2 true bt441.1 bt441.2.1 bt441.2.2.1 bt441.2.2.2.1 bt441.2.2.2.2.1 bt441.2.2.2.2.2.1 bt441.2.2.2.2.2.2.1 bt450.1 bt450.2.1 bt450.2.2.1 bt450.2.2.2.1 bt450.2.2.2.2.1 bt450.2.2.2.2.2.1 bt450.2.2.2.2.2.2.1) else (if (!(bt450.1 == bt441.1) || ((!(bt450.2.1 == bt441.2.1) || (!(bt450.2.2.1 == bt441.2.2.1))) || ((!(bt450.2.2.2.1 == bt441.2.2.2.1) || (!(bt450.2.2.2.2.1 == bt441.2.2.2.2.1))) || (!(bt450.2.2.2.2.2.1 == bt441.2.2.2.2.2.1) || (!(bt450.2.2.2.2.2.2.1.toList == bt441.2.2.2.2.2.2.1.toList)))))) = true then (laws_FnPktStrict.j0 k t440 bt441.2.2.2.2.2.2.2 bt450.2.2.2.2.2.2.2 true bt441.1 bt441.2.1 bt441.2.2.1 bt441.2.2.2.1 bt441.2.2.2.2.1 bt441.2.2.2.2.2.1 bt441.2.2.2.2.2.2.1 bt450.1 bt450.2.1 bt450.2.2.1 bt450.2.2.2.1 bt450.2.2.2.2.1 bt450.2.2.2.2.2.1 bt450.2.2.2.2.2.2.1) else (laws_FnPktStrict.j0 k t440 bt441.2.2.2.2.2.2.2 bt450.2.2.2.2.2.2.2 (!bt450.2.2.2.2.2.2.2) bt441.1 bt441.2.1 bt441.2.2.1 bt441.2.2.2.1 bt441.2.2.2.2.1 bt441.2.2.2.2.2.1 bt441.2.2.2.2.2.2.1 bt450.1 bt450.2.1 bt450.2.2.1 bt450.2.2.2.1 bt450.2.2.2.2.1 bt450.2.2.2.2.2.1 bt450.2.2.2.2.2.2.1))))))
theorem laws_FnPktStrict.mono_l : ∀ k, (∀ y0 y1 y2 y3 y4 y5 y6 y7 y8 y9 y10 y11 y12 y13 y14 y15 y16 y17, LeO (laws_FnPktStrict.j0 k y0 y1 y2 y3 y4 y5 y6 y7 y8 y9 y10 y11 y12 y13 y14 y15 y16 y17) (laws_FnPktStrict.j0 (k + 1) y0 y1 y2 y3 y4 y5 y6 y7 y8 y9 y10 y11 y12 y13 y14 y15 y16 y17))
 | 0 => fun _ _ _ _ _ _ _ _ _ _ _ _ _ _ _ _ _ _ r h => by simp [laws_FnPktStrict.j0] at h
 | k + 1 => by
  have ih0:=laws_FnPktStrict.mono_l k
  ·intro y0 y1 y2 y3 y4 y5 y6 y7 y8 y9 y10 y11 y12 y13 y14 y15 y16 y17
   unfold laws_FnPktStrict.j0
   repeat' first
   | (with_reducible exact ih0 _ _ _ _ _ _ _ _ _ _ _ _ _ _ _ _ _ _)
   | (with_reducible exact impl_PktRead.mono _ _)
   | (with_reducible exact spec_DrawPktRead.mono _ _)
   | (with_reducible exact spec_PktRead.mono _ _)
   | (with_reducible exact LeO.refl _)
   | (with_reducible exact LeO.none _)
   | (with_reducible refine LeO.ite ?_ ?_)
   | (with_reducible refine LeO.bind ?_ (fun _ => ?_))
   | exact ih0 _ _ _ _ _ _ _ _ _ _ _ _ _ _ _ _ _ _
   | exact impl_PktRead.mono _ _
   | exact spec_DrawPktRead.mono _ _
   | exact spec_PktRead.mono _ _
   | exact LeO.none _
   | refine LeO.ite ?_ ?_
   | refine LeO.bind ?_ (fun _ => ?_)
theorem laws_FnPktStrict.mono : ∀ a0 k, LeO (laws_FnPktStrict.f k a0) (laws_FnPktStrict.f (k + 1) a0) := by
 intro a0 k
 have ih0:=laws_FnPktStrict.mono_l k
 unfold laws_FnPktStrict.f
 repeat' first
   | (with_reducible exact ih0 _ _ _ _ _ _ _ _ _ _ _ _ _ _ _ _ _ _)
   | (with_reducible exact impl_PktRead.mono _ _)
   | (with_reducible exact spec_DrawPktRead.mono _ _)
   | (with_reducible exact spec_PktRead.mono _ _)
   | (with_reducible exact LeO.refl _)
   | (with_reducible exact LeO.none _)
   | (with_reducible refine LeO.ite ?_ ?_)
   | (with_reducible refine LeO.bind ?_ (fun _ => ?_))
   | exact ih0 _ _ _ _ _ _ _ _ _ _ _ _ _ _ _ _ _ _
   | exact impl_PktRead.mono _ _
   | exact spec_DrawPktRead.mono _ _
   | exact spec_PktRead.mono _ _
   | exact LeO.none _
   | refine LeO.ite ?_ ?_
   | refine LeO.bind ?_ (fun _ => ?_)
set_option maxHeartbeats 8000000 in
set_option maxRecDepth 100000 in
theorem laws_FnPktStrict.calls (k : Nat) (A0 : Option Addr) (c0 : Nat) (l0 : List Int) (r : Bool) (w : World) (hr0 : Kd.C (Kd.int .u8) w A0 l0.length l0) (hc0 : l0.length ≤ c0) (hG : GV w) (h : laws_FnPktStrict.f k l0 = some r) :
  Calls Tryd.prog 6 #[.slice A0 l0.length c0] w fun e w'=>e = .returned (.bool r) ∧ Below w.heap.size w w':=by
 have hu26:=Tryd.underlying26
 have HG:=m_ hG
 clear hG
 have HR0:=m_ hr0
 have HC0:=m_ hc0
 clear hr0 hc0
 have HB:=m_ (Below.refl w.heap.size w)
 have H : (if (l0.length : Int) > 1048576 then (some true) else ((spec_DrawPktRead.f k l0).bind fun t440=>((spec_PktRead.f k t440).bind fun bt441=>((impl_PktRead.f k t440).bind fun bt450=>(if (bt450.2.2.2.2.2.2.2 != bt441.2.2.2.2.2.2.2) = true then (laws_FnPktStrict.j0 k t440 bt441.2.2.2.2.2.2.2 bt450.2.2.2.2.2.2.2 true bt441.1 bt441.2.1 bt441.2.2.1 bt441.2.2.2.1 bt441.2.2.2.2.1 bt441.2.2.2.2.2.1 bt441.2.2.2.2.2.2.1 bt450.1 bt450.2.1 bt450.2.2.1 bt450.2.2.2.1 bt450.2.2.2.2.1 bt450.2.2.2.2.2.1 bt450.2.2.2.2.2.2.1) else (if (!(bt450.1 == bt441.1) || ((!(bt450.2.1 == bt441.2.1) || (!(bt450.2.2.1 == bt441.2.2.1))) || ((!(bt450.2.2.2.1 == bt441.2.2.2.1) || (!(bt450.2.2.2.2.1 == bt441.2.2.2.2.1))) || (!(bt450.2.2.2.2.2.1 == bt441.2.2.2.2.2.1) || (!(bt450.2.2.2.2.2.2.1.toList == bt441.2.2.2.2.2.2.1.toList)))))) = true then (laws_FnPktStrict.j0 k t440 bt441.2.2.2.2.2.2.2 bt450.2.2.2.2.2.2.2 true bt441.1 bt441.2.1 bt441.2.2.1 bt441.2.2.2.1 bt441.2.2.2.2.1 bt441.2.2.2.2.2.1 bt441.2.2.2.2.2.2.1 bt450.1 bt450.2.1 bt450.2.2.1 bt450.2.2.2.1 bt450.2.2.2.2.1 bt450.2.2.2.2.2.1 bt450.2.2.2.2.2.2.1) else (laws_FnPktStrict.j0 k t440 bt441.2.2.2.2.2.2.2 bt450.2.2.2.2.2.2.2 (!bt450.2.2.2.2.2.2.2) bt441.1 bt441.2.1 bt441.2.2.1 bt441.2.2.2.1 bt441.2.2.2.2.1 bt441.2.2.2.2.2.1 bt441.2.2.2.2.2.2.1 bt450.1 bt450.2.1 bt450.2.2.1 bt450.2.2.2.1 bt450.2.2.2.2.1 bt450.2.2.2.2.2.1 bt450.2.2.2.2.2.2.1))))))) = some r:=h
 clear h
 by_cases c2 : (l0.length : Int) > 1048576
 ·rw [if_pos c2] at H
  have c2b0 : decide (1048576 < (l0.length : Int)) = true:=decide_eq_true c2
  have c2b1 : decide (1048576 < l0.length) = true:=decide_eq_true (by omega)
  clear c2
  obtain rfl:=Option.some.inj H
  go_enter Tryd.func6,Tryd.ntmps6
  go_wp2
  go_ret
  exact ⟨by first|rfl|(simp [e1_,e2_] <;> rfl)|(simp [*,e1_,e2_] <;> rfl)|(simp [e1_,e2_,pk_empty1,pk_empty2];done)|(simp [*,e1_,e2_,pk_empty1,pk_empty2];done),by repeat (first|(with_reducible first|exact HB.out|apply l1_|apply l2_|apply l3_)|exact HB.out)⟩
 ·rw [if_neg c2] at H
  have c2b0 : decide (1048576 < (l0.length : Int)) = false:=decide_eq_false c2
  have c2b1 : decide (1048576 < l0.length) = false:=decide_eq_false (by omega)
  clear c2
  replace H:=Option.bind_eq_some_iff.mp H
  obtain ⟨t440,A30,H⟩:=H
  replace H : ((spec_PktRead.f k t440).bind fun bt441=>((impl_PktRead.f k t440).bind fun bt450=>(if (bt450.2.2.2.2.2.2.2 != bt441.2.2.2.2.2.2.2) = true then (laws_FnPktStrict.j0 k t440 bt441.2.2.2.2.2.2.2 bt450.2.2.2.2.2.2.2 true bt441.1 bt441.2.1 bt441.2.2.1 bt441.2.2.2.1 bt441.2.2.2.2.1 bt441.2.2.2.2.2.1 bt441.2.2.2.2.2.2.1 bt450.1 bt450.2.1 bt450.2.2.1 bt450.2.2.2.1 bt450.2.2.2.2.1 bt450.2.2.2.2.2.1 bt450.2.2.2.2.2.2.1) else (if (!(bt450.1 == bt441.1) || ((!(bt450.2.1 == bt441.2.1) || (!(bt450.2.2.1 == bt441.2.2.1))) || ((!(bt450.2.2.2.1 == bt441.2.2.2.1) || (!(bt450.2.2.2.2.1 == bt441.2.2.2.2.1))) || (!(bt450.2.2.2.2.2.1 == bt441.2.2.2.2.2.1) || (!(bt450.2.2.2.2.2.2.1.toList == bt441.2.2.2.2.2.2.1.toList)))))) = true then (laws_FnPktStrict.j0 k t440 bt441.2.2.2.2.2.2.2 bt450.2.2.2.2.2.2.2 true bt441.1 bt441.2.1 bt441.2.2.1 bt441.2.2.2.1 bt441.2.2.2.2.1 bt441.2.2.2.2.2.1 bt441.2.2.2.2.2.2.1 bt450.1 bt450.2.1 bt450.2.2.1 bt450.2.2.2.1 bt450.2.2.2.2.1 bt450.2.2.2.2.2.1 bt450.2.2.2.2.2.2.1) else (laws_FnPktStrict.j0 k t440 bt441.2.2.2.2.2.2.2 bt450.2.2.2.2.2.2.2 (!bt450.2.2.2.2.2.2.2) bt441.1 bt441.2.1 bt441.2.2.1 bt441.2.2.2.1 bt441.2.2.2.2.1 bt441.2.2.2.2.2.1 bt441.2.2.2.2.2.2.1 bt450.1 bt450.2.1 bt450.2.2.1 bt450.2.2.2.1 bt450.2.2.2.2.1 bt450.2.2.2.2.2.1 bt450.2.2.2.2.2.2.1))))) = some r:=H
  have A3:=m_ A30
  clear A30
  replace H:=Option.bind_eq_some_iff.mp H
  obtain ⟨⟨t441,t442,t443,t444,t445,t446,t447,t448⟩,A40,H⟩:=H
  replace H : ((impl_PktRead.f k t440).bind fun bt450=>(if (bt450.2.2.2.2.2.2.2 != t448) = true then (laws_FnPktStrict.j0 k t440 t448 bt450.2.2.2.2.2.2.2 true t441 t442 t443 t444 t445 t446 t447 bt450.1 bt450.2.1 bt450.2.2.1 bt450.2.2.2.1 bt450.2.2.2.2.1 bt450.2.2.2.2.2.1 bt450.2.2.2.2.2.2.1) else (if (!(bt450.1 == t441) || ((!(bt450.2.1 == t442) || (!(bt450.2.2.1 == t443))) || ((!(bt450.2.2.2.1 == t444) || (!(bt450.2.2.2.2.1 == t445))) || (!(bt450.2.2.2.2.2.1 == t446) || (!(bt450.2.2.2.2.2.2.1.toList == t447.toList)))))) = true then (laws_FnPktStrict.j0 k t440 t448 bt450.2.2.2.2.2.2.2 true t441 t442 t443 t444 t445 t446 t447 bt450.1 bt450.2.1 bt450.2.2.1 bt450.2.2.2.1 bt450.2.2.2.2.1 bt450.2.2.2.2.2.1 bt450.2.2.2.2.2.2.1) else (laws_FnPktStrict.j0 k t440 t448 bt450.2.2.2.2.2.2.2 (!bt450.2.2.2.2.2.2.2) t441 t442 t443 t444 t445 t446 t447 bt450.1 bt450.2.1 bt450.2.2.1 bt450.2.2.2.1 bt450.2.2.2.2.1 bt450.2.2.2.2.2.1 bt450.2.2.2.2.2.2.1)))) = some r:=H
  have A4:=m_ A40
  clear A40
  replace H:=Option.bind_eq_some_iff.mp H
  obtain ⟨⟨t450,t451,t452,t453,t454,t455,t456,t457⟩,A50,H⟩:=H
  replace H : (if (t457 != t448) = true then (laws_FnPktStrict.j0 k t440 t448 t457 true t441 t442 t443 t444 t445 t446 t447 t450 t451 t452 t453 t454 t455 t456) else (if (!(t450 == t441) || ((!(t451 == t442) || (!(t452 == t443))) || ((!(t453 == t444) || (!(t454 == t445))) || (!(t455 == t446) || (!(t456.toList == t447.toList)))))) = true then (laws_FnPktStrict.j0 k t440 t448 t457 true t441 t442 t443 t444 t445 t446 t447 t450 t451 t452 t453 t454 t455 t456) else (laws_FnPktStrict.j0 k t440 t448 t457 (!t457) t441 t442 t443 t444 t445 t446 t447 t450 t451 t452 t453 t454 t455 t456))) = some r:=H
  have A5:=m_ A50
  clear A50
  have HC6:=m_ H
  clear H
  go_enter Tryd.func6,Tryd.ntmps6
  go_upto_region 6 with (first|((with_reducible refine gate_callee (f:=14) rfl ?_);refine goesL_ (some 12) rfl rfl Tryd.func14 (by kernel_rfl) rfl #[.slice A0 l0.length c0] rfl (by (try simp only [List.map_toArray,List.map_cons,List.map_nil]);first|done|rfl|(simp only [List.length_drop,List.length_take];rfl)) ?_;(with_reducible refine (spec_DrawPktRead.calls k _ _ l0 t440 _ ?side1 ?side2 A3.out).mono ?_);(case side1=>repeat (first|exact HR0.out|(with_reducible refine Kd.C_alloc ?_ _)|(with_reducible refine Kd.C_drewN ?_ _)|(with_reducible refine Kd.C_drew ?_)));(case side2=>exact HC0.out);rintro e w7 ⟨rfl,hb⟩;refine ⟨_,rfl,?_⟩;have n0_:=m_ (l5_ (by repeat (first|(with_reducible first|exact HB.out|apply l1_|apply l2_|apply l3_)|exact HB.out)) hb);clear HB;have HB:=n0_;clear n0_;(try clear hb);(try clear hb2);(try clear hk);(try clear hi))|((with_reducible refine gate_callee (f:=12) rfl ?_);refine goesL_ (some 15) rfl rfl Tryd.func12 (by kernel_rfl) rfl #[.string t440] rfl (by (try simp only [List.map_toArray,List.map_cons,List.map_nil]);first|done|rfl|(simp only [List.length_drop,List.length_take];rfl)) ?_;(with_reducible refine (spec_PktRead.calls k t440 t441 t442 t443 t444 t445 t446 t447 t448 _ A4.out).mono ?_);rintro e w8 ⟨rfl,hb⟩;refine ⟨_,rfl,?_⟩;have n0_:=m_ (l5_ (by repeat (first|(with_reducible first|exact HB.out|apply l1_|apply l2_|apply l3_)|exact HB.out)) hb);clear HB;have HB:=n0_;clear n0_;(try clear hb);(try clear hb2);(try clear hk);(try clear hi))|((with_reducible refine gate_dst (N:=4) rfl ?_);refine box_event ?hg (N:=4) ?hd (cs:=#[.int .i64 0,.int .i64 0,.int .i64 0,.int .i64 0,.int .i64 0,.int .i64 0,.string (⟨#[]⟩ : ByteArray)]) (t:=26) ?hr ?_;(case hd=>rfl);(case hg=>rfl);(case hr=>first|(go_simp;done)|(go_simp;rfl));intro gb449 hg w9 hbox hb;have n0_:=m_ (l5_ (by repeat (first|(with_reducible first|exact HB.out|apply l1_|apply l2_|apply l3_)|exact HB.out)) hb);have n1_:=m_ (hbox);have n2_:=m_ ((by rw [hg];exact (l6_ (by repeat (first|(with_reducible first|exact HB.out|apply l1_|apply l2_|apply l3_)|exact HB.out))) : w.heap.size ≤ gb449));have n3_:=m_ ((by rw [hg];exact (l6_ (by repeat (first|(with_reducible first|exact HB.out|apply l1_|apply l2_|apply l3_)|exact HB.out))) : w.heap.size ≤ gb449));clear HB;have HB:=n0_;have BK449:=n1_;have GW449:=n2_;have GE449:=n3_;clear n0_ n1_ n2_ n3_;clear hb hbox hg;have hcz10_0 : w9.cell? ⟨gb449,0,none⟩ = some (.int .i64 0):=(c_ BK449.out 0).trans rfl;have hcz10_1 : w9.cell? ⟨gb449,1,none⟩ = some (.int .i64 0):=(c_ BK449.out 1).trans rfl;have hcz10_2 : w9.cell? ⟨gb449,2,none⟩ = some (.int .i64 0):=(c_ BK449.out 2).trans rfl;have hcz10_3 : w9.cell? ⟨gb449,3,none⟩ = some (.int .i64 0):=(c_ BK449.out 3).trans rfl;have hcz10_4 : w9.cell? ⟨gb449,4,none⟩ = some (.int .i64 0):=(c_ BK449.out 4).trans rfl;have hcz10_5 : w9.cell? ⟨gb449,5,none⟩ = some (.int .i64 0):=(c_ BK449.out 5).trans rfl;have hcz10_6 : w9.cell? ⟨gb449,6,none⟩ = some (.string (⟨#[]⟩ : ByteArray)):=(c_ BK449.out 6).trans rfl;have hfz10_0:=f_ BK449.out 0;have hfz10_1:=f_ BK449.out 1;have hfz10_2:=f_ BK449.out 2;have hfz10_3:=f_ BK449.out 3;have hfz10_4:=f_ BK449.out 4;have hfz10_5:=f_ BK449.out 5;have hfz10_6:=f_ BK449.out 6)|((with_reducible refine gate_callee (f:=10) rfl ?_);refine goesL_ (some 20) rfl rfl Tryd.func10 (by kernel_rfl) rfl #[.string t440] rfl (by (try simp only [List.map_toArray,List.map_cons,List.map_nil]);first|done|rfl|(simp only [List.length_drop,List.length_take];rfl)) ?_;(with_reducible refine (impl_PktRead.calls k t440 t450 t451 t452 t453 t454 t455 t456 t457 _ ?side1 A5.out).mono ?_);(case side1=>first|(with_reducible exact HG.out)|exact GV_below HG.out (by repeat (first|(with_reducible first|exact HB.out|apply l1_|apply l2_|apply l3_|refine l4_ ?_ GE449.out)|exact HB.out)));rintro e w11 ⟨rfl,hb⟩;refine ⟨_,rfl,?_⟩;have n0_:=m_ (blk_below (g:=gb449) (o:=.cells #[.int .i64 t441,.int .i64 t442,.int .i64 t443,.int .i64 t444,.int .i64 t445,.int .i64 t446,.string t447] 26 (0,0)) (by (with_reducible repeat first|apply b1_|apply b2_|apply b3_);refine blk_put (cs:=#[.int .i64 t441,.int .i64 t442,.int .i64 t443,.int .i64 t444,.int .i64 t445,.int .i64 t446,.string (⟨#[]⟩ : ByteArray)]) ?_ 6 _ rfl;(with_reducible repeat first|apply b1_|apply b2_|apply b3_);refine blk_put (cs:=#[.int .i64 t441,.int .i64 t442,.int .i64 t443,.int .i64 t444,.int .i64 t445,.int .i64 0,.string (⟨#[]⟩ : ByteArray)]) ?_ 5 _ rfl;(with_reducible repeat first|apply b1_|apply b2_|apply b3_);refine blk_put (cs:=#[.int .i64 t441,.int .i64 t442,.int .i64 t443,.int .i64 t444,.int .i64 0,.int .i64 0,.string (⟨#[]⟩ : ByteArray)]) ?_ 4 _ rfl;(with_reducible repeat first|apply b1_|apply b2_|apply b3_);refine blk_put (cs:=#[.int .i64 t441,.int .i64 t442,.int .i64 t443,.int .i64 0,.int .i64 0,.int .i64 0,.string (⟨#[]⟩ : ByteArray)]) ?_ 3 _ rfl;(with_reducible repeat first|apply b1_|apply b2_|apply b3_);refine blk_put (cs:=#[.int .i64 t441,.int .i64 t442,.int .i64 0,.int .i64 0,.int .i64 0,.int .i64 0,.string (⟨#[]⟩ : ByteArray)]) ?_ 2 _ rfl;(with_reducible repeat first|apply b1_|apply b2_|apply b3_);refine blk_put (cs:=#[.int .i64 t441,.int .i64 0,.int .i64 0,.int .i64 0,.int .i64 0,.int .i64 0,.string (⟨#[]⟩ : ByteArray)]) ?_ 1 _ rfl;(with_reducible repeat first|apply b1_|apply b2_|apply b3_);refine blk_put (cs:=#[.int .i64 0,.int .i64 0,.int .i64 0,.int .i64 0,.int .i64 0,.int .i64 0,.string (⟨#[]⟩ : ByteArray)]) ?_ 0 _ rfl;(with_reducible repeat first|apply b1_|apply b2_|apply b3_);exact BK449.out) hb);have n1_:=m_ (l5_ (by repeat (first|(with_reducible first|exact HB.out|apply l1_|apply l2_|apply l3_|refine l4_ ?_ GE449.out)|exact HB.out)) hb);clear BK449;clear HB;have BK449:=n0_;have HB:=n1_;clear n0_ n1_;(try clear hb);(try clear hb2);(try clear hk);(try clear hi))|((with_reducible refine gate_dst (N:=6) rfl ?_);refine box_event ?hg (N:=6) ?hd (cs:=#[.int .i64 0,.int .i64 0,.int .i64 0,.int .i64 0,.int .i64 0,.int .i64 0,.string (⟨#[]⟩ : ByteArray)]) (t:=26) ?hr ?_;(case hd=>rfl);(case hg=>rfl);(case hr=>first|(go_simp;done)|(go_simp;rfl));intro gb458 hg w12 hbox hb;have n0_:=m_ (blk_below (g:=gb449) (o:=.cells #[.int .i64 t441,.int .i64 t442,.int .i64 t443,.int .i64 t444,.int .i64 t445,.int .i64 t446,.string t447] 26 (0,0)) (by (with_reducible repeat first|apply b1_|apply b2_|apply b3_);exact BK449.out) hb);have n1_:=m_ (l5_ (by repeat (first|(with_reducible first|exact HB.out|apply l1_|apply l2_|apply l3_|refine l4_ ?_ GE449.out)|exact HB.out)) hb);have n2_:=m_ (hbox);have n3_:=m_ ((by rw [hg];exact (l6_ (by repeat (first|(with_reducible first|exact HB.out|apply l1_|apply l2_|apply l3_|refine l4_ ?_ GE449.out)|exact HB.out))) : w.heap.size ≤ gb458));have n4_:=n3_;have n5_:=m_ ((by rw [hg];exact Nat.ne_of_lt (blk_lt (g:=gb449) (o:=.cells #[.int .i64 t441,.int .i64 t442,.int .i64 t443,.int .i64 t444,.int .i64 t445,.int .i64 t446,.string t447] 26 (0,0)) (by (with_reducible repeat first|apply b1_|apply b2_|apply b3_);exact BK449.out)) : gb449 ≠ gb458));have n6_:=m_ n5_.out.symm;clear BK449;clear HB;have BK449:=n0_;have HB:=n1_;have BK458:=n2_;have GW458:=n3_;have GE458:=n4_;have NB449_458:=n5_;have NB458_449:=n6_;clear n0_ n1_ n2_ n3_ n4_ n5_ n6_;clear hb hbox hg;have hnb13:=NB458_449.out;have hnc13:=NB449_458.out;have hcz14_0 : w12.cell? ⟨gb458,0,none⟩ = some (.int .i64 0):=(c_ BK458.out 0).trans rfl;have hcz14_1 : w12.cell? ⟨gb458,1,none⟩ = some (.int .i64 0):=(c_ BK458.out 1).trans rfl;have hcz14_2 : w12.cell? ⟨gb458,2,none⟩ = some (.int .i64 0):=(c_ BK458.out 2).trans rfl;have hcz14_3 : w12.cell? ⟨gb458,3,none⟩ = some (.int .i64 0):=(c_ BK458.out 3).trans rfl;have hcz14_4 : w12.cell? ⟨gb458,4,none⟩ = some (.int .i64 0):=(c_ BK458.out 4).trans rfl;have hcz14_5 : w12.cell? ⟨gb458,5,none⟩ = some (.int .i64 0):=(c_ BK458.out 5).trans rfl;have hcz14_6 : w12.cell? ⟨gb458,6,none⟩ = some (.string (⟨#[]⟩ : ByteArray)):=(c_ BK458.out 6).trans rfl;have hfz14_0:=f_ BK458.out 0;have hfz14_1:=f_ BK458.out 1;have hfz14_2:=f_ BK458.out 2;have hfz14_3:=f_ BK458.out 3;have hfz14_4:=f_ BK458.out 4;have hfz14_5:=f_ BK458.out 5;have hfz14_6:=f_ BK458.out 6))
  (try simp only [Act.put,s1_,s2_,s3_])
  go_cut [34] (fun v34 wc=>∃ (kq : Nat) (x34_5 : Bool),v34 = .bool x34_5 ∧ Aside0 (laws_FnPktStrict.j0 kq t440 t448 t457 x34_5 t441 t442 t443 t444 t445 t446 t447 t450 t451 t452 t453 t454 t455 t456 = some r) ∧ Aside0 (kq ≤ k) ∧ Aside0 (wc.heap[gb449]? = some (.cells #[.int .i64 t441,.int .i64 t442,.int .i64 t443,.int .i64 t444,.int .i64 t445,.int .i64 t446,.string t447] 26 (0,0))) ∧ Aside0 (wc.heap[gb458]? = some (.cells #[.int .i64 t450,.int .i64 t451,.int .i64 t452,.int .i64 t453,.int .i64 t454,.int .i64 t455,.string t456] 26 (0,0))) ∧ Aside0 (Below w.heap.size w wc))
  case first =>
   have H:=HC6.out
   clear HC6
   by_cases c15 : (t457 != t448) = true
   ·rw [if_pos c15] at H
    have c15b0 : (t457 != t448) = true:=c15
    (try (have c15b1 : decide (t457 = t448) = false:=by simpa using c15))
    (try (have c15b2 : (t457 == t448) = false:=by simpa using c15))
    (try (have c15b3 : ¬ (t457 = t448):=by simpa using c15))
    clear c15
    (first|rw [c15b0]|(simp only [i64_w,i32_w];rw [c15b0])|skip)
    have H':=m_ H
    clear H
    go_wp2
    go_meet
    case rel=>exact ⟨_,(true),(by first|rfl|(simp;done)|(simp [*];done)),H',⟨by first|omega|exact Nat.le_refl _⟩,⟨by (with_reducible repeat first|apply b1_|apply b2_|apply b3_);refine b4_ ?_ NB449_458.out _;(with_reducible repeat first|apply b1_|apply b2_|apply b3_);refine b4_ ?_ NB449_458.out _;(with_reducible repeat first|apply b1_|apply b2_|apply b3_);refine b4_ ?_ NB449_458.out _;(with_reducible repeat first|apply b1_|apply b2_|apply b3_);refine b4_ ?_ NB449_458.out _;(with_reducible repeat first|apply b1_|apply b2_|apply b3_);refine b4_ ?_ NB449_458.out _;(with_reducible repeat first|apply b1_|apply b2_|apply b3_);refine b4_ ?_ NB449_458.out _;(with_reducible repeat first|apply b1_|apply b2_|apply b3_);refine b4_ ?_ NB449_458.out _;(with_reducible repeat first|apply b1_|apply b2_|apply b3_);exact BK449.out⟩,⟨by (with_reducible repeat first|apply b1_|apply b2_|apply b3_);refine blk_put (cs:=#[.int .i64 t450,.int .i64 t451,.int .i64 t452,.int .i64 t453,.int .i64 t454,.int .i64 t455,.string (⟨#[]⟩ : ByteArray)]) ?_ 6 _ rfl;(with_reducible repeat first|apply b1_|apply b2_|apply b3_);refine blk_put (cs:=#[.int .i64 t450,.int .i64 t451,.int .i64 t452,.int .i64 t453,.int .i64 t454,.int .i64 0,.string (⟨#[]⟩ : ByteArray)]) ?_ 5 _ rfl;(with_reducible repeat first|apply b1_|apply b2_|apply b3_);refine blk_put (cs:=#[.int .i64 t450,.int .i64 t451,.int .i64 t452,.int .i64 t453,.int .i64 0,.int .i64 0,.string (⟨#[]⟩ : ByteArray)]) ?_ 4 _ rfl;(with_reducible repeat first|apply b1_|apply b2_|apply b3_);refine blk_put (cs:=#[.int .i64 t450,.int .i64 t451,.int .i64 t452,.int .i64 0,.int .i64 0,.int .i64 0,.string (⟨#[]⟩ : ByteArray)]) ?_ 3 _ rfl;(with_reducible repeat first|apply b1_|apply b2_|apply b3_);refine blk_put (cs:=#[.int .i64 t450,.int .i64 t451,.int .i64 0,.int .i64 0,.int .i64 0,.int .i64 0,.string (⟨#[]⟩ : ByteArray)]) ?_ 2 _ rfl;(with_reducible repeat first|apply b1_|apply b2_|apply b3_);refine blk_put (cs:=#[.int .i64 t450,.int .i64 0,.int .i64 0,.int .i64 0,.int .i64 0,.int .i64 0,.string (⟨#[]⟩ : ByteArray)]) ?_ 1 _ rfl;(with_reducible repeat first|apply b1_|apply b2_|apply b3_);refine blk_put (cs:=#[.int .i64 0,.int .i64 0,.int .i64 0,.int .i64 0,.int .i64 0,.int .i64 0,.string (⟨#[]⟩ : ByteArray)]) ?_ 0 _ rfl;(with_reducible repeat first|apply b1_|apply b2_|apply b3_);exact BK458.out⟩,⟨by repeat (first|(with_reducible first|exact HB.out|apply l1_|apply l2_|apply l3_|refine l4_ ?_ GE449.out|refine l4_ ?_ GE458.out)|exact HB.out)⟩⟩
   ·rw [if_neg c15] at H
    have c15b0 : (t457 != t448) = false:=by simpa using c15
    (try (have c15b1 : decide (t457 = t448) = true:=by simpa using c15))
    (try (have c15b2 : (t457 == t448) = true:=by simpa using c15))
    clear c15
    (first|rw [c15b0]|(simp only [i64_w,i32_w];rw [c15b0])|skip)
    by_cases c16 : (!(t450 == t441) || ((!(t451 == t442) || (!(t452 == t443))) || ((!(t453 == t444) || (!(t454 == t445))) || (!(t455 == t446) || (!(t456.toList == t447.toList)))))) = true
    ·rw [if_pos c16] at H
     have c16b0 : (!(t450 == t441) || ((!(t451 == t442) || (!(t452 == t443))) || ((!(t453 == t444) || (!(t454 == t445))) || (!(t455 == t446) || (!(t456.toList == t447.toList)))))) = true:=c16
     clear c16
     have H':=m_ H
     clear H
     have hnb17:=NB458_449.out
     have hnc17:=NB449_458.out
     have hcz18_0 : w12.cell? ⟨gb458,0,none⟩ = some (.int .i64 0):=(c_ BK458.out 0).trans rfl
     have hcz18_1 : w12.cell? ⟨gb458,1,none⟩ = some (.int .i64 0):=(c_ BK458.out 1).trans rfl
     have hcz18_2 : w12.cell? ⟨gb458,2,none⟩ = some (.int .i64 0):=(c_ BK458.out 2).trans rfl
     have hcz18_3 : w12.cell? ⟨gb458,3,none⟩ = some (.int .i64 0):=(c_ BK458.out 3).trans rfl
     have hcz18_4 : w12.cell? ⟨gb458,4,none⟩ = some (.int .i64 0):=(c_ BK458.out 4).trans rfl
     have hcz18_5 : w12.cell? ⟨gb458,5,none⟩ = some (.int .i64 0):=(c_ BK458.out 5).trans rfl
     have hcz18_6 : w12.cell? ⟨gb458,6,none⟩ = some (.string (⟨#[]⟩ : ByteArray)):=(c_ BK458.out 6).trans rfl
     have hfz18_0:=f_ BK458.out 0
     have hfz18_1:=f_ BK458.out 1
     have hfz18_2:=f_ BK458.out 2
     have hfz18_3:=f_ BK458.out 3
     have hfz18_4:=f_ BK458.out 4
     have hfz18_5:=f_ BK458.out 5
     have hfz18_6:=f_ BK458.out 6
     have hcz19_0 : w12.cell? ⟨gb449,0,none⟩ = some (.int .i64 t441):=(c_ BK449.out 0).trans rfl
     have hcz19_1 : w12.cell? ⟨gb449,1,none⟩ = some (.int .i64 t442):=(c_ BK449.out 1).trans rfl
     have hcz19_2 : w12.cell? ⟨gb449,2,none⟩ = some (.int .i64 t443):=(c_ BK449.out 2).trans rfl
     have hcz19_3 : w12.cell? ⟨gb449,3,none⟩ = some (.int .i64 t444):=(c_ BK449.out 3).trans rfl
     have hcz19_4 : w12.cell? ⟨gb449,4,none⟩ = some (.int .i64 t445):=(c_ BK449.out 4).trans rfl
     have hcz19_5 : w12.cell? ⟨gb449,5,none⟩ = some (.int .i64 t446):=(c_ BK449.out 5).trans rfl
     have hcz19_6 : w12.cell? ⟨gb449,6,none⟩ = some (.string t447):=(c_ BK449.out 6).trans rfl
     have hfz19_0:=f_ BK449.out 0
     have hfz19_1:=f_ BK449.out 1
     have hfz19_2:=f_ BK449.out 2
     have hfz19_3:=f_ BK449.out 3
     have hfz19_4:=f_ BK449.out 4
     have hfz19_5:=f_ BK449.out 5
     have hfz19_6:=f_ BK449.out 6
     go_wp2
     go_meet
     case rel=>exact ⟨_,(true),(by first|rfl|(simp;done)|(simp [*];done)),H',⟨by first|omega|exact Nat.le_refl _⟩,⟨by (with_reducible repeat first|apply b1_|apply b2_|apply b3_);refine b4_ ?_ NB449_458.out _;(with_reducible repeat first|apply b1_|apply b2_|apply b3_);refine b4_ ?_ NB449_458.out _;(with_reducible repeat first|apply b1_|apply b2_|apply b3_);refine b4_ ?_ NB449_458.out _;(with_reducible repeat first|apply b1_|apply b2_|apply b3_);refine b4_ ?_ NB449_458.out _;(with_reducible repeat first|apply b1_|apply b2_|apply b3_);refine b4_ ?_ NB449_458.out _;(with_reducible repeat first|apply b1_|apply b2_|apply b3_);refine b4_ ?_ NB449_458.out _;(with_reducible repeat first|apply b1_|apply b2_|apply b3_);refine b4_ ?_ NB449_458.out _;(with_reducible repeat first|apply b1_|apply b2_|apply b3_);exact BK449.out⟩,⟨by (with_reducible repeat first|apply b1_|apply b2_|apply b3_);refine blk_put (cs:=#[.int .i64 t450,.int .i64 t451,.int .i64 t452,.int .i64 t453,.int .i64 t454,.int .i64 t455,.string (⟨#[]⟩ : ByteArray)]) ?_ 6 _ rfl;(with_reducible repeat first|apply b1_|apply b2_|apply b3_);refine blk_put (cs:=#[.int .i64 t450,.int .i64 t451,.int .i64 t452,.int .i64 t453,.int .i64 t454,.int .i64 0,.string (⟨#[]⟩ : ByteArray)]) ?_ 5 _ rfl;(with_reducible repeat first|apply b1_|apply b2_|apply b3_);refine blk_put (cs:=#[.int .i64 t450,.int .i64 t451,.int .i64 t452,.int .i64 t453,.int .i64 0,.int .i64 0,.string (⟨#[]⟩ : ByteArray)]) ?_ 4 _ rfl;(with_reducible repeat first|apply b1_|apply b2_|apply b3_);refine blk_put (cs:=#[.int .i64 t450,.int .i64 t451,.int .i64 t452,.int .i64 0,.int .i64 0,.int .i64 0,.string (⟨#[]⟩ : ByteArray)]) ?_ 3 _ rfl;(with_reducible repeat first|apply b1_|apply b2_|apply b3_);refine blk_put (cs:=#[.int .i64 t450,.int .i64 t451,.int .i64 0,.int .i64 0,.int .i64 0,.int .i64 0,.string (⟨#[]⟩ : ByteArray)]) ?_ 2 _ rfl;(with_reducible repeat first|apply b1_|apply b2_|apply b3_);refine blk_put (cs:=#[.int .i64 t450,.int .i64 0,.int .i64 0,.int .i64 0,.int .i64 0,.int .i64 0,.string (⟨#[]⟩ : ByteArray)]) ?_ 1 _ rfl;(with_reducible repeat first|apply b1_|apply b2_|apply b3_);refine blk_put (cs:=#[.int .i64 0,.int .i64 0,.int .i64 0,.int .i64 0,.int .i64 0,.int .i64 0,.string (⟨#[]⟩ : ByteArray)]) ?_ 0 _ rfl;(with_reducible repeat first|apply b1_|apply b2_|apply b3_);exact BK458.out⟩,⟨by repeat (first|(with_reducible first|exact HB.out|apply l1_|apply l2_|apply l3_|refine l4_ ?_ GE449.out|refine l4_ ?_ GE458.out)|exact HB.out)⟩⟩
    ·rw [if_neg c16] at H
     have c16b0 : (!(t450 == t441) || ((!(t451 == t442) || (!(t452 == t443))) || ((!(t453 == t444) || (!(t454 == t445))) || (!(t455 == t446) || (!(t456.toList == t447.toList)))))) = false:=by simpa using c16
     clear c16
     have H':=m_ H
     clear H
     have hnb20:=NB458_449.out
     have hnc20:=NB449_458.out
     have hcz21_0 : w12.cell? ⟨gb458,0,none⟩ = some (.int .i64 0):=(c_ BK458.out 0).trans rfl
     have hcz21_1 : w12.cell? ⟨gb458,1,none⟩ = some (.int .i64 0):=(c_ BK458.out 1).trans rfl
     have hcz21_2 : w12.cell? ⟨gb458,2,none⟩ = some (.int .i64 0):=(c_ BK458.out 2).trans rfl
     have hcz21_3 : w12.cell? ⟨gb458,3,none⟩ = some (.int .i64 0):=(c_ BK458.out 3).trans rfl
     have hcz21_4 : w12.cell? ⟨gb458,4,none⟩ = some (.int .i64 0):=(c_ BK458.out 4).trans rfl
     have hcz21_5 : w12.cell? ⟨gb458,5,none⟩ = some (.int .i64 0):=(c_ BK458.out 5).trans rfl
     have hcz21_6 : w12.cell? ⟨gb458,6,none⟩ = some (.string (⟨#[]⟩ : ByteArray)):=(c_ BK458.out 6).trans rfl
     have hfz21_0:=f_ BK458.out 0
     have hfz21_1:=f_ BK458.out 1
     have hfz21_2:=f_ BK458.out 2
     have hfz21_3:=f_ BK458.out 3
     have hfz21_4:=f_ BK458.out 4
     have hfz21_5:=f_ BK458.out 5
     have hfz21_6:=f_ BK458.out 6
     have hcz22_0 : w12.cell? ⟨gb449,0,none⟩ = some (.int .i64 t441):=(c_ BK449.out 0).trans rfl
     have hcz22_1 : w12.cell? ⟨gb449,1,none⟩ = some (.int .i64 t442):=(c_ BK449.out 1).trans rfl
     have hcz22_2 : w12.cell? ⟨gb449,2,none⟩ = some (.int .i64 t443):=(c_ BK449.out 2).trans rfl
     have hcz22_3 : w12.cell? ⟨gb449,3,none⟩ = some (.int .i64 t444):=(c_ BK449.out 3).trans rfl
     have hcz22_4 : w12.cell? ⟨gb449,4,none⟩ = some (.int .i64 t445):=(c_ BK449.out 4).trans rfl
     have hcz22_5 : w12.cell? ⟨gb449,5,none⟩ = some (.int .i64 t446):=(c_ BK449.out 5).trans rfl
     have hcz22_6 : w12.cell? ⟨gb449,6,none⟩ = some (.string t447):=(c_ BK449.out 6).trans rfl
     have hfz22_0:=f_ BK449.out 0
     have hfz22_1:=f_ BK449.out 1
     have hfz22_2:=f_ BK449.out 2
     have hfz22_3:=f_ BK449.out 3
     have hfz22_4:=f_ BK449.out 4
     have hfz22_5:=f_ BK449.out 5
     have hfz22_6:=f_ BK449.out 6
     go_wp2
     go_meet
     case rel=>exact ⟨_,(!t457),(by first|rfl|(simp;done)|(simp [*];done)),H',⟨by first|omega|exact Nat.le_refl _⟩,⟨by (with_reducible repeat first|apply b1_|apply b2_|apply b3_);refine b4_ ?_ NB449_458.out _;(with_reducible repeat first|apply b1_|apply b2_|apply b3_);refine b4_ ?_ NB449_458.out _;(with_reducible repeat first|apply b1_|apply b2_|apply b3_);refine b4_ ?_ NB449_458.out _;(with_reducible repeat first|apply b1_|apply b2_|apply b3_);refine b4_ ?_ NB449_458.out _;(with_reducible repeat first|apply b1_|apply b2_|apply b3_);refine b4_ ?_ NB449_458.out _;(with_reducible repeat first|apply b1_|apply b2_|apply b3_);refine b4_ ?_ NB449_458.out _;(with_reducible repeat first|apply b1_|apply b2_|apply b3_);refine b4_ ?_ NB449_458.out _;(with_reducible repeat first|apply b1_|apply b2_|apply b3_);exact BK449.out⟩,⟨by (with_reducible repeat first|apply b1_|apply b2_|apply b3_);refine blk_put (cs:=#[.int .i64 t450,.int .i64 t451,.int .i64 t452,.int .i64 t453,.int .i64 t454,.int .i64 t455,.string (⟨#[]⟩ : ByteArray)]) ?_ 6 _ rfl;(with_reducible repeat first|apply b1_|apply b2_|apply b3_);refine blk_put (cs:=#[.int .i64 t450,.int .i64 t451,.int .i64 t452,.int .i64 t453,.int .i64 t454,.int .i64 0,.string (⟨#[]⟩ : ByteArray)]) ?_ 5 _ rfl;(with_reducible repeat first|apply b1_|apply b2_|apply b3_);refine blk_put (cs:=#[.int .i64 t450,.int .i64 t451,.int .i64 t452,.int .i64 t453,.int .i64 0,.int .i64 0,.string (⟨#[]⟩ : ByteArray)]) ?_ 4 _ rfl;(with_reducible repeat first|apply b1_|apply b2_|apply b3_);refine blk_put (cs:=#[.int .i64 t450,.int .i64 t451,.int .i64 t452,.int .i64 0,.int .i64 0,.int .i64 0,.string (⟨#[]⟩ : ByteArray)]) ?_ 3 _ rfl;(with_reducible repeat first|apply b1_|apply b2_|apply b3_);refine blk_put (cs:=#[.int .i64 t450,.int .i64 t451,.int .i64 0,.int .i64 0,.int .i64 0,.int .i64 0,.string (⟨#[]⟩ : ByteArray)]) ?_ 2 _ rfl;(with_reducible repeat first|apply b1_|apply b2_|apply b3_);refine blk_put (cs:=#[.int .i64 t450,.int .i64 0,.int .i64 0,.int .i64 0,.int .i64 0,.int .i64 0,.string (⟨#[]⟩ : ByteArray)]) ?_ 1 _ rfl;(with_reducible repeat first|apply b1_|apply b2_|apply b3_);refine blk_put (cs:=#[.int .i64 0,.int .i64 0,.int .i64 0,.int .i64 0,.int .i64 0,.int .i64 0,.string (⟨#[]⟩ : ByteArray)]) ?_ 0 _ rfl;(with_reducible repeat first|apply b1_|apply b2_|apply b3_);exact BK458.out⟩,⟨by repeat (first|(with_reducible first|exact HB.out|apply l1_|apply l2_|apply l3_|refine l4_ ?_ GE449.out|refine l4_ ?_ GE458.out)|exact HB.out)⟩⟩
  case rest =>
   clear HC6
   try clear c1
   try clear c2
   try clear c2b0
   try clear c2b1
   try clear p2
   try clear c6
   try clear c10
   try clear c12
   try clear c13
   try clear c14
   try clear c15
   try clear c15b0
   try clear c15b1
   try clear c15b2
   try clear c16
   try clear c16b0
   try clear c17
   try clear c20
   try clear hcz10_0
   try clear hcz10_1
   try clear hcz10_2
   try clear hcz10_3
   try clear hcz10_4
   try clear hcz10_5
   try clear hcz10_6
   try clear hcz14_0
   try clear hcz14_1
   try clear hcz14_2
   try clear hcz14_3
   try clear hcz14_4
   try clear hcz14_5
   try clear hcz14_6
   try clear hcz18_0
   try clear hcz18_1
   try clear hcz18_2
   try clear hcz18_3
   try clear hcz18_4
   try clear hcz18_5
   try clear hcz18_6
   try clear hcz19_0
   try clear hcz19_1
   try clear hcz19_2
   try clear hcz19_3
   try clear hcz19_4
   try clear hcz19_5
   try clear hcz19_6
   try clear hcz21_0
   try clear hcz21_1
   try clear hcz21_2
   try clear hcz21_3
   try clear hcz21_4
   try clear hcz21_5
   try clear hcz21_6
   try clear hcz22_0
   try clear hcz22_1
   try clear hcz22_2
   try clear hcz22_3
   try clear hcz22_4
   try clear hcz22_5
   try clear hcz22_6
   try clear hfz10_0
   try clear hfz10_1
   try clear hfz10_2
   try clear hfz10_3
   try clear hfz10_4
   try clear hfz10_5
   try clear hfz10_6
   try clear hfz14_0
   try clear hfz14_1
   try clear hfz14_2
   try clear hfz14_3
   try clear hfz14_4
   try clear hfz14_5
   try clear hfz14_6
   try clear hfz18_0
   try clear hfz18_1
   try clear hfz18_2
   try clear hfz18_3
   try clear hfz18_4
   try clear hfz18_5
   try clear hfz18_6
   try clear hfz19_0
   try clear hfz19_1
   try clear hfz19_2
   try clear hfz19_3
   try clear hfz19_4
   try clear hfz19_5
   try clear hfz19_6
   try clear hfz21_0
   try clear hfz21_1
   try clear hfz21_2
   try clear hfz21_3
   try clear hfz21_4
   try clear hfz21_5
   try clear hfz21_6
   try clear hfz22_0
   try clear hfz22_1
   try clear hfz22_2
   try clear hfz22_3
   try clear hfz22_4
   try clear hfz22_5
   try clear hfz22_6
   obtain ⟨kq,x34_5,rfl,HA,HJ5,BK449,BK458,HB⟩:=hcut
   cases kq with
   | zero => exact absurd HA.out (by simp [laws_FnPktStrict.j0])
   | succ kj5 =>
    have H:=HA.out
    clear HA
    simp only [laws_FnPktStrict.j0] at H
    by_cases c23 : x34_5 = true
    ·subst c23
     have H1 : (if (t457 == t448) = true then (some (t450 == t441 && ((t451 == t442 && (t452 == t443)) && ((t453 == t444 && (t454 == t445)) && (t455 == t446 && (t456.toList == t447.toList)))))) else (some false)) = some r:=by rw [if_pos rfl] at H;exact H
     clear H
     have H:=H1
     clear H1
     by_cases c24 : (t457 == t448) = true
     ·rw [if_pos c24] at H
      have c24b0 : (t457 == t448) = true:=c24
      (try (have c24b1 : decide (t457 = t448) = true:=by simpa using c24))
      (try (have c24b2 : (t457 == t448) = true:=by simpa using c24))
      clear c24
      obtain rfl:=Option.some.inj H
      have hnb25:=NB458_449.out
      have hnc25:=NB449_458.out
      have hcz26_0 : wc.cell? ⟨gb458,0,none⟩ = some (.int .i64 t450):=(c_ BK458.out 0).trans rfl
      have hcz26_1 : wc.cell? ⟨gb458,1,none⟩ = some (.int .i64 t451):=(c_ BK458.out 1).trans rfl
      have hcz26_2 : wc.cell? ⟨gb458,2,none⟩ = some (.int .i64 t452):=(c_ BK458.out 2).trans rfl
      have hcz26_3 : wc.cell? ⟨gb458,3,none⟩ = some (.int .i64 t453):=(c_ BK458.out 3).trans rfl
      have hcz26_4 : wc.cell? ⟨gb458,4,none⟩ = some (.int .i64 t454):=(c_ BK458.out 4).trans rfl
      have hcz26_5 : wc.cell? ⟨gb458,5,none⟩ = some (.int .i64 t455):=(c_ BK458.out 5).trans rfl
      have hcz26_6 : wc.cell? ⟨gb458,6,none⟩ = some (.string t456):=(c_ BK458.out 6).trans rfl
      have hfz26_0:=f_ BK458.out 0
      have hfz26_1:=f_ BK458.out 1
      have hfz26_2:=f_ BK458.out 2
      have hfz26_3:=f_ BK458.out 3
      have hfz26_4:=f_ BK458.out 4
      have hfz26_5:=f_ BK458.out 5
      have hfz26_6:=f_ BK458.out 6
      have hcz27_0 : wc.cell? ⟨gb449,0,none⟩ = some (.int .i64 t441):=(c_ BK449.out 0).trans rfl
      have hcz27_1 : wc.cell? ⟨gb449,1,none⟩ = some (.int .i64 t442):=(c_ BK449.out 1).trans rfl
      have hcz27_2 : wc.cell? ⟨gb449,2,none⟩ = some (.int .i64 t443):=(c_ BK449.out 2).trans rfl
      have hcz27_3 : wc.cell? ⟨gb449,3,none⟩ = some (.int .i64 t444):=(c_ BK449.out 3).trans rfl
      have hcz27_4 : wc.cell? ⟨gb449,4,none⟩ = some (.int .i64 t445):=(c_ BK449.out 4).trans rfl
      have hcz27_5 : wc.cell? ⟨gb449,5,none⟩ = some (.int .i64 t446):=(c_ BK449.out 5).trans rfl
      have hcz27_6 : wc.cell? ⟨gb449,6,none⟩ = some (.string t447):=(c_ BK449.out 6).trans rfl
      have hfz27_0:=f_ BK449.out 0
      have hfz27_1:=f_ BK449.out 1
      have hfz27_2:=f_ BK449.out 2
      have hfz27_3:=f_ BK449.out 3
      have hfz27_4:=f_ BK449.out 4
      have hfz27_5:=f_ BK449.out 5
      have hfz27_6:=f_ BK449.out 6
      go_wp2
      go_ret
      exact ⟨by first|rfl|(simp [e1_,e2_] <;> rfl)|(simp [*,e1_,e2_] <;> rfl)|(simp [e1_,e2_,pk_empty1,pk_empty2];done)|(simp [*,e1_,e2_,pk_empty1,pk_empty2];done),by repeat (first|(with_reducible first|exact HB.out|apply l1_|apply l2_|apply l3_|refine l4_ ?_ GE449.out|refine l4_ ?_ GE458.out)|exact HB.out)⟩
     ·rw [if_neg c24] at H
      have c24b0 : (t457 == t448) = false:=by simpa using c24
      (try (have c24b1 : decide (t457 = t448) = false:=by simpa using c24))
      (try (have c24b2 : (t457 == t448) = false:=by simpa using c24))
      (try (have c24b3 : ¬ (t457 = t448):=by simpa using c24))
      clear c24
      obtain rfl:=Option.some.inj H
      go_wp2
      go_ret
      exact ⟨by first|rfl|(simp [e1_,e2_] <;> rfl)|(simp [*,e1_,e2_] <;> rfl)|(simp [e1_,e2_,pk_empty1,pk_empty2];done)|(simp [*,e1_,e2_,pk_empty1,pk_empty2];done),by repeat (first|(with_reducible first|exact HB.out|apply l1_|apply l2_|apply l3_|refine l4_ ?_ GE449.out|refine l4_ ?_ GE458.out)|exact HB.out)⟩
    ·replace c23:=Bool.eq_false_iff.mpr c23
     subst c23
     have H1 : ((impl_PktOk.f t450 t451 t452 t453 t454 t455 t456).bind fun t459=>(if t459 = true then ((impl_PktText.f t450 t451 t452 t453 t454 t455 t456).bind fun t460=>(some (t460.toList == t440.toList))) else (some false))) = some r:=by rw [if_neg (show ¬ (false = true) by decide)] at H;exact H
     clear H
     have H:=H1
     clear H1
     replace H:=Option.bind_eq_some_iff.mp H
     obtain ⟨t459,A280,H⟩:=H
     replace H : (if t459 = true then ((impl_PktText.f t450 t451 t452 t453 t454 t455 t456).bind fun t460=>(some (t460.toList == t440.toList))) else (some false)) = some r:=H
     have A28:=m_ A280
     clear A280
     by_cases c29 : t459 = true
     ·subst c29
      have H1 : ((impl_PktText.f t450 t451 t452 t453 t454 t455 t456).bind fun t460=>(some (t460.toList == t440.toList))) = some r:=by rw [if_pos rfl] at H;exact H
      clear H
      have H:=H1
      clear H1
      replace H:=Option.bind_eq_some_iff.mp H
      obtain ⟨t460,A300,H⟩:=H
      replace H : (some (t460.toList == t440.toList)) = some r:=H
      have A30:=m_ A300
      clear A300
      obtain rfl:=Option.some.inj H
      have hnb31:=NB458_449.out
      have hnc31:=NB449_458.out
      have hcz32_0 : wc.cell? ⟨gb458,0,none⟩ = some (.int .i64 t450):=(c_ BK458.out 0).trans rfl
      have hcz32_1 : wc.cell? ⟨gb458,1,none⟩ = some (.int .i64 t451):=(c_ BK458.out 1).trans rfl
      have hcz32_2 : wc.cell? ⟨gb458,2,none⟩ = some (.int .i64 t452):=(c_ BK458.out 2).trans rfl
      have hcz32_3 : wc.cell? ⟨gb458,3,none⟩ = some (.int .i64 t453):=(c_ BK458.out 3).trans rfl
      have hcz32_4 : wc.cell? ⟨gb458,4,none⟩ = some (.int .i64 t454):=(c_ BK458.out 4).trans rfl
      have hcz32_5 : wc.cell? ⟨gb458,5,none⟩ = some (.int .i64 t455):=(c_ BK458.out 5).trans rfl
      have hcz32_6 : wc.cell? ⟨gb458,6,none⟩ = some (.string t456):=(c_ BK458.out 6).trans rfl
      have hfz32_0:=f_ BK458.out 0
      have hfz32_1:=f_ BK458.out 1
      have hfz32_2:=f_ BK458.out 2
      have hfz32_3:=f_ BK458.out 3
      have hfz32_4:=f_ BK458.out 4
      have hfz32_5:=f_ BK458.out 5
      have hfz32_6:=f_ BK458.out 6
      go_wp2_with (first|((with_reducible refine gate_callee (f:=11) rfl ?_);refine goesL_ (some 44) rfl rfl Tryd.func11 (by kernel_rfl) rfl #[.agg #[.int .i64 t450,.int .i64 t451,.int .i64 t452,.int .i64 t453,.int .i64 t454,.int .i64 t455,.string t456]] rfl (by (try simp only [List.map_toArray,List.map_cons,List.map_nil]);first|done|rfl|(simp only [List.length_drop,List.length_take];rfl)) ?_;(with_reducible refine (impl_PktOk.calls t450 t451 t452 t453 t454 t455 t456 true _ A28.out).mono ?_);rintro e w33 ⟨rfl,hb⟩;refine ⟨_,rfl,?_⟩;have n0_:=m_ (blk_below (g:=gb449) (o:=.cells #[.int .i64 t441,.int .i64 t442,.int .i64 t443,.int .i64 t444,.int .i64 t445,.int .i64 t446,.string t447] 26 (0,0)) (by (with_reducible repeat first|apply b1_|apply b2_|apply b3_);exact BK449.out) hb);have n1_:=m_ (blk_below (g:=gb458) (o:=.cells #[.int .i64 t450,.int .i64 t451,.int .i64 t452,.int .i64 t453,.int .i64 t454,.int .i64 t455,.string t456] 26 (0,0)) (by (with_reducible repeat first|apply b1_|apply b2_|apply b3_);exact BK458.out) hb);have n2_:=m_ (l5_ (by repeat (first|(with_reducible first|exact HB.out|apply l1_|apply l2_|apply l3_|refine l4_ ?_ GE449.out|refine l4_ ?_ GE458.out)|exact HB.out)) hb);clear BK449;clear BK458;clear HB;have BK449:=n0_;have BK458:=n1_;have HB:=n2_;clear n0_ n1_ n2_;(try clear hb);(try clear hb2);(try clear hk);(try clear hi);have hcz34_0 : w33.cell? ⟨gb458,0,none⟩ = some (.int .i64 t450):=(c_ BK458.out 0).trans rfl;have hcz34_1 : w33.cell? ⟨gb458,1,none⟩ = some (.int .i64 t451):=(c_ BK458.out 1).trans rfl;have hcz34_2 : w33.cell? ⟨gb458,2,none⟩ = some (.int .i64 t452):=(c_ BK458.out 2).trans rfl;have hcz34_3 : w33.cell? ⟨gb458,3,none⟩ = some (.int .i64 t453):=(c_ BK458.out 3).trans rfl;have hcz34_4 : w33.cell? ⟨gb458,4,none⟩ = some (.int .i64 t454):=(c_ BK458.out 4).trans rfl;have hcz34_5 : w33.cell? ⟨gb458,5,none⟩ = some (.int .i64 t455):=(c_ BK458.out 5).trans rfl;have hcz34_6 : w33.cell? ⟨gb458,6,none⟩ = some (.string t456):=(c_ BK458.out 6).trans rfl;have hfz34_0:=f_ BK458.out 0;have hfz34_1:=f_ BK458.out 1;have hfz34_2:=f_ BK458.out 2;have hfz34_3:=f_ BK458.out 3;have hfz34_4:=f_ BK458.out 4;have hfz34_5:=f_ BK458.out 5;have hfz34_6:=f_ BK458.out 6)|(go_at_call 8;(with_reducible refine (impl_PktText.calls t450 t451 t452 t453 t454 t455 t456 t460 _ A30.out).mono ?_);rintro e w35 ⟨rfl,hb⟩;have n0_:=m_ (blk_below (g:=gb449) (o:=.cells #[.int .i64 t441,.int .i64 t442,.int .i64 t443,.int .i64 t444,.int .i64 t445,.int .i64 t446,.string t447] 26 (0,0)) (by (with_reducible repeat first|apply b1_|apply b2_|apply b3_);exact BK449.out) hb);have n1_:=m_ (blk_below (g:=gb458) (o:=.cells #[.int .i64 t450,.int .i64 t451,.int .i64 t452,.int .i64 t453,.int .i64 t454,.int .i64 t455,.string t456] 26 (0,0)) (by (with_reducible repeat first|apply b1_|apply b2_|apply b3_);exact BK458.out) hb);have n2_:=m_ (l5_ (by repeat (first|(with_reducible first|exact HB.out|apply l1_|apply l2_|apply l3_|refine l4_ ?_ GE449.out|refine l4_ ?_ GE458.out)|exact HB.out)) hb);clear BK449;clear BK458;clear HB;have BK449:=n0_;have BK458:=n1_;have HB:=n2_;clear n0_ n1_ n2_;(try clear hb);(try clear hb2);(try clear hk);(try clear hi)))
      go_ret
      exact ⟨by first|rfl|(simp [e1_,e2_] <;> rfl)|(simp [*,e1_,e2_] <;> rfl)|(simp [e1_,e2_,pk_empty1,pk_empty2];done)|(simp [*,e1_,e2_,pk_empty1,pk_empty2];done),by repeat (first|(with_reducible first|exact HB.out|apply l1_|apply l2_|apply l3_|refine l4_ ?_ GE449.out|refine l4_ ?_ GE458.out)|exact HB.out)⟩
     ·replace c29:=Bool.eq_false_iff.mpr c29
      subst c29
      have H1 : (some false) = some r:=by rw [if_neg (show ¬ (false = true) by decide)] at H;exact H
      clear H
      have H:=H1
      clear H1
      obtain rfl:=Option.some.inj H
      have hnb36:=NB458_449.out
      have hnc36:=NB449_458.out
      have hcz37_0 : wc.cell? ⟨gb458,0,none⟩ = some (.int .i64 t450):=(c_ BK458.out 0).trans rfl
      have hcz37_1 : wc.cell? ⟨gb458,1,none⟩ = some (.int .i64 t451):=(c_ BK458.out 1).trans rfl
      have hcz37_2 : wc.cell? ⟨gb458,2,none⟩ = some (.int .i64 t452):=(c_ BK458.out 2).trans rfl
      have hcz37_3 : wc.cell? ⟨gb458,3,none⟩ = some (.int .i64 t453):=(c_ BK458.out 3).trans rfl
      have hcz37_4 : wc.cell? ⟨gb458,4,none⟩ = some (.int .i64 t454):=(c_ BK458.out 4).trans rfl
      have hcz37_5 : wc.cell? ⟨gb458,5,none⟩ = some (.int .i64 t455):=(c_ BK458.out 5).trans rfl
      have hcz37_6 : wc.cell? ⟨gb458,6,none⟩ = some (.string t456):=(c_ BK458.out 6).trans rfl
      have hfz37_0:=f_ BK458.out 0
      have hfz37_1:=f_ BK458.out 1
      have hfz37_2:=f_ BK458.out 2
      have hfz37_3:=f_ BK458.out 3
      have hfz37_4:=f_ BK458.out 4
      have hfz37_5:=f_ BK458.out 5
      have hfz37_6:=f_ BK458.out 6
      go_wp2_with (first|((with_reducible refine gate_callee (f:=11) rfl ?_);refine goesL_ (some 44) rfl rfl Tryd.func11 (by kernel_rfl) rfl #[.agg #[.int .i64 t450,.int .i64 t451,.int .i64 t452,.int .i64 t453,.int .i64 t454,.int .i64 t455,.string t456]] rfl (by (try simp only [List.map_toArray,List.map_cons,List.map_nil]);first|done|rfl|(simp only [List.length_drop,List.length_take];rfl)) ?_;(with_reducible refine (impl_PktOk.calls t450 t451 t452 t453 t454 t455 t456 false _ A28.out).mono ?_);rintro e w38 ⟨rfl,hb⟩;refine ⟨_,rfl,?_⟩;have n0_:=m_ (blk_below (g:=gb449) (o:=.cells #[.int .i64 t441,.int .i64 t442,.int .i64 t443,.int .i64 t444,.int .i64 t445,.int .i64 t446,.string t447] 26 (0,0)) (by (with_reducible repeat first|apply b1_|apply b2_|apply b3_);exact BK449.out) hb);have n1_:=m_ (blk_below (g:=gb458) (o:=.cells #[.int .i64 t450,.int .i64 t451,.int .i64 t452,.int .i64 t453,.int .i64 t454,.int .i64 t455,.string t456] 26 (0,0)) (by (with_reducible repeat first|apply b1_|apply b2_|apply b3_);exact BK458.out) hb);have n2_:=m_ (l5_ (by repeat (first|(with_reducible first|exact HB.out|apply l1_|apply l2_|apply l3_|refine l4_ ?_ GE449.out|refine l4_ ?_ GE458.out)|exact HB.out)) hb);clear BK449;clear BK458;clear HB;have BK449:=n0_;have BK458:=n1_;have HB:=n2_;clear n0_ n1_ n2_;(try clear hb);(try clear hb2);(try clear hk);(try clear hi)))
      go_ret
      exact ⟨by first|rfl|(simp [e1_,e2_] <;> rfl)|(simp [*,e1_,e2_] <;> rfl)|(simp [e1_,e2_,pk_empty1,pk_empty2];done)|(simp [*,e1_,e2_,pk_empty1,pk_empty2];done),by repeat (first|(with_reducible first|exact HB.out|apply l1_|apply l2_|apply l3_|refine l4_ ?_ GE449.out|refine l4_ ?_ GE458.out)|exact HB.out)⟩

/-- THE ONE PURE STATEMENT of laws_FnPktStrict: yours. -/
def laws_FnPktStrict.Pure : Prop := ∀ (l0 : List Int), l0.length ≤ maxLen → l0.length * 1 ≤ 140737488351232 → (∀ x ∈ l0, (Lit.int .u8 x).wf = true) → ∃ k, laws_FnPktStrict.f k l0 = some true
theorem laws_FnPktStrict.walk (P : laws_FnPktStrict.Pure) (a0 : Option Addr) (len0 cap0 : Nat) (z0 : List Int) (w : World) (hG : GV w) (w0 : (a0 = none ∧ len0 = 0 ∧ cap0 = 0 ∧ z0 = []) ∨ ∃ x, a0 = some x ∧ len0 ≤ cap0 ∧ cap0 ≤ maxLen ∧ z0.length = cap0 ∧ (∀ i, i < z0.length → w.cell? (x.add i) = some (.int .u8 (z0.getD i 0))) ∧ ∀ n ∈ z0, (Lit.int .u8 n).wf = true) (y0 : len0 * 1 ≤ 140737488351232) :
  Calls Tryd.prog 6 #[.slice a0 len0 cap0] w fun e w'=>e = .returned (.bool true) ∧ Below w.heap.size w w':=by
 obtain ⟨l0,rfl,hr0,hm0,hw0,hc0⟩:=ReadsInt.ofRowC w0
 obtain ⟨k,h⟩:=P l0 hm0 y0 hw0
 refine (laws_FnPktStrict.calls k _ _ l0 true w (Kd.C_of_reads (d:=(0 : Int)) (h1:=fun _=>rfl) hr0) hc0 hG h).mono ?_
 rintro e w' ⟨rfl,hd⟩
 exact ⟨rfl,hd⟩

end Go.Proofs.YtejpgpjjocbbjaaDoor.A
