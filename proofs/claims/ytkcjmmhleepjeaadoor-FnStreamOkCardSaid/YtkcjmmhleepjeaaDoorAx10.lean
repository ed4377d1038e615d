-- Printed by myprint.py (wip/tools) out of the translation. Not trusted: Lean checks it.
import Derived.Test.YtkcjmmhleepjeaaDoorAx0
import Derived.Test.YtkcjmmhleepjeaaDoorAx1
import Derived.Test.YtkcjmmhleepjeaaDoorAx3
import Derived.Test.YtkcjmmhleepjeaaDoorAx9
namespace Go.Proofs.YtkcjmmhleepjeaaDoor.A
open Go.RowKit Go.Proofs.YtkcjmmhleepjeaaDoorW.PrintWords Go.Proofs.YtkcjmmhleepjeaaDoorW.PrintLast Go.Proofs.YtkcjmmhleepjeaaDoorW.PrintMore
attribute [local go_sem] max2_int min2_int max_two min_two max_three min_three max_four min_four
set_option linter.unusedVariables false
set_option maxHeartbeats 8000000
set_option maxRecDepth 100000
set_option linter.unusedSimpArgs false

attribute [local go_sem high] eqA43
/-! ### spec_l71Map: function 51 -/
def spec_l71Map.l0 : Nat → List (S98) → Int → List Int → Int → Option ((List (S98)) × Int)
 | 0, _, _, _, _ => none
 | k + 1, x3, x4, x1000, x1001 => if x4 > 0 then ((spec_l6Rd_pick.f k x1000 x1001 3).bind fun bt302 => ((spec_l6Rd_pick.f k x1000 bt302.2 9).bind fun bt304 => ((spec_l3Out.f k x3 (wrap64 (1 + bt302.1)) (wrap64 (1 + bt304.1))).bind fun bt306 => (spec_l71Map.l0 k bt306.1 (wrap64 (x4 - 1)) x1000 bt304.2)))) else ((spec_l6Rd_pick.f k x1000 x1001 20).bind fun bt311 => (if bt311.1 = 0 then ((spec_l6Rd_pick.f k x1000 bt311.2 9).bind fun bt313 => ((spec_l71End.f k x1000 bt313.2).bind fun bt315 => (if x3.length < 5864062014805 then (some ((x3 ++ [(⟨wrap64 (10 + bt313.1), (⟨bt315.1, bt315.2.1⟩ : S43)⟩ : S98)]), bt315.2.2)) else (none)))) else (if bt311.1 = 1 then (if (x3.length : Int) > 0 then ((spec_l6Rd_pick.f k x1000 bt311.2 (x3.length : Int)).bind fun bt321 => ((spec_l71End.f k x1000 bt321.2).bind fun bt323 => (if 0 ≤ bt321.1 then (if bt321.1 < (x3.length : Int) then (some ((x3.set (bt321.1 : Int).toNat (⟨(rd_T98 x3 bt321.1).f0, (⟨bt323.1, bt323.2.1⟩ : S43)⟩ : S98)), bt323.2.2)) else (none)) else (none)))) else (some (x3, bt311.2))) else (if bt311.1 = 2 then (if (x3.length : Int) > 0 then (if 1 ≤ (x3.length : Int) then (some ((x3.drop (1 : Int).toNat), bt311.2)) else (none)) else (some (x3, bt311.2))) else (some (x3, bt311.2))))))
def spec_l71Map.f (k : Nat) (s0_0 : List Int) (s0_1 : Int) : Option ((List (S98)) × Int) := (spec_l6Rd_pick.f k s0_0 s0_1 10).bind fun bt300 => (spec_l71Map.l0 k (([] : List (S98))) bt300.1 s0_0 bt300.2)
theorem spec_l71Map.mono_l : ∀ k, (∀ y0 y1 y2 y3, LeO (spec_l71Map.l0 k y0 y1 y2 y3) (spec_l71Map.l0 (k + 1) y0 y1 y2 y3))
 | 0 => fun _ _ _ _ r h => by simp [spec_l71Map.l0] at h
 | k + 1 => by
  have ih0:=spec_l71Map.mono_l k
  ·intro y0 y1 y2 y3
   unfold spec_l71Map.l0
   repeat' first
   | (with_reducible exact ih0 _ _ _ _)
   | (with_reducible exact spec_l3Out.mono _ _ _ _)
   | (with_reducible exact spec_l6Rd_pick.mono _ _ _ _)
   | (with_reducible exact spec_l71End.mono _ _ _)
   | (with_reducible exact LeO.refl _)
   | (with_reducible exact LeO.none _)
   | (with_reducible refine LeO.ite ?_ ?_)
   | (with_reducible refine LeO.bind ?_ (fun _ => ?_))
   | exact ih0 _ _ _ _
   | exact spec_l3Out.mono _ _ _ _
   | exact spec_l6Rd_pick.mono _ _ _ _
   | exact spec_l71End.mono _ _ _
   | exact LeO.none _
   | refine LeO.ite ?_ ?_
   | refine LeO.bind ?_ (fun _ => ?_)
theorem spec_l71Map.mono : ∀ a0 a1 k, LeO (spec_l71Map.f k a0 a1) (spec_l71Map.f (k + 1) a0 a1) := by
 intro a0 a1 k
 have ih0:=spec_l71Map.mono_l k
 unfold spec_l71Map.f
 repeat' first
   | (with_reducible exact ih0 _ _ _ _)
   | (with_reducible exact spec_l3Out.mono _ _ _ _)
   | (with_reducible exact spec_l6Rd_pick.mono _ _ _ _)
   | (with_reducible exact spec_l71End.mono _ _ _)
   | (with_reducible exact LeO.refl _)
   | (with_reducible exact LeO.none _)
   | (with_reducible refine LeO.ite ?_ ?_)
   | (with_reducible refine LeO.bind ?_ (fun _ => ?_))
   | exact ih0 _ _ _ _
   | exact spec_l3Out.mono _ _ _ _
   | exact spec_l6Rd_pick.mono _ _ _ _
   | exact spec_l71End.mono _ _ _
   | exact LeO.none _
   | refine LeO.ite ?_ ?_
   | refine LeO.bind ?_ (fun _ => ?_)
theorem spec_l71Map.calls (k : Nat) (g : Nat) (s0_0 : List Int) (s0_1 : Int) (r1 : List (S98)) (r2 : Int) (w0 w : World) (hI : IsS85 w0 w g s0_0 s0_1) (hB : Below w0.heap.size w0 w) (h : spec_l71Map.f k s0_0 s0_1 = some (r1, r2)) :
  Calls Tryd.prog 51 #[.pointer (some ⟨g,0,none⟩)] w fun e w'=>∃ v0_ : Value,e = .returned (v0_) ∧ Kd.Q k98 98 w' w.heap.size (fun _=>True) v0_ r1 ∧ IsS85 w0 w' g s0_0 r2 ∧ Below w0.heap.size w0 w' ∧ KeepBut w w' g none:=by
 have hu43:=Tryd.underlying43
 have hu98:=Tryd.underlying98
 have HI0:=m_ hI
 have HK:=m_ (KeepBut.refl w g none)
 have HL:=m_ hB.size
 clear hI
 have HW0:=m_ hB.size
 have HB:=m_ hB
 clear hB
 have H : ((spec_l6Rd_pick.f k s0_0 s0_1 10).bind fun bt300=>(spec_l71Map.l0 k (([] : List (S98))) bt300.1 s0_0 bt300.2)) = some (r1,r2):=h
 clear h
 obtain ⟨y297,hy297⟩ : ∃ y_ : List (S98),y_ = (([] : List (S98))):=⟨_,rfl⟩
 replace H : ((spec_l6Rd_pick.f k s0_0 s0_1 10).bind fun bt300=>(spec_l71Map.l0 k y297 bt300.1 s0_0 bt300.2)) = some (r1,r2):=by first|(rw [hy297];with_reducible exact H)|(have H2_:=(Option.bind_some _ _).symm.trans H;rw [hy297];with_reducible exact H2_)|(have H2_:=(Option.bind_some _ _).symm.trans H;with_reducible exact H2_)|with_reducible exact H|(rw [hy297];exact H)|exact H
 have Ny297:=m_ hy297
 clear hy297
 replace H:=Option.bind_eq_some_iff.mp H
 obtain ⟨⟨t300,t301⟩,A20,H⟩:=H
 replace H : (spec_l71Map.l0 k y297 t300 s0_0 t301) = some (r1,r2):=H
 have A2:=m_ A20
 clear A20
 have H':=m_ H
 clear H
 go_enter Tryd.func51,Tryd.ntmps51
 go_wp2_with (first|((with_reducible refine gate_dst (N:=5) rfl ?_);refine Kd.R_lit k98 _ 98 ?hg (N:=5) ?hd (xs:=([] : List (S98))) (inner:=[]) (ok:=fun _=>True) (okp:=fun _=>True) ?hr ?hp (fun _ hk=>hk) trivial (Below.refl _ _) (Nat.le_refl _) (by simp) ?_;(case hd=>rfl);(case hg=>rfl);(case hr=>first|(go_simp;done)|(go_simp;rfl));(case hp=>exact (Reps.none _ _));intro v298 w3 ho4 hb hg_ hnew_;clear hg_ hnew_;(first|rw [← Ny297.out] at ho4|(simp only [Int.reduceToNat] at ho4;rw [← Ny297.out] at ho4));have n0_:=m_ (Kd.R_lower ho4 (keep_size (w:=w) (g:=g) (row:=none) (puK HK.out)));have n1_:=m_ (IsS85.below (by repeat (first|(with_reducible first|exact HI0.out|apply IsS85.alloc|apply IsS85.drewN|apply IsS85.drew|apply IsS85.set_1)|exact HI0.out)) hb);have n2_:=m_ (KeepBut.trans (puK HK.out) (KeepBut.of_below hb g none) (.inl rfl));have n3_:=m_ (l5_ (puM HB.out (IsS85.ge HI0.out)) hb);revert n0_ n1_ n2_ n3_;clear HI0 HK HB;intro HO299 HI0 HK HB;clear hb ho4)|((with_reducible refine gate_callee (f:=53) rfl ?_);refine goesL_ (some 7) rfl rfl Tryd.func53 (by kernel_rfl) rfl #[.pointer (some ⟨g,0,none⟩),.int .i64 10] rfl lens ?_;(with_reducible refine (spec_l6Rd_pick.calls k g s0_0 s0_1 10 t300 t301 w0 _ ?side1 ?side2 A2.out).mono ?_);(case side1=>repeat (first|(with_reducible first|exact HI0.out|apply IsS85.alloc|apply IsS85.drewN|apply IsS85.drew|apply IsS85.set_1)|exact HI0.out));(case side2=>repeat (first|(with_reducible first|exact HB.out|apply l1_|apply l2_|apply l3_|refine l4_ ?_ (IsS85.ge HI0.out))|exact HB.out));rintro e w5 ⟨rfl,hi,hb,hk⟩;refine ⟨_,rfl,?_⟩;have n0_:=m_ (Kd.R_mono (Kd.R_keep (IsS85.apart (show IsS85 w0 _ g s0_0 s0_1 from by repeat (first|(with_reducible first|exact HI0.out|apply IsS85.alloc|apply IsS85.drewN|apply IsS85.drew|apply IsS85.set_1)|exact HI0.out)) (puR HO299.out) (by decide)) hk (fun _ h=>h.2)) (fun _ h=>h.1));have n1_:=m_ (KeepBut.trans (puK HK.out) hk (.inl rfl));have n2_:=m_ (hb);have n3_:=m_ (hi);revert n0_ n1_ n2_ n3_;clear HO299 HK HB HI0;intro HO299 HK HB HI0;(try clear hb);(try clear hb2);(try clear hk);(try clear hi)))
 go_loopg [3,4] k (fun kq v3 v4 w'=>∃ (x3_1 : List (S98)) (x4_1 : Int) (x1001_1 : Int),v4 = .int .i64 x4_1 ∧ Aside0 (spec_l71Map.l0 kq x3_1 x4_1 s0_0 x1001_1 = some (r1,r2)) ∧ Aside0 (kq ≤ k) ∧ Aside0 (Kd.Q k98 98 w' w.heap.size (fun _=>True) v3 x3_1) ∧ Aside0 (IsS85 w0 w' g s0_0 x1001_1) ∧ Aside0 (KeepBut w w' g none) ∧ Aside0 (Below w0.heap.size w0 w'))
 case atStart=>exact ⟨(y297),(t300),(t301),(by first|rfl|(simp;done)|(simp [*];done)),H',⟨Nat.le_refl _⟩,⟨Kd.Q_of_R (puR HO299.out)⟩,⟨by repeat (first|(with_reducible first|exact HI0.out|apply IsS85.alloc|apply IsS85.drewN|apply IsS85.drew|apply IsS85.set_1)|exact HI0.out)⟩,⟨puK HK.out⟩,⟨puM HB.out (IsS85.ge HI0.out)⟩⟩
 case round =>
  clear H'
  try clear p2
  try clear c5
  obtain ⟨x3_1,x4_1,x1001_1,rfl,HA,HK1,HO_3,HI0,HK,HB⟩:=hrel
  cases gk with
  | zero => exact absurd HA.out (by simp [spec_l71Map.l0])
  | succ k1 =>
   have H:=HA.out
   clear HA
   simp only [spec_l71Map.l0] at H
   by_cases c6 : x4_1 > 0
   ·rw [if_pos c6] at H
    have c6b0 : decide (0 < x4_1) = true:=decide_eq_true c6
    clear c6
    replace H:=Option.bind_eq_some_iff.mp H
    obtain ⟨⟨t302,t303⟩,A70,H⟩:=H
    replace H : ((spec_l6Rd_pick.f k1 s0_0 t303 9).bind fun bt304=>((spec_l3Out.f k1 x3_1 (wrap64 (1 + t302)) (wrap64 (1 + bt304.1))).bind fun bt306=>(spec_l71Map.l0 k1 bt306.1 (wrap64 (x4_1 - 1)) s0_0 bt304.2))) = some (r1,r2):=H
    have A7:=m_ A70
    clear A70
    replace H:=Option.bind_eq_some_iff.mp H
    obtain ⟨⟨t304,t305⟩,A80,H⟩:=H
    replace H : ((spec_l3Out.f k1 x3_1 (wrap64 (1 + t302)) (wrap64 (1 + t304))).bind fun bt306=>(spec_l71Map.l0 k1 bt306.1 (wrap64 (x4_1 - 1)) s0_0 t305)) = some (r1,r2):=H
    have A8:=m_ A80
    clear A80
    replace H:=Option.bind_eq_some_iff.mp H
    obtain ⟨⟨t306,t309,t310⟩,A90,H⟩:=H
    replace H : (spec_l71Map.l0 k1 t306 (wrap64 (x4_1 - 1)) s0_0 t305) = some (r1,r2):=H
    have A9:=m_ A90
    clear A90
    have H':=m_ H
    clear H
    go_wp2_with (first|((with_reducible refine gate_callee (f:=53) rfl ?_);refine goesL_ (some 15) rfl rfl Tryd.func53 (by kernel_rfl) rfl #[.pointer (some ⟨g,0,none⟩),.int .i64 3] rfl lens ?_;(with_reducible refine (spec_l6Rd_pick.calls k1 g s0_0 x1001_1 3 t302 t303 w0 _ ?side1 ?side2 A7.out).mono ?_);(case side1=>repeat (first|(with_reducible first|exact HI0.out|apply IsS85.alloc|apply IsS85.drewN|apply IsS85.drew|apply IsS85.set_1)|exact HI0.out));(case side2=>repeat (first|(with_reducible first|exact HB.out|apply l1_|apply l2_|apply l3_|refine l4_ ?_ (IsS85.ge HI0.out))|exact HB.out));rintro e w10 ⟨rfl,hi,hb,hk⟩;refine ⟨_,rfl,?_⟩;have n0_:=m_ (Kd.Q_mono (Kd.Q_keep (IsS85.apartQ (show IsS85 w0 _ g s0_0 x1001_1 from by repeat (first|(with_reducible first|exact HI0.out|apply IsS85.alloc|apply IsS85.drewN|apply IsS85.drew|apply IsS85.set_1)|exact HI0.out)) (puQ HO_3.out) (by decide)) hk (fun _ h=>h.2)) (fun _ h=>h.1));have n1_:=m_ (KeepBut.trans (puK HK.out) hk (.inl rfl));have n2_:=m_ (hb);have n3_:=m_ (hi);revert n0_ n1_ n2_ n3_;clear HO_3 HK HB HI0;intro HO_3 HK HB HI0;(try clear hb);(try clear hb2);(try clear hk);(try clear hi))|((with_reducible refine gate_callee (f:=53) rfl ?_);refine goesL_ (some 18) rfl rfl Tryd.func53 (by kernel_rfl) rfl #[.pointer (some ⟨g,0,none⟩),.int .i64 9] rfl lens ?_;(with_reducible refine (spec_l6Rd_pick.calls k1 g s0_0 t303 9 t304 t305 w0 _ ?side1 ?side2 A8.out).mono ?_);(case side1=>repeat (first|(with_reducible first|exact HI0.out|apply IsS85.alloc|apply IsS85.drewN|apply IsS85.drew|apply IsS85.set_1)|exact HI0.out));(case side2=>repeat (first|(with_reducible first|exact HB.out|apply l1_|apply l2_|apply l3_|refine l4_ ?_ (IsS85.ge HI0.out))|exact HB.out));rintro e w11 ⟨rfl,hi,hb,hk⟩;refine ⟨_,rfl,?_⟩;have n0_:=m_ (Kd.Q_mono (Kd.Q_keep (IsS85.apartQ (show IsS85 w0 _ g s0_0 t303 from by repeat (first|(with_reducible first|exact HI0.out|apply IsS85.alloc|apply IsS85.drewN|apply IsS85.drew|apply IsS85.set_1)|exact HI0.out)) (puQ HO_3.out) (by decide)) hk (fun _ h=>h.2)) (fun _ h=>h.1));have n1_:=m_ (KeepBut.trans (puK HK.out) hk (.inl rfl));have n2_:=m_ (hb);have n3_:=m_ (hi);revert n0_ n1_ n2_ n3_;clear HO_3 HK HB HI0;intro HO_3 HK HB HI0;(try clear hb);(try clear hb2);(try clear hk);(try clear hi);obtain ⟨Ao12,co12,eo12,_⟩:=Kd.Q_slice HO_3.out;subst eo12)|((with_reducible refine gate_callee (f:=64) rfl ?_);refine goesL_ (some 21) rfl rfl Tryd.func64 (by kernel_rfl) rfl #[.slice Ao12 x3_1.length co12,.agg #[.int .i64 (wrap64 (1 + t302)),.int .i64 (wrap64 (1 + t304))]] rfl lens ?_;(with_reducible refine (spec_l3Out.calls k1 (fun k_=>some k_ = (.slice Ao12 x3_1.length co12 : Value).ownBlock) (.slice Ao12 x3_1.length co12) x3_1 (wrap64 (1 + t302)) (wrap64 (1 + t304)) t306 t309 t310 w0 _ ?side1 ?side2 A9.out).mono ?_);(case side1=>repeat (first|(with_reducible first|exact HB.out|apply l1_|apply l2_|apply l3_|refine l4_ ?_ (IsS85.ge HI0.out))|exact HB.out));(case side2=>exact Kd.Q_lower (Kd.Q_tight rfl HO_3.out) HL.out);rintro e w13 ⟨v307,rfl,ho0,hb,hkp⟩;refine ⟨_,rfl,?_⟩;have n0_:=m_ (IsS85.kept (by repeat (first|(with_reducible first|exact HI0.out|apply IsS85.alloc|apply IsS85.drewN|apply IsS85.drew|apply IsS85.set_1)|exact HI0.out)) hkp (fun hs_=>(fun e_=>(IsS85.own_neQ HI0.out HO_3.out (by decide)) e_) hs_));have n1_:=m_ (Kd.Q_mono (ok':=fun k_=>True) (Kd.Q_raise (d:=k98) (b:=w0.heap.size) (b':=w.heap.size) (fun _ _ _ _ h_=>h_) ho0 (fun k_ e_=>Or.elim (ho0.1 k_ e_) (fun hs_=>(fun e_=>Kd.Q_base HO_3.out k_ e_.symm) hs_) (fun hn_=>Nat.le_trans (keep_size (w:=w) (g:=g) (row:=none) (puK HK.out)) hn_))) (fun k_ hk_=>trivial));have n2_:=m_ (Kept.keepG (puK HK.out) hkp (fun k_ hs_=>(fun e_=>.inr (Kd.Q_base HO_3.out k_ e_.symm)) hs_));have n3_:=m_ (hb);revert n0_ n1_ n2_ n3_;clear HI0 HK HB HO_3;intro HI0 HO308 HK HB;(try clear hb);(try clear hkp);(try clear ho0)))
    go_roundg k1
    case measure=>have:=HK1.out;omega
    case rel=>exact ⟨(t306),(wrap64 (x4_1 - 1)),(t305),(by first|rfl|(simp;done)|(simp [*];done)),H',⟨by have:=HK1.out;omega⟩,⟨by (with_reducible repeat (first|apply Kd.Q_alloc|apply Kd.Q_drewN|apply Kd.Q_drew));exact HO308.out⟩,⟨by repeat (first|(with_reducible first|exact HI0.out|apply IsS85.alloc|apply IsS85.drewN|apply IsS85.drew|apply IsS85.set_1)|exact HI0.out)⟩,⟨puK HK.out⟩,⟨puM HB.out (IsS85.ge HI0.out)⟩⟩
   ·rw [if_neg c6] at H
    have c6b0 : decide (0 < x4_1) = false:=decide_eq_false c6
    clear c6
    replace H:=Option.bind_eq_some_iff.mp H
    obtain ⟨⟨t311,t312⟩,A140,H⟩:=H
    replace H : (if t311 = 0 then ((spec_l6Rd_pick.f k1 s0_0 t312 9).bind fun bt313=>((spec_l71End.f k1 s0_0 bt313.2).bind fun bt315=>(if x3_1.length < 5864062014805 then (some ((x3_1 ++ [(⟨wrap64 (10 + bt313.1),(⟨bt315.1,bt315.2.1⟩ : S43)⟩ : S98)]),bt315.2.2)) else (none)))) else (if t311 = 1 then (if (x3_1.length : Int) > 0 then ((spec_l6Rd_pick.f k1 s0_0 t312 (x3_1.length : Int)).bind fun bt321=>((spec_l71End.f k1 s0_0 bt321.2).bind fun bt323=>(if 0 ≤ bt321.1 then (if bt321.1 < (x3_1.length : Int) then (some ((x3_1.set (bt321.1 : Int).toNat (⟨(rd_T98 x3_1 bt321.1).f0,(⟨bt323.1,bt323.2.1⟩ : S43)⟩ : S98)),bt323.2.2)) else (none)) else (none)))) else (some (x3_1,t312))) else (if t311 = 2 then (if (x3_1.length : Int) > 0 then (if 1 ≤ (x3_1.length : Int) then (some ((x3_1.drop (1 : Int).toNat),t312)) else (none)) else (some (x3_1,t312))) else (some (x3_1,t312))))) = some (r1,r2):=H
    have A14:=m_ A140
    clear A140
    by_cases c15 : t311 = 0
    ·rw [if_pos c15] at H
     have c15b0 : (t311 == 0) = true:=beq_iff_eq.mpr c15
     have c15b1 : (t311 != 0) = false:=bne_eq_false_iff_eq.mpr c15
     clear c15
     replace H:=Option.bind_eq_some_iff.mp H
     obtain ⟨⟨t313,t314⟩,A160,H⟩:=H
     replace H : ((spec_l71End.f k1 s0_0 t314).bind fun bt315=>(if x3_1.length < 5864062014805 then (some ((x3_1 ++ [(⟨wrap64 (10 + t313),(⟨bt315.1,bt315.2.1⟩ : S43)⟩ : S98)]),bt315.2.2)) else (none))) = some (r1,r2):=H
     have A16:=m_ A160
     clear A160
     replace H:=Option.bind_eq_some_iff.mp H
     obtain ⟨⟨t315,t316,t317⟩,A170,H⟩:=H
     replace H : (if x3_1.length < 5864062014805 then (some ((x3_1 ++ [(⟨wrap64 (10 + t313),(⟨t315,t316⟩ : S43)⟩ : S98)]),t317)) else (none)) = some (r1,r2):=H
     have A17:=m_ A170
     clear A170
     by_cases c18 : x3_1.length < 5864062014805
     ·rw [if_pos c18] at H
      have LMc18:=m_ c18
      clear c18
      obtain ⟨y318,hy318⟩ : ∃ y_ : List (S98),y_ = (x3_1 ++ [(⟨wrap64 (10 + t313),(⟨t315,t316⟩ : S43)⟩ : S98)]):=⟨_,rfl⟩
      replace H : (some (y318,t317)) = some (r1,r2):=by first|(rw [hy318];with_reducible exact H)|(have H2_:=(Option.bind_some _ _).symm.trans H;rw [hy318];with_reducible exact H2_)|(have H2_:=(Option.bind_some _ _).symm.trans H;with_reducible exact H2_)|with_reducible exact H|(rw [hy318];exact H)|exact H
      have Ny318:=m_ hy318
      clear hy318
      simp only [Option.some.injEq,Prod.mk.injEq] at H
      obtain ⟨rfl,rfl⟩:=H
      go_wp2_with (first|((with_reducible refine gate_callee (f:=53) rfl ?_);refine goesL_ (some 26) rfl rfl Tryd.func53 (by kernel_rfl) rfl #[.pointer (some ⟨g,0,none⟩),.int .i64 20] rfl lens ?_;(with_reducible refine (spec_l6Rd_pick.calls k1 g s0_0 x1001_1 20 t311 t312 w0 _ ?side1 ?side2 A14.out).mono ?_);(case side1=>repeat (first|(with_reducible first|exact HI0.out|apply IsS85.alloc|apply IsS85.drewN|apply IsS85.drew|apply IsS85.set_1)|exact HI0.out));(case side2=>repeat (first|(with_reducible first|exact HB.out|apply l1_|apply l2_|apply l3_|refine l4_ ?_ (IsS85.ge HI0.out))|exact HB.out));rintro e w19 ⟨rfl,hi,hb,hk⟩;refine ⟨_,rfl,?_⟩;have n0_:=m_ (Kd.Q_mono (Kd.Q_keep (IsS85.apartQ (show IsS85 w0 _ g s0_0 x1001_1 from by repeat (first|(with_reducible first|exact HI0.out|apply IsS85.alloc|apply IsS85.drewN|apply IsS85.drew|apply IsS85.set_1)|exact HI0.out)) (puQ HO_3.out) (by decide)) hk (fun _ h=>h.2)) (fun _ h=>h.1));have n1_:=m_ (KeepBut.trans (puK HK.out) hk (.inl rfl));have n2_:=m_ (hb);have n3_:=m_ (hi);revert n0_ n1_ n2_ n3_;clear HO_3 HK HB HI0;intro HO_3 HK HB HI0;(try clear hb);(try clear hb2);(try clear hk);(try clear hi))|((with_reducible refine gate_callee (f:=53) rfl ?_);refine goesL_ (some 31) rfl rfl Tryd.func53 (by kernel_rfl) rfl #[.pointer (some ⟨g,0,none⟩),.int .i64 9] rfl lens ?_;(with_reducible refine (spec_l6Rd_pick.calls k1 g s0_0 t312 9 t313 t314 w0 _ ?side1 ?side2 A16.out).mono ?_);(case side1=>repeat (first|(with_reducible first|exact HI0.out|apply IsS85.alloc|apply IsS85.drewN|apply IsS85.drew|apply IsS85.set_1)|exact HI0.out));(case side2=>repeat (first|(with_reducible first|exact HB.out|apply l1_|apply l2_|apply l3_|refine l4_ ?_ (IsS85.ge HI0.out))|exact HB.out));rintro e w20 ⟨rfl,hi,hb,hk⟩;refine ⟨_,rfl,?_⟩;have n0_:=m_ (Kd.Q_mono (Kd.Q_keep (IsS85.apartQ (show IsS85 w0 _ g s0_0 t312 from by repeat (first|(with_reducible first|exact HI0.out|apply IsS85.alloc|apply IsS85.drewN|apply IsS85.drew|apply IsS85.set_1)|exact HI0.out)) (puQ HO_3.out) (by decide)) hk (fun _ h=>h.2)) (fun _ h=>h.1));have n1_:=m_ (KeepBut.trans (puK HK.out) hk (.inl rfl));have n2_:=m_ (hb);have n3_:=m_ (hi);revert n0_ n1_ n2_ n3_;clear HO_3 HK HB HI0;intro HO_3 HK HB HI0;(try clear hb);(try clear hb2);(try clear hk);(try clear hi))|((with_reducible refine gate_callee (f:=65) rfl ?_);refine goesL_ (some 34) rfl rfl Tryd.func65 (by kernel_rfl) rfl #[.pointer (some ⟨g,0,none⟩)] rfl lens ?_;(with_reducible refine (spec_l71End.calls k1 g s0_0 t314 t315 t316 t317 w0 _ ?side1 ?side2 A17.out).mono ?_);(case side1=>repeat (first|(with_reducible first|exact HI0.out|apply IsS85.alloc|apply IsS85.drewN|apply IsS85.drew|apply IsS85.set_1)|exact HI0.out));(case side2=>repeat (first|(with_reducible first|exact HB.out|apply l1_|apply l2_|apply l3_|refine l4_ ?_ (IsS85.ge HI0.out))|exact HB.out));rintro e w21 ⟨rfl,hi,hb,hk⟩;refine ⟨_,rfl,?_⟩;have n0_:=m_ (Kd.Q_mono (Kd.Q_keep (IsS85.apartQ (show IsS85 w0 _ g s0_0 t314 from by repeat (first|(with_reducible first|exact HI0.out|apply IsS85.alloc|apply IsS85.drewN|apply IsS85.drew|apply IsS85.set_1)|exact HI0.out)) (puQ HO_3.out) (by decide)) hk (fun _ h=>h.2)) (fun _ h=>h.1));have n1_:=m_ (KeepBut.trans (puK HK.out) hk (.inl rfl));have n2_:=m_ (hb);have n3_:=m_ (hi);revert n0_ n1_ n2_ n3_;clear HO_3 HK HB HI0;intro HO_3 HK HB HI0;(try clear hb);(try clear hb2);(try clear hk);(try clear hi))|((with_reducible refine gate_builtin (b:=.append) (xs:=#[.tmp 29,.tmp 36]) rfl ?_);at_builtin;refine Kd.Q_append k98 w.heap.size rfl (.tmp 29) (.tmp 36) 56 98 (.agg #[(.int .i64 0),(.int .i64 0),(.int .i64 0)]) 24 rfl Tryd.underlying56 info98 rfl (by decide) (by omega) u3 x3_1 (⟨wrap64 (10 + t313),(⟨t315,t316⟩ : S43)⟩ : S98) [.int .i64 (wrap64 (10 + t313)),.int .i64 t315,.int .i64 t316] (fun _=>True) (fun _=>False) rfl rfl ?aP (fun _ hk=>hk.elim) ?aF ?aO (Below.refl _ _) ?aS ?aL ?_;(case aP=>exact k98_mkM _ _ _ (⟨wrap64 (10 + t313),(⟨t315,t316⟩ : S43)⟩ : S98));(case aF=>exact (fun _ _=>trivial));(case aO=>exact (puQ HO_3.out));(case aS=>exact (keep_size (w:=w) (g:=g) (row:=none) (puK HK.out)));(case aL=>have:=LMc18.out;omega);intro v319 w22 ho hb hg hat;rw [← Ny318.out] at ho;have n0_:=m_ (IsS85.grown (by repeat (first|(with_reducible first|exact HI0.out|apply IsS85.alloc|apply IsS85.drewN|apply IsS85.drew|apply IsS85.set_1)|exact HI0.out)) hg (IsS85.own_neQ HI0.out HO_3.out (by decide)));have n1_:=m_ (below_weaken (puM HB.out (IsS85.ge HI0.out)) HL.out hb);have n2_:=m_ (KeepBut.trans (puK HK.out) (KeepBut.of_grown hg g) (Kd.Q_base2 HO_3.out));have n3_:=m_ (ho);revert n0_ n1_ n2_ n3_;clear HI0 HB HK HO_3;intro HI0 HB HK HO320;clear ho hb hg hat))
      go_ret
      exact ⟨_,eqs,puQ HO320.out,by repeat (first|(with_reducible first|exact HI0.out|apply IsS85.alloc|apply IsS85.drewN|apply IsS85.drew|apply IsS85.set_1)|exact HI0.out),puM HB.out (IsS85.ge HI0.out),puK HK.out⟩
     ·rw [if_neg c18] at H
      exact absurd H (by simp)
    ·rw [if_neg c15] at H
     have c15b0 : (t311 == 0) = false:=beq_eq_false_iff_ne.mpr c15
     have c15b1 : (t311 != 0) = true:=bne_iff_ne.mpr c15
     by_cases c23 : t311 = 1
     ·rw [if_pos c23] at H
      have c23b0 : (t311 == 1) = true:=beq_iff_eq.mpr c23
      have c23b1 : (t311 != 1) = false:=bne_eq_false_iff_eq.mpr c23
      clear c23
      by_cases c24 : (x3_1.length : Int) > 0
      ·rw [if_pos c24] at H
       have c24b0 : decide (0 < (x3_1.length : Int)) = true:=decide_eq_true c24
       have c24b1 : decide (0 < x3_1.length) = true:=decide_eq_true (by omega)
       clear c24
       replace H:=Option.bind_eq_some_iff.mp H
       obtain ⟨⟨t321,t322⟩,A250,H⟩:=H
       replace H : ((spec_l71End.f k1 s0_0 t322).bind fun bt323=>(if 0 ≤ t321 then (if t321 < (x3_1.length : Int) then (some ((x3_1.set (t321 : Int).toNat (⟨(rd_T98 x3_1 t321).f0,(⟨bt323.1,bt323.2.1⟩ : S43)⟩ : S98)),bt323.2.2)) else (none)) else (none))) = some (r1,r2):=H
       have A25:=m_ A250
       clear A250
       replace H:=Option.bind_eq_some_iff.mp H
       obtain ⟨⟨t323,t324,t325⟩,A260,H⟩:=H
       replace H : (if 0 ≤ t321 then (if t321 < (x3_1.length : Int) then (some ((x3_1.set (t321 : Int).toNat (⟨(rd_T98 x3_1 t321).f0,(⟨t323,t324⟩ : S43)⟩ : S98)),t325)) else (none)) else (none)) = some (r1,r2):=H
       have A26:=m_ A260
       clear A260
       by_cases c27 : 0 ≤ t321
       rotate_left
       ·rw [if_neg c27] at H
        exact absurd H (by simp)
       rw [if_pos c27] at H
       have c27b0 : decide (0 ≤ t321) = true:=decide_eq_true c27
       clear c27
       by_cases c28 : t321 < (x3_1.length : Int)
       ·rw [if_pos c28] at H
        have c28b0 : decide (t321 < (x3_1.length : Int)) = true:=decide_eq_true c28
        clear c28
        obtain ⟨y326,hy326⟩ : ∃ y_ : List (S98),y_ = (x3_1.set (t321 : Int).toNat (⟨(rd_T98 x3_1 t321).f0,(⟨t323,t324⟩ : S43)⟩ : S98)):=⟨_,rfl⟩
        replace H : (some (y326,t325)) = some (r1,r2):=by first|(rw [hy326];with_reducible exact H)|(have H2_:=(Option.bind_some _ _).symm.trans H;rw [hy326];with_reducible exact H2_)|(have H2_:=(Option.bind_some _ _).symm.trans H;with_reducible exact H2_)|with_reducible exact H|(rw [hy326];exact H)|exact H
        have Ny326:=m_ hy326
        clear hy326
        simp only [Option.some.injEq,Prod.mk.injEq] at H
        obtain ⟨rfl,rfl⟩:=H
        go_wp2_with (first|((with_reducible refine gate_callee (f:=53) rfl ?_);refine goesL_ (some 26) rfl rfl Tryd.func53 (by kernel_rfl) rfl #[.pointer (some ⟨g,0,none⟩),.int .i64 20] rfl lens ?_;(with_reducible refine (spec_l6Rd_pick.calls k1 g s0_0 x1001_1 20 t311 t312 w0 _ ?side1 ?side2 A14.out).mono ?_);(case side1=>repeat (first|(with_reducible first|exact HI0.out|apply IsS85.alloc|apply IsS85.drewN|apply IsS85.drew|apply IsS85.set_1)|exact HI0.out));(case side2=>repeat (first|(with_reducible first|exact HB.out|apply l1_|apply l2_|apply l3_|refine l4_ ?_ (IsS85.ge HI0.out))|exact HB.out));rintro e w30 ⟨rfl,hi,hb,hk⟩;refine ⟨_,rfl,?_⟩;have n0_:=m_ (Kd.Q_mono (Kd.Q_keep (IsS85.apartQ (show IsS85 w0 _ g s0_0 x1001_1 from by repeat (first|(with_reducible first|exact HI0.out|apply IsS85.alloc|apply IsS85.drewN|apply IsS85.drew|apply IsS85.set_1)|exact HI0.out)) (puQ HO_3.out) (by decide)) hk (fun _ h=>h.2)) (fun _ h=>h.1));have n1_:=m_ (KeepBut.trans (puK HK.out) hk (.inl rfl));have n2_:=m_ (hb);have n3_:=m_ (hi);revert n0_ n1_ n2_ n3_;clear HO_3 HK HB HI0;intro HO_3 HK HB HI0;(try clear hb);(try clear hb2);(try clear hk);(try clear hi);obtain ⟨Ao31,co31,eo31,_⟩:=Kd.Q_slice HO_3.out;subst eo31)|((with_reducible refine gate_callee (f:=53) rfl ?_);refine goesL_ (some 47) rfl rfl Tryd.func53 (by kernel_rfl) rfl #[.pointer (some ⟨g,0,none⟩),.int .i64 (x3_1.length : Int)] rfl lens ?_;(with_reducible refine (spec_l6Rd_pick.calls k1 g s0_0 t312 (x3_1.length : Int) t321 t322 w0 _ ?side1 ?side2 A25.out).mono ?_);(case side1=>repeat (first|(with_reducible first|exact HI0.out|apply IsS85.alloc|apply IsS85.drewN|apply IsS85.drew|apply IsS85.set_1)|exact HI0.out));(case side2=>repeat (first|(with_reducible first|exact HB.out|apply l1_|apply l2_|apply l3_|refine l4_ ?_ (IsS85.ge HI0.out))|exact HB.out));rintro e w32 ⟨rfl,hi,hb,hk⟩;refine ⟨_,rfl,?_⟩;have n0_:=m_ (Kd.Q_mono (Kd.Q_keep (IsS85.apartQ (show IsS85 w0 _ g s0_0 t312 from by repeat (first|(with_reducible first|exact HI0.out|apply IsS85.alloc|apply IsS85.drewN|apply IsS85.drew|apply IsS85.set_1)|exact HI0.out)) (puQ HO_3.out) (by decide)) hk (fun _ h=>h.2)) (fun _ h=>h.1));have n1_:=m_ (KeepBut.trans (puK HK.out) hk (.inl rfl));have n2_:=m_ (hb);have n3_:=m_ (hi);revert n0_ n1_ n2_ n3_;clear HO_3 HK HB HI0;intro HO_3 HK HB HI0;(try clear hb);(try clear hb2);(try clear hk);(try clear hi))|((with_reducible refine gate_callee (f:=65) rfl ?_);refine goesL_ (some 49) rfl rfl Tryd.func65 (by kernel_rfl) rfl #[.pointer (some ⟨g,0,none⟩)] rfl lens ?_;(with_reducible refine (spec_l71End.calls k1 g s0_0 t322 t323 t324 t325 w0 _ ?side1 ?side2 A26.out).mono ?_);(case side1=>repeat (first|(with_reducible first|exact HI0.out|apply IsS85.alloc|apply IsS85.drewN|apply IsS85.drew|apply IsS85.set_1)|exact HI0.out));(case side2=>repeat (first|(with_reducible first|exact HB.out|apply l1_|apply l2_|apply l3_|refine l4_ ?_ (IsS85.ge HI0.out))|exact HB.out));rintro e w33 ⟨rfl,hi,hb,hk⟩;refine ⟨_,rfl,?_⟩;have n0_:=m_ (Kd.Q_mono (Kd.Q_keep (IsS85.apartQ (show IsS85 w0 _ g s0_0 t322 from by repeat (first|(with_reducible first|exact HI0.out|apply IsS85.alloc|apply IsS85.drewN|apply IsS85.drew|apply IsS85.set_1)|exact HI0.out)) (puQ HO_3.out) (by decide)) hk (fun _ h=>h.2)) (fun _ h=>h.1));have n1_:=m_ (KeepBut.trans (puK HK.out) hk (.inl rfl));have n2_:=m_ (hb);have n3_:=m_ (hi);revert n0_ n1_ n2_ n3_;clear HO_3 HK HB HI0;intro HO_3 HK HB HI0;(try clear hb);(try clear hb2);(try clear hk);(try clear hi);have p29 : 0 ≤ (t321 : Int):=of_decide_eq_true asm;have q29 : (t321 : Int) < ((x3_1.length : Int) : Int):=of_decide_eq_true asm;obtain ⟨go29,oo29,co29,eo29,gb29,gl29,cl29,HG29⟩:=Kd.Q_form HO_3.out (by omega);(first|cases eo29|(injection eo29 with ea_ en_ ec_;(first|subst ea_|(injection ea_ with ea_;subst ea_));subst ec_;clear en_));have GB29:=m_ gb29;have GG29:=m_ HG29;clear gb29 gl29 HG29;obtain ⟨ce29,hcl29,hM29,hcc29,hfr29⟩:=Kd.Q_elem HO_3.out z98 (t321 : Int) p29 q29;obtain rfl:=k98_openM hM29;have hx29_0 : w33.cell? ⟨go29,oo29 + (t321 : Int).toNat * 3,none⟩ = some (.int .i64 ((rd_T98 x3_1 t321).f0)):=hcc29 0 _ rfl;have hx29_1 : w33.cell? ⟨go29,oo29 + (t321 : Int).toNat * 3 + 1,none⟩ = some (.int .i64 ((rd_T98 x3_1 t321).f1.f0)):=hcc29 1 _ rfl;have hx29_2 : w33.cell? ⟨go29,oo29 + (t321 : Int).toNat * 3 + 2,none⟩ = some (.int .i64 ((rd_T98 x3_1 t321).f1.f1)):=hcc29 2 _ rfl;have hf29_0 : w33.frozen? ⟨go29,oo29 + (t321 : Int).toNat * 3,none⟩ = false:=hfr29 0;have hf29_1 : w33.frozen? ⟨go29,oo29 + (t321 : Int).toNat * 3 + 1,none⟩ = false:=hfr29 1;have hf29_2 : w33.frozen? ⟨go29,oo29 + (t321 : Int).toNat * 3 + 2,none⟩ = false:=hfr29 2;clear hcl29 hcc29 hfr29 hM29;replace p29:=eq_true p29;replace q29:=eq_true q29;have HX34:=m_ (show Kd.Q k98 98 w33 w.heap.size (fun _=>True) (.slice (some ⟨go29,oo29,none⟩) x3_1.length co31) x3_1 from (puQ HO_3.out));obtain ⟨ce34,hcl34,hM34,hcc34,hfr34⟩:=Kd.Q_elem HX34.out z98 (t321 : Int) (of_decide_eq_true asm) (by have h_ : (t321 : Int) < ((x3_1.length : Int) : Int):=of_decide_eq_true asm;first|exact h_|(have e_:=(Kd.Q_reads' HO_3.out).1;omega)|simpa using h_);obtain rfl:=k98_openM hM34;have HP34:=Kd.Q_seg HX34.out (t321 : Int) (of_decide_eq_true asm) (by have h_ : (t321 : Int) < ((x3_1.length : Int) : Int):=of_decide_eq_true asm;first|exact h_|(have e_:=(Kd.Q_reads' HO_3.out).1;omega)|simpa using h_) (seg:=[.int .i64 t323,.int .i64 t324]) (j:=1) hcl34 hcc34 (show 3 ≤ 3 from by decide) (x':=(⟨(rd_T98 x3_1 t321).f0,(⟨t323,t324⟩ : S43)⟩ : S98)) (k98_mkM _ _ _ (⟨(rd_T98 x3_1 t321).f0,(⟨t323,t324⟩ : S43)⟩ : S98) ) (fun _ hk=>hk);have hx34_1:=hcc34 1 _ rfl;(try simp only [show (k98).sz = 3 from rfl,Nat.mul_one,Nat.add_zero] at hx34_1);have hf34_1:=hfr34 1;(try simp only [show (k98).sz = 3 from rfl,Nat.mul_one,Nat.add_zero] at hf34_1);have hx34_2:=hcc34 2 _ rfl;(try simp only [show (k98).sz = 3 from rfl,Nat.mul_one,Nat.add_zero] at hx34_2);have hf34_2:=hfr34 2;(try simp only [show (k98).sz = 3 from rfl,Nat.mul_one,Nat.add_zero] at hf34_2);clear hcl34 hcc34 hfr34 hM34)|((with_reducible refine gate_store (t:=43) (p:=51) rfl ?_);refine store_event (t:=43) (p:=51) (v:=?vo_w35) (w1:=((w33.setCell ⟨go29,oo29 + (t321 : Int).toNat * 3 + 1,none⟩ (.int .i64 t323)).setCell ⟨go29,oo29 + (t321 : Int).toNat * 3 + 2,none⟩ (.int .i64 t324))) ?hg ?ho ?hn ?hr ?_;(case ho=>rfl);(case hg=>rfl);(case hn=>rfl);(case hr=>first|(go_simp;done)|(go_simp;rfl));intro w35 hw;have hg : w33.grownBy w35 (some go29):=(by rw [hw];exact HP34.2);have hp_ : Kd.Q k98 98 w35 w.heap.size (fun _=>True) (.slice (some ⟨go29,oo29,none⟩) x3_1.length co31) y326:=(by rw [hw,Ny326.out];exact HP34.1);clear HP34;have n0_:=m_ (hp_);have n1_:=m_ (IsS85.grown (by repeat (first|(with_reducible first|exact HI0.out|apply IsS85.alloc|apply IsS85.drewN|apply IsS85.drew|apply IsS85.set_1)|exact HI0.out)) hg (IsS85.own_neQ HI0.out HO_3.out (by decide)));have n2_:=m_ ((by rw [hw];exact l4_ (l4_ (HB.out) (Nat.le_trans HL.out GB29.out)) (Nat.le_trans HL.out GB29.out) : Below w0.heap.size w0 w35));have n3_:=m_ (KeepBut.trans (puK HK.out) (KeepBut.of_grown hg g) (Kd.Q_base2 HO_3.out));revert n0_ n1_ n2_ n3_;clear HO_3 HI0 HB HK;intro HO_3 HI0 HB HK;clear hg hw hp_))
        go_ret
        exact ⟨_,eqs,puQ HO_3.out,by repeat (first|(with_reducible first|exact HI0.out|apply IsS85.alloc|apply IsS85.drewN|apply IsS85.drew|apply IsS85.set_1)|exact HI0.out),puM HB.out (IsS85.ge HI0.out),puK HK.out⟩
       ·rw [if_neg c28] at H
        exact absurd H (by simp)
      ·rw [if_neg c24] at H
       have c24b0 : decide (0 < (x3_1.length : Int)) = false:=decide_eq_false c24
       have c24b1 : decide (0 < x3_1.length) = false:=decide_eq_false (by omega)
       clear c24
       simp only [Option.some.injEq,Prod.mk.injEq] at H
       obtain ⟨rfl,rfl⟩:=H
       go_wp2_with (first|((with_reducible refine gate_callee (f:=53) rfl ?_);refine goesL_ (some 26) rfl rfl Tryd.func53 (by kernel_rfl) rfl #[.pointer (some ⟨g,0,none⟩),.int .i64 20] rfl lens ?_;(with_reducible refine (spec_l6Rd_pick.calls k1 g s0_0 x1001_1 20 t311 t312 w0 _ ?side1 ?side2 A14.out).mono ?_);(case side1=>repeat (first|(with_reducible first|exact HI0.out|apply IsS85.alloc|apply IsS85.drewN|apply IsS85.drew|apply IsS85.set_1)|exact HI0.out));(case side2=>repeat (first|(with_reducible first|exact HB.out|apply l1_|apply l2_|apply l3_|refine l4_ ?_ (IsS85.ge HI0.out))|exact HB.out));rintro e w36 ⟨rfl,hi,hb,hk⟩;refine ⟨_,rfl,?_⟩;have n0_:=m_ (Kd.Q_mono (Kd.Q_keep (IsS85.apartQ (show IsS85 w0 _ g s0_0 x1001_1 from by repeat (first|(with_reducible first|exact HI0.out|apply IsS85.alloc|apply IsS85.drewN|apply IsS85.drew|apply IsS85.set_1)|exact HI0.out)) (puQ HO_3.out) (by decide)) hk (fun _ h=>h.2)) (fun _ h=>h.1));have n1_:=m_ (KeepBut.trans (puK HK.out) hk (.inl rfl));have n2_:=m_ (hb);have n3_:=m_ (hi);revert n0_ n1_ n2_ n3_;clear HO_3 HK HB HI0;intro HO_3 HK HB HI0;(try clear hb);(try clear hb2);(try clear hk);(try clear hi);obtain ⟨Ao37,co37,eo37,_⟩:=Kd.Q_slice HO_3.out;subst eo37))
       go_ret
       exact ⟨_,eqs,puQ HO_3.out,by repeat (first|(with_reducible first|exact HI0.out|apply IsS85.alloc|apply IsS85.drewN|apply IsS85.drew|apply IsS85.set_1)|exact HI0.out),puM HB.out (IsS85.ge HI0.out),puK HK.out⟩
     ·rw [if_neg c23] at H
      have c23b0 : (t311 == 1) = false:=beq_eq_false_iff_ne.mpr c23
      have c23b1 : (t311 != 1) = true:=bne_iff_ne.mpr c23
      by_cases c38 : t311 = 2
      ·rw [if_pos c38] at H
       have c38b0 : (t311 == 2) = true:=beq_iff_eq.mpr c38
       have c38b1 : (t311 != 2) = false:=bne_eq_false_iff_eq.mpr c38
       clear c38
       by_cases c39 : (x3_1.length : Int) > 0
       ·rw [if_pos c39] at H
        have c39b0 : decide (0 < (x3_1.length : Int)) = true:=decide_eq_true c39
        have c39b1 : decide (0 < x3_1.length) = true:=decide_eq_true (by omega)
        clear c39
        by_cases c40 : 1 ≤ (x3_1.length : Int)
        ·rw [if_pos c40] at H
         have c40b0:=eq_true c40
         have c40b1:=decide_eq_true c40
         clear c40
         obtain ⟨y327,hy327⟩ : ∃ y_ : List (S98),y_ = (x3_1.drop (1 : Int).toNat):=⟨_,rfl⟩
         replace H : (some (y327,t312)) = some (r1,r2):=by first|(rw [hy327];with_reducible exact H)|(have H2_:=(Option.bind_some _ _).symm.trans H;rw [hy327];with_reducible exact H2_)|(have H2_:=(Option.bind_some _ _).symm.trans H;with_reducible exact H2_)|with_reducible exact H|(rw [hy327];exact H)|exact H
         have Ny327:=m_ hy327
         clear hy327
         simp only [Option.some.injEq,Prod.mk.injEq] at H
         obtain ⟨rfl,rfl⟩:=H
         go_wp2_with (first|((with_reducible refine gate_callee (f:=53) rfl ?_);refine goesL_ (some 26) rfl rfl Tryd.func53 (by kernel_rfl) rfl #[.pointer (some ⟨g,0,none⟩),.int .i64 20] rfl lens ?_;(with_reducible refine (spec_l6Rd_pick.calls k1 g s0_0 x1001_1 20 t311 t312 w0 _ ?side1 ?side2 A14.out).mono ?_);(case side1=>repeat (first|(with_reducible first|exact HI0.out|apply IsS85.alloc|apply IsS85.drewN|apply IsS85.drew|apply IsS85.set_1)|exact HI0.out));(case side2=>repeat (first|(with_reducible first|exact HB.out|apply l1_|apply l2_|apply l3_|refine l4_ ?_ (IsS85.ge HI0.out))|exact HB.out));rintro e w41 ⟨rfl,hi,hb,hk⟩;refine ⟨_,rfl,?_⟩;have n0_:=m_ (Kd.Q_mono (Kd.Q_keep (IsS85.apartQ (show IsS85 w0 _ g s0_0 x1001_1 from by repeat (first|(with_reducible first|exact HI0.out|apply IsS85.alloc|apply IsS85.drewN|apply IsS85.drew|apply IsS85.set_1)|exact HI0.out)) (puQ HO_3.out) (by decide)) hk (fun _ h=>h.2)) (fun _ h=>h.1));have n1_:=m_ (KeepBut.trans (puK HK.out) hk (.inl rfl));have n2_:=m_ (hb);have n3_:=m_ (hi);revert n0_ n1_ n2_ n3_;clear HO_3 HK HB HI0;intro HO_3 HK HB HI0;(try clear hb);(try clear hb2);(try clear hk);(try clear hi);obtain ⟨Ao42,co42,eo42,_⟩:=Kd.Q_slice HO_3.out;subst eo42;have q43 : (1 : Int) ≤ ((x3_1.length : Int) : Int):=of_decide_eq_true asm;obtain ⟨i043,hi043,_,hsz43,_⟩:=info_parts info98;have hcut43:=cut_from (P:=Tryd.prog) 56 98 .i64 Tryd.underlying56 hi043 3 hsz43 Ao42 x3_1.length co42 1 (by omega) q43;have hr43:=Kd.Q_drop (k:=(1 : Int).toNat) HO_3.out (by omega);obtain ⟨A43,hA43⟩ : ∃ A1,A1 = (if co42 = (1 : Int).toNat then Ao42 else (Ao42 : Option Addr).map (·.add ((1 : Int).toNat * 3))):=⟨_,rfl⟩;obtain ⟨c43,hc43⟩ : ∃ c1,c1 = co42 - (1 : Int).toNat:=⟨_,rfl⟩;have hy43 : y327.length = x3_1.length - (1 : Int).toNat:=(by rw [Ny327.out,List.length_drop]);rw [← Ny327.out] at hr43;rw [← hy43,← hA43,← hc43] at hcut43;replace hr43 : Kd.Q k98 98 w41 w.heap.size (fun _=>True) (.slice A43 y327.length c43) y327:=(by rw [hA43,hc43,hy43];exact hr43);have HE43 : Aside0 ((Value.slice A43 y327.length c43).ownBlock = (.slice Ao42 x3_1.length co42 : Value).ownBlock):=⟨by rw [hA43];split <;> (cases (Ao42 : Option Addr) <;> rfl)⟩;clear hy43 hi043 hsz43 HO_3 hA43 hc43;have HO329:=m_ hr43;clear hr43;replace q43:=eq_true q43))
         go_ret
         exact ⟨_,eqs,puQ HO329.out,by repeat (first|(with_reducible first|exact HI0.out|apply IsS85.alloc|apply IsS85.drewN|apply IsS85.drew|apply IsS85.set_1)|exact HI0.out),puM HB.out (IsS85.ge HI0.out),puK HK.out⟩
        ·rw [if_neg c40] at H
         exact absurd H (by simp)
       ·rw [if_neg c39] at H
        have c39b0 : decide (0 < (x3_1.length : Int)) = false:=decide_eq_false c39
        have c39b1 : decide (0 < x3_1.length) = false:=decide_eq_false (by omega)
        clear c39
        simp only [Option.some.injEq,Prod.mk.injEq] at H
        obtain ⟨rfl,rfl⟩:=H
        go_wp2_with (first|((with_reducible refine gate_callee (f:=53) rfl ?_);refine goesL_ (some 26) rfl rfl Tryd.func53 (by kernel_rfl) rfl #[.pointer (some ⟨g,0,none⟩),.int .i64 20] rfl lens ?_;(with_reducible refine (spec_l6Rd_pick.calls k1 g s0_0 x1001_1 20 t311 t312 w0 _ ?side1 ?side2 A14.out).mono ?_);(case side1=>repeat (first|(with_reducible first|exact HI0.out|apply IsS85.alloc|apply IsS85.drewN|apply IsS85.drew|apply IsS85.set_1)|exact HI0.out));(case side2=>repeat (first|(with_reducible first|exact HB.out|apply l1_|apply l2_|apply l3_|refine l4_ ?_ (IsS85.ge HI0.out))|exact HB.out));rintro e w44 ⟨rfl,hi,hb,hk⟩;refine ⟨_,rfl,?_⟩;have n0_:=m_ (Kd.Q_mono (Kd.Q_keep (IsS85.apartQ (show IsS85 w0 _ g s0_0 x1001_1 from by repeat (first|(with_reducible first|exact HI0.out|apply IsS85.alloc|apply IsS85.drewN|apply IsS85.drew|apply IsS85.set_1)|exact HI0.out)) (puQ HO_3.out) (by decide)) hk (fun _ h=>h.2)) (fun _ h=>h.1));have n1_:=m_ (KeepBut.trans (puK HK.out) hk (.inl rfl));have n2_:=m_ (hb);have n3_:=m_ (hi);revert n0_ n1_ n2_ n3_;clear HO_3 HK HB HI0;intro HO_3 HK HB HI0;(try clear hb);(try clear hb2);(try clear hk);(try clear hi);obtain ⟨Ao45,co45,eo45,_⟩:=Kd.Q_slice HO_3.out;subst eo45))
        go_ret
        exact ⟨_,eqs,puQ HO_3.out,by repeat (first|(with_reducible first|exact HI0.out|apply IsS85.alloc|apply IsS85.drewN|apply IsS85.drew|apply IsS85.set_1)|exact HI0.out),puM HB.out (IsS85.ge HI0.out),puK HK.out⟩
      ·rw [if_neg c38] at H
       have c38b0 : (t311 == 2) = false:=beq_eq_false_iff_ne.mpr c38
       have c38b1 : (t311 != 2) = true:=bne_iff_ne.mpr c38
       simp only [Option.some.injEq,Prod.mk.injEq] at H
       obtain ⟨rfl,rfl⟩:=H
       go_wp2_with (first|((with_reducible refine gate_callee (f:=53) rfl ?_);refine goesL_ (some 26) rfl rfl Tryd.func53 (by kernel_rfl) rfl #[.pointer (some ⟨g,0,none⟩),.int .i64 20] rfl lens ?_;(with_reducible refine (spec_l6Rd_pick.calls k1 g s0_0 x1001_1 20 t311 t312 w0 _ ?side1 ?side2 A14.out).mono ?_);(case side1=>repeat (first|(with_reducible first|exact HI0.out|apply IsS85.alloc|apply IsS85.drewN|apply IsS85.drew|apply IsS85.set_1)|exact HI0.out));(case side2=>repeat (first|(with_reducible first|exact HB.out|apply l1_|apply l2_|apply l3_|refine l4_ ?_ (IsS85.ge HI0.out))|exact HB.out));rintro e w46 ⟨rfl,hi,hb,hk⟩;refine ⟨_,rfl,?_⟩;have n0_:=m_ (Kd.Q_mono (Kd.Q_keep (IsS85.apartQ (show IsS85 w0 _ g s0_0 x1001_1 from by repeat (first|(with_reducible first|exact HI0.out|apply IsS85.alloc|apply IsS85.drewN|apply IsS85.drew|apply IsS85.set_1)|exact HI0.out)) (puQ HO_3.out) (by decide)) hk (fun _ h=>h.2)) (fun _ h=>h.1));have n1_:=m_ (KeepBut.trans (puK HK.out) hk (.inl rfl));have n2_:=m_ (hb);have n3_:=m_ (hi);revert n0_ n1_ n2_ n3_;clear HO_3 HK HB HI0;intro HO_3 HK HB HI0;(try clear hb);(try clear hb2);(try clear hk);(try clear hi)))
       go_ret
       exact ⟨_,eqs,puQ HO_3.out,by repeat (first|(with_reducible first|exact HI0.out|apply IsS85.alloc|apply IsS85.drewN|apply IsS85.drew|apply IsS85.set_1)|exact HI0.out),puM HB.out (IsS85.ge HI0.out),puK HK.out⟩

/-! ### spec_MapOk: function 52 -/
mutual
def spec_MapOk.l0 : Nat → List (S98) → Int → Option (Bool)
 | 0, _, _ => none
 | k + 1, x0, x3 => if x3 < (x0.length : Int) then (if 0 ≤ x3 then (if ((rd_T98 x0 x3).f0) = (wrap64 (10 + x3)) then ((spec_EndInside.f ((rd_T98 x0 x3).f1.f0) ((rd_T98 x0 x3).f1.f1)).bind fun t332 => (spec_MapOk.j1 k x0 x3 (!t332))) else (spec_MapOk.j1 k x0 x3 true)) else (none)) else (some (decide ((x0.length : Int) ≤ 8)))
def spec_MapOk.j1 : Nat → List (S98) → Int → Bool → Option (Bool)
 | 0, _, _, _ => none
 | k + 1, x0, x3, x27 => if x27 = true then (some false) else (spec_MapOk.l1 k x0 x3 0)
def spec_MapOk.l1 : Nat → List (S98) → Int → Int → Option (Bool)
 | 0, _, _, _ => none
 | k + 1, x0, x3, x4 => if x4 < x3 then (if 0 ≤ x4 then (if x4 < (x0.length : Int) then (if 0 ≤ x3 then (if x3 < (x0.length : Int) then (if (((rd_T98 x0 x4).f1.f0) == ((rd_T98 x0 x3).f1.f0) && (((rd_T98 x0 x4).f1.f1) == ((rd_T98 x0 x3).f1.f1))) = true then (some false) else (spec_MapOk.l1 k x0 x3 (wrap64 (x4 + 1)))) else (none)) else (none)) else (none)) else (none)) else (spec_MapOk.l0 k x0 (wrap64 (x3 + 1)))
end
def spec_MapOk.f (k : Nat) (l0 : List (S98)) : Option (Bool) := spec_MapOk.l0 k l0 0
theorem spec_MapOk.mono_l : ∀ k, (∀ y0 y1, LeO (spec_MapOk.l0 k y0 y1) (spec_MapOk.l0 (k + 1) y0 y1)) ∧ (∀ y0 y1 y2, LeO (spec_MapOk.j1 k y0 y1 y2) (spec_MapOk.j1 (k + 1) y0 y1 y2)) ∧ (∀ y0 y1 y2, LeO (spec_MapOk.l1 k y0 y1 y2) (spec_MapOk.l1 (k + 1) y0 y1 y2))
 | 0 => ⟨fun _ _ r h => by simp [spec_MapOk.l0] at h, fun _ _ _ r h => by simp [spec_MapOk.j1] at h, fun _ _ _ r h => by simp [spec_MapOk.l1] at h⟩
 | k + 1 => by
  obtain ⟨ih0,ih1,ih2⟩:=spec_MapOk.mono_l k
  refine ⟨?_,?_,?_⟩
  ·intro y0 y1
   unfold spec_MapOk.l0
   repeat' first
   | (with_reducible exact ih0 _ _)
   | (with_reducible exact ih1 _ _ _)
   | (with_reducible exact ih2 _ _ _)
   | (with_reducible exact LeO.refl _)
   | (with_reducible exact LeO.none _)
   | (with_reducible refine LeO.ite ?_ ?_)
   | (with_reducible refine LeO.bind ?_ (fun _ => ?_))
   | exact ih0 _ _
   | exact ih1 _ _ _
   | exact ih2 _ _ _
   | exact LeO.none _
   | refine LeO.ite ?_ ?_
   | refine LeO.bind ?_ (fun _ => ?_)
  ·intro y0 y1 y2
   unfold spec_MapOk.j1
   repeat' first
   | (with_reducible exact ih0 _ _)
   | (with_reducible exact ih1 _ _ _)
   | (with_reducible exact ih2 _ _ _)
   | (with_reducible exact LeO.refl _)
   | (with_reducible exact LeO.none _)
   | (with_reducible refine LeO.ite ?_ ?_)
   | (with_reducible refine LeO.bind ?_ (fun _ => ?_))
   | exact ih0 _ _
   | exact ih1 _ _ _
   | exact ih2 _ _ _
   | exact LeO.none _
   | refine LeO.ite ?_ ?_
   | refine LeO.bind ?_ (fun _ => ?_)
  ·intro y0 y1 y2
   unfold spec_MapOk.l1
   repeat' first
   | (with_reducible exact ih0 _ _)
   | (with_reducible exact ih1 _ _ _)
   | (with_reducible exact ih2 _ _ _)
   | (with_reducible exact LeO.refl _)
   | (with_reducible exact LeO.none _)
   | (with_reducible refine LeO.ite ?_ ?_)
   | (with_reducible refine LeO.bind ?_ (fun _ => ?_))
   | exact ih0 _ _
   | exact ih1 _ _ _
   | exact ih2 _ _ _
   | exact LeO.none _
   | refine LeO.ite ?_ ?_
   | refine LeO.bind ?_ (fun _ => ?_)
theorem spec_MapOk.mono : ∀ a0 k, LeO (spec_MapOk.f k a0) (spec_MapOk.f (k + 1) a0) := by
 intro a0 k
 obtain ⟨ih0,ih1,ih2⟩:=spec_MapOk.mono_l k
 unfold spec_MapOk.f
 repeat' first
   | (with_reducible exact ih0 _ _)
   | (with_reducible exact ih1 _ _ _)
   | (with_reducible exact ih2 _ _ _)
   | (with_reducible exact LeO.refl _)
   | (with_reducible exact LeO.none _)
   | (with_reducible refine LeO.ite ?_ ?_)
   | (with_reducible refine LeO.bind ?_ (fun _ => ?_))
   | exact ih0 _ _
   | exact ih1 _ _ _
   | exact ih2 _ _ _
   | exact LeO.none _
   | refine LeO.ite ?_ ?_
   | refine LeO.bind ?_ (fun _ => ?_)
theorem spec_MapOk.calls (k : Nat) (A0 : Option Addr) (c0 : Nat) (l0 : List (S98)) (r : Bool) (w : World) (hr0 : Kd.C k98 w A0 l0.length l0) (hc0 : l0.length ≤ c0) (h : spec_MapOk.f k l0 = some r) :
  Calls Tryd.prog 52 #[.slice A0 l0.length c0] w fun e w'=>e = .returned (.bool r) ∧ Below w.heap.size w w':=by
 have hu43:=Tryd.underlying43
 have HR0:=m_ hr0
 have HC0:=m_ hc0
 clear hr0 hc0
 have HB:=m_ (Below.refl w.heap.size w)
 have H : (spec_MapOk.l0 k l0 0) = some r:=h
 clear h
 have H':=m_ H
 clear H
 go_enter Tryd.func52,Tryd.ntmps52
 go_wp2
 repeat (go_quiet (fail);try go_wp2)
 go_loopg [3] k (fun kq v3 w'=>∃ (x3_1 : Int),v3 = .int .i64 x3_1 ∧ Aside0 (spec_MapOk.l0 kq l0 x3_1 = some r) ∧ Aside0 (kq ≤ k) ∧ Aside0 (Below w.heap.size w w'))
 case atStart=>exact ⟨(0),(by first|rfl|(simp;done)|(simp [*];done)),H',⟨Nat.le_refl _⟩,⟨puL HB.out⟩⟩
 case round =>
  clear H'
  obtain ⟨x3_1,rfl,HA,HK1,HB⟩:=hrel
  cases gk with
  | zero => exact absurd HA.out (by simp [spec_MapOk.l0])
  | succ k1 =>
   have H:=HA.out
   clear HA
   simp only [spec_MapOk.l0] at H
   by_cases c2 : x3_1 < (l0.length : Int)
   ·rw [if_pos c2] at H
    have c2b0 : decide (x3_1 < (l0.length : Int)) = true:=decide_eq_true c2
    clear c2
    have HC3:=m_ H
    clear H
    go_upto_region 4 with (fail)
    repeat (go_quiet (fail);go_upto_region 4 with (fail))
    go_cut [27] (fun v27 wc=>∃ (kq : Nat) (x27_2 : Bool),v27 = .bool x27_2 ∧ Aside0 (spec_MapOk.j1 kq l0 x3_1 x27_2 = some r) ∧ Aside0 (kq ≤ k1) ∧ Aside0 (Below w.heap.size w wc))
    case first =>
     have H:=HC3.out
     clear HC3
     by_cases c4 : 0 ≤ x3_1
     rotate_left
     ·rw [if_neg c4] at H
      exact absurd H (by simp)
     rw [if_pos c4] at H
     have c4b0 : decide (0 ≤ x3_1) = true:=decide_eq_true c4
     clear c4
     (first|rw [c4b0]|(simp only [i64_w,i32_w];rw [c4b0])|skip)
     by_cases c5 : ((rd_T98 l0 x3_1).f0) = (wrap64 (10 + x3_1))
     ·rw [if_pos c5] at H
      have c5b0 : (((rd_T98 l0 x3_1).f0) == (wrap64 (10 + x3_1))) = true:=beq_iff_eq.mpr c5
      have c5b1 : (((rd_T98 l0 x3_1).f0) != (wrap64 (10 + x3_1))) = false:=bne_eq_false_iff_eq.mpr c5
      clear c5
      replace H:=Option.bind_eq_some_iff.mp H
      obtain ⟨t332,A60,H⟩:=H
      replace H : (spec_MapOk.j1 k1 l0 x3_1 (!t332)) = some r:=H
      have A6:=m_ A60
      clear A60
      have H':=m_ H
      clear H
      have p330 : 0 ≤ (x3_1 : Int):=of_decide_eq_true asm
      have q330 : x3_1 < (l0.length : Int):=of_decide_eq_true asm
      obtain ⟨ad330,e330,hx330_0,hx330_1,hx330_2⟩:=at_T98 HR0.out x3_1 p330 q330
      cases e330
      replace hx330_0:=(HB.out.cell (World.block_lt_of_cell? w _ hx330_0)).trans hx330_0
      replace hx330_1:=(HB.out.cell (World.block_lt_of_cell? w _ hx330_1)).trans hx330_1
      replace hx330_2:=(HB.out.cell (World.block_lt_of_cell? w _ hx330_2)).trans hx330_2
      replace p330:=eq_true p330
      replace q330:=eq_true q330
      have p331 : 0 ≤ (x3_1 : Int):=of_decide_eq_true asm
      have q331 : x3_1 < (l0.length : Int):=of_decide_eq_true asm
      obtain ⟨ad331,e331,hx331_0,hx331_1,hx331_2⟩:=at_T98 HR0.out x3_1 p331 q331
      obtain rfl : ad330 = ad331:=(by injection e331)
      replace hx331_0:=(HB.out.cell (World.block_lt_of_cell? w _ hx331_0)).trans hx331_0
      replace hx331_1:=(HB.out.cell (World.block_lt_of_cell? w _ hx331_1)).trans hx331_1
      replace hx331_2:=(HB.out.cell (World.block_lt_of_cell? w _ hx331_2)).trans hx331_2
      replace p331:=eq_true p331
      replace q331:=eq_true q331
      go_wp2_with (first|(go_at_call 66;(with_reducible refine (spec_EndInside.calls ((rd_T98 l0 x3_1).f1.f0) ((rd_T98 l0 x3_1).f1.f1) t332 _ A6.out).mono ?_);rintro e w7 ⟨rfl,hb⟩;have n0_:=m_ (l5_ (puL HB.out) hb);revert n0_;clear HB;intro HB;(try clear hb);(try clear hb2);(try clear hk);(try clear hi)))
      repeat (go_quiet (first|(go_at_call 66;(with_reducible refine (spec_EndInside.calls ((rd_T98 l0 x3_1).f1.f0) ((rd_T98 l0 x3_1).f1.f1) t332 _ A6.out).mono ?_);rintro e w7 ⟨rfl,hb⟩;have n0_:=m_ (l5_ (puL HB.out) hb);revert n0_;clear HB;intro HB;(try clear hb);(try clear hb2);(try clear hk);(try clear hi)));try go_wp2_with (first|(go_at_call 66;(with_reducible refine (spec_EndInside.calls ((rd_T98 l0 x3_1).f1.f0) ((rd_T98 l0 x3_1).f1.f1) t332 _ A6.out).mono ?_);rintro e w7 ⟨rfl,hb⟩;have n0_:=m_ (l5_ (puL HB.out) hb);revert n0_;clear HB;intro HB;(try clear hb);(try clear hb2);(try clear hk);(try clear hi))))
      go_meet
      case rel=>exact ⟨_,(!t332),(by first|rfl|(simp;done)|(simp [*];done)),H',⟨by have:=HK1.out;first|omega|exact Nat.le_refl _⟩,⟨puL HB.out⟩⟩
     ·rw [if_neg c5] at H
      have c5b0 : (((rd_T98 l0 x3_1).f0) == (wrap64 (10 + x3_1))) = false:=beq_eq_false_iff_ne.mpr c5
      have c5b1 : (((rd_T98 l0 x3_1).f0) != (wrap64 (10 + x3_1))) = true:=bne_iff_ne.mpr c5
      have H':=m_ H
      clear H
      have p330 : 0 ≤ (x3_1 : Int):=of_decide_eq_true asm
      have q330 : x3_1 < (l0.length : Int):=of_decide_eq_true asm
      obtain ⟨ad330,e330,hx330_0,hx330_1,hx330_2⟩:=at_T98 HR0.out x3_1 p330 q330
      cases e330
      replace hx330_0:=(HB.out.cell (World.block_lt_of_cell? w _ hx330_0)).trans hx330_0
      replace hx330_1:=(HB.out.cell (World.block_lt_of_cell? w _ hx330_1)).trans hx330_1
      replace hx330_2:=(HB.out.cell (World.block_lt_of_cell? w _ hx330_2)).trans hx330_2
      replace p330:=eq_true p330
      replace q330:=eq_true q330
      go_wp2
      repeat (go_quiet (fail);try go_wp2)
      go_meet
      case rel=>exact ⟨_,(true),(by first|rfl|(simp;done)|(simp [*];done)),H',⟨by have:=HK1.out;first|omega|exact Nat.le_refl _⟩,⟨puL HB.out⟩⟩
    case rest =>
     clear HC3
     try clear c2
     try clear c2b0
     try clear p2
     try clear p3
     try clear q3
     try clear hx3
     try clear c4
     try clear c4b0
     try clear c5
     try clear c5b0
     try clear c5b1
     try clear p6
     try clear hx330_0
     try clear hx330_1
     try clear hx330_2
     try clear hx331_0
     try clear hx331_1
     try clear hx331_2
     try clear p330
     try clear p331
     try clear q330
     try clear q331
     obtain ⟨kq,x27_2,rfl,HA,HJ2,HB⟩:=hcut
     cases kq with
     | zero => exact absurd HA.out (by simp [spec_MapOk.j1])
     | succ kj2 =>
      have H:=HA.out
      clear HA
      simp only [spec_MapOk.j1] at H
      by_cases c8 : x27_2 = true
      ·subst c8
       have H1 : (some false) = some r:=by rw [if_pos rfl] at H;exact H
       clear H
       have H:=H1
       clear H1
       obtain rfl:=Option.some.inj H
       go_wp2
       repeat (go_quiet (fail);try go_wp2)
       go_ret
       exact ⟨eqs,puL HB.out⟩
      ·replace c8:=Bool.eq_false_iff.mpr c8
       subst c8
       have H1 : (spec_MapOk.l1 kj2 l0 x3_1 0) = some r:=by rw [if_neg (show ¬ (false = true) by decide)] at H;exact H
       clear H
       have H:=H1
       clear H1
       have H':=m_ H
       clear H
       go_wp2
       repeat (go_quiet (fail);try go_wp2)
       go_loopg [4] kj2 (fun kq v4 w'=>∃ (x4_3 : Int),v4 = .int .i64 x4_3 ∧ Aside0 (spec_MapOk.l1 kq l0 x3_1 x4_3 = some r) ∧ Aside0 (kq ≤ kj2) ∧ Aside0 (Below w.heap.size w w'))
       case atStart=>exact ⟨(0),(by first|rfl|(simp;done)|(simp [*];done)),H',⟨Nat.le_refl _⟩,⟨puL HB.out⟩⟩
       case round =>
        clear H'
        try clear c2
        try clear c2b0
        try clear p2
        try clear p3
        try clear q3
        try clear hx3
        try clear c4
        try clear c4b0
        try clear c5
        try clear c5b0
        try clear c5b1
        try clear p6
        try clear c8
        try clear hx330_0
        try clear hx330_1
        try clear hx330_2
        try clear hx331_0
        try clear hx331_1
        try clear hx331_2
        try clear p2
        try clear p3
        try clear p330
        try clear p331
        try clear p6
        try clear q3
        try clear q330
        try clear q331
        obtain ⟨x4_3,rfl,HA,HK3,HB⟩:=hrel
        cases gk with
        | zero => exact absurd HA.out (by simp [spec_MapOk.l1])
        | succ k3 =>
         have H:=HA.out
         clear HA
         simp only [spec_MapOk.l1] at H
         by_cases c9 : x4_3 < x3_1
         ·rw [if_pos c9] at H
          have c9b0 : decide (x4_3 < x3_1) = true:=decide_eq_true c9
          clear c9
          by_cases c10 : 0 ≤ x4_3
          rotate_left
          ·rw [if_neg c10] at H
           exact absurd H (by simp)
          rw [if_pos c10] at H
          have c10b0 : decide (0 ≤ x4_3) = true:=decide_eq_true c10
          clear c10
          by_cases c11 : x4_3 < (l0.length : Int)
          rotate_left
          ·rw [if_neg c11] at H
           exact absurd H (by simp)
          rw [if_pos c11] at H
          have c11b0 : decide (x4_3 < (l0.length : Int)) = true:=decide_eq_true c11
          clear c11
          by_cases c12 : 0 ≤ x3_1
          rotate_left
          ·rw [if_neg c12] at H
           exact absurd H (by simp)
          rw [if_pos c12] at H
          have c12b0 : decide (0 ≤ x3_1) = true:=decide_eq_true c12
          clear c12
          by_cases c13 : x3_1 < (l0.length : Int)
          rotate_left
          ·rw [if_neg c13] at H
           exact absurd H (by simp)
          rw [if_pos c13] at H
          have c13b0 : decide (x3_1 < (l0.length : Int)) = true:=decide_eq_true c13
          clear c13
          by_cases c14 : (((rd_T98 l0 x4_3).f1.f0) == ((rd_T98 l0 x3_1).f1.f0) && (((rd_T98 l0 x4_3).f1.f1) == ((rd_T98 l0 x3_1).f1.f1))) = true
          ·rw [if_pos c14] at H
           have c14b0 : (((rd_T98 l0 x4_3).f1.f0) == ((rd_T98 l0 x3_1).f1.f0) && (((rd_T98 l0 x4_3).f1.f1) == ((rd_T98 l0 x3_1).f1.f1))) = true:=c14
           (try (have c14b1 : decide (((rd_T98 l0 x4_3).f1.f0) = ((rd_T98 l0 x3_1).f1.f0) && (((rd_T98 l0 x4_3).f1.f1) == ((rd_T98 l0 x3_1).f1.f1))) = true:=by simpa using c14))
           (try (have c14b2 : (((rd_T98 l0 x4_3).f1.f0) == ((rd_T98 l0 x3_1).f1.f0) && (((rd_T98 l0 x4_3).f1.f1) == ((rd_T98 l0 x3_1).f1.f1))) = true:=by simpa using c14))
           clear c14
           obtain rfl:=Option.some.inj H
           have p333 : 0 ≤ (x4_3 : Int):=of_decide_eq_true asm
           have q333 : x4_3 < (l0.length : Int):=of_decide_eq_true asm
           obtain ⟨ad333,e333,hx333_0,hx333_1,hx333_2⟩:=at_T98 HR0.out x4_3 p333 q333
           cases e333
           replace hx333_0:=(HB.out.cell (World.block_lt_of_cell? w _ hx333_0)).trans hx333_0
           replace hx333_1:=(HB.out.cell (World.block_lt_of_cell? w _ hx333_1)).trans hx333_1
           replace hx333_2:=(HB.out.cell (World.block_lt_of_cell? w _ hx333_2)).trans hx333_2
           replace p333:=eq_true p333
           replace q333:=eq_true q333
           have p334 : 0 ≤ (x3_1 : Int):=of_decide_eq_true asm
           have q334 : x3_1 < (l0.length : Int):=of_decide_eq_true asm
           obtain ⟨ad334,e334,hx334_0,hx334_1,hx334_2⟩:=at_T98 HR0.out x3_1 p334 q334
           obtain rfl : ad333 = ad334:=(by injection e334)
           replace hx334_0:=(HB.out.cell (World.block_lt_of_cell? w _ hx334_0)).trans hx334_0
           replace hx334_1:=(HB.out.cell (World.block_lt_of_cell? w _ hx334_1)).trans hx334_1
           replace hx334_2:=(HB.out.cell (World.block_lt_of_cell? w _ hx334_2)).trans hx334_2
           replace p334:=eq_true p334
           replace q334:=eq_true q334
           go_wp2
           repeat (go_quiet (fail);try go_wp2)
           go_ret
           exact ⟨eqs,puL HB.out⟩
          ·rw [if_neg c14] at H
           have c14b0 : (((rd_T98 l0 x4_3).f1.f0) == ((rd_T98 l0 x3_1).f1.f0) && (((rd_T98 l0 x4_3).f1.f1) == ((rd_T98 l0 x3_1).f1.f1))) = false:=by simpa using c14
           (try (have c14b1 : decide (((rd_T98 l0 x4_3).f1.f0) = ((rd_T98 l0 x3_1).f1.f0) && (((rd_T98 l0 x4_3).f1.f1) == ((rd_T98 l0 x3_1).f1.f1))) = false:=by simpa using c14))
           (try (have c14b2 : (((rd_T98 l0 x4_3).f1.f0) == ((rd_T98 l0 x3_1).f1.f0) && (((rd_T98 l0 x4_3).f1.f1) == ((rd_T98 l0 x3_1).f1.f1))) = false:=by simpa using c14))
           (try (have c14b3 : ¬ (((rd_T98 l0 x4_3).f1.f0) = ((rd_T98 l0 x3_1).f1.f0) && (((rd_T98 l0 x4_3).f1.f1) == ((rd_T98 l0 x3_1).f1.f1))):=by simpa using c14))
           clear c14
           have H':=m_ H
           clear H
           have p333 : 0 ≤ (x4_3 : Int):=of_decide_eq_true asm
           have q333 : x4_3 < (l0.length : Int):=of_decide_eq_true asm
           obtain ⟨ad333,e333,hx333_0,hx333_1,hx333_2⟩:=at_T98 HR0.out x4_3 p333 q333
           cases e333
           replace hx333_0:=(HB.out.cell (World.block_lt_of_cell? w _ hx333_0)).trans hx333_0
           replace hx333_1:=(HB.out.cell (World.block_lt_of_cell? w _ hx333_1)).trans hx333_1
           replace hx333_2:=(HB.out.cell (World.block_lt_of_cell? w _ hx333_2)).trans hx333_2
           replace p333:=eq_true p333
           replace q333:=eq_true q333
           have p334 : 0 ≤ (x3_1 : Int):=of_decide_eq_true asm
           have q334 : x3_1 < (l0.length : Int):=of_decide_eq_true asm
           obtain ⟨ad334,e334,hx334_0,hx334_1,hx334_2⟩:=at_T98 HR0.out x3_1 p334 q334
           obtain rfl : ad333 = ad334:=(by injection e334)
           replace hx334_0:=(HB.out.cell (World.block_lt_of_cell? w _ hx334_0)).trans hx334_0
           replace hx334_1:=(HB.out.cell (World.block_lt_of_cell? w _ hx334_1)).trans hx334_1
           replace hx334_2:=(HB.out.cell (World.block_lt_of_cell? w _ hx334_2)).trans hx334_2
           replace p334:=eq_true p334
           replace q334:=eq_true q334
           go_wp2
           repeat (go_quiet (fail);try go_wp2)
           go_roundg k3
           case measure=>have:=HK1.out;have:=HJ2.out;have:=HK3.out;omega
           case rel=>exact ⟨(wrap64 (x4_3 + 1)),(by first|rfl|(simp;done)|(simp [*];done)),H',⟨by have:=HK1.out;have:=HJ2.out;have:=HK3.out;omega⟩,⟨puL HB.out⟩⟩
         ·rw [if_neg c9] at H
          have c9b0 : decide (x4_3 < x3_1) = false:=decide_eq_false c9
          clear c9
          have H':=m_ H
          clear H
          go_wp2
          repeat (go_quiet (fail);try go_wp2)
          go_roundg k3
          case measure=>have:=HK1.out;have:=HJ2.out;have:=HK3.out;omega
          case rel=>exact ⟨(wrap64 (x3_1 + 1)),(by first|rfl|(simp;done)|(simp [*];done)),H',⟨by have:=HK1.out;have:=HJ2.out;have:=HK3.out;omega⟩,⟨puL HB.out⟩⟩
   ·rw [if_neg c2] at H
    have c2b0 : decide (x3_1 < (l0.length : Int)) = false:=decide_eq_false c2
    clear c2
    obtain rfl:=Option.some.inj H
    go_wp2
    repeat (go_quiet (fail);try go_wp2)
    go_ret
    exact ⟨eqs,puL HB.out⟩

/-! ### spec_l6Rd_of: function 56 -/
def spec_l6Rd_of.f (k : Nat) (s0_0 : List Int) (s0_1 : Int) (l1 : List ByteArray) : Option (ByteArray × Int) := (spec_l6Rd_pick.f k s0_0 s0_1 (l1.length : Int)).bind fun bt335 => (if 0 ≤ bt335.1 then (if bt335.1 < (l1.length : Int) then (some (rdOf ByteArray.empty l1 bt335.1, bt335.2)) else (none)) else (none))
theorem spec_l6Rd_of.mono : ∀ a0 a1 a2 k, LeO (spec_l6Rd_of.f k a0 a1 a2) (spec_l6Rd_of.f (k + 1) a0 a1 a2) := by
 intro a0 a1 a2 k
 unfold spec_l6Rd_of.f
 repeat' first
   | (with_reducible exact spec_l6Rd_pick.mono _ _ _ _)
   | (with_reducible exact LeO.refl _)
   | (with_reducible exact LeO.none _)
   | (with_reducible refine LeO.ite ?_ ?_)
   | (with_reducible refine LeO.bind ?_ (fun _ => ?_))
   | exact spec_l6Rd_pick.mono _ _ _ _
   | exact LeO.none _
   | refine LeO.ite ?_ ?_
   | refine LeO.bind ?_ (fun _ => ?_)
theorem spec_l6Rd_of.calls (k : Nat) (g : Nat) (s0_0 : List Int) (s0_1 : Int) (A1 : Option Addr) (c1 : Nat) (l1 : List ByteArray) (r1 : ByteArray) (r2 : Int) (w0 w : World) (hI : IsS85 w0 w g s0_0 s0_1) (hB : Below w0.heap.size w0 w) (hr1 : Kd.C Kd.string w A1 l1.length l1) (hc1 : l1.length ≤ c1) (hf1 : ∀ ad, A1 = some ad → 0 < l1.length → ad.block ≠ g) (h : spec_l6Rd_of.f k s0_0 s0_1 l1 = some (r1, r2)) :
  Calls Tryd.prog 56 #[.pointer (some ⟨g,0,none⟩),.slice A1 l1.length c1] w fun e w'=>e = .returned (.string r1) ∧ IsS85 w0 w' g s0_0 r2 ∧ Below w0.heap.size w0 w' ∧ KeepBut w w' g none:=by
 have HR1:=m_ hr1
 have HC1:=m_ hc1
 clear hr1 hc1
 have HI0:=m_ hI
 have HK:=m_ (KeepBut.refl w g none)
 have HL:=m_ hB.size
 clear hI
 have HW0:=m_ hB.size
 have HB:=m_ hB
 clear hB
 have H : ((spec_l6Rd_pick.f k s0_0 s0_1 (l1.length : Int)).bind fun bt335=>(if 0 ≤ bt335.1 then (if bt335.1 < (l1.length : Int) then (some (rdOf ByteArray.empty l1 bt335.1,bt335.2)) else (none)) else (none))) = some (r1,r2):=h
 clear h
 replace H:=Option.bind_eq_some_iff.mp H
 obtain ⟨⟨t335,t336⟩,A30,H⟩:=H
 replace H : (if 0 ≤ t335 then (if t335 < (l1.length : Int) then (some (rdOf ByteArray.empty l1 t335,t336)) else (none)) else (none)) = some (r1,r2):=H
 have A3:=m_ A30
 clear A30
 by_cases c4 : 0 ≤ t335
 ·rw [if_pos c4] at H
  have c4b0 : decide (0 ≤ t335) = true:=decide_eq_true c4
  clear c4
  by_cases c5 : t335 < (l1.length : Int)
  ·rw [if_pos c5] at H
   have c5b0 : decide (t335 < (l1.length : Int)) = true:=decide_eq_true c5
   clear c5
   simp only [Option.some.injEq,Prod.mk.injEq] at H
   obtain ⟨rfl,rfl⟩:=H
   go_enter Tryd.func56,Tryd.ntmps56
   go_wp2_with (first|((with_reducible refine gate_callee (f:=53) rfl ?_);refine goesL_ (some 9) rfl rfl Tryd.func53 (by kernel_rfl) rfl #[.pointer (some ⟨g,0,none⟩),.int .i64 (l1.length : Int)] rfl lens ?_;(with_reducible refine (spec_l6Rd_pick.calls k g s0_0 s0_1 (l1.length : Int) t335 t336 w0 _ ?side1 ?side2 A3.out).mono ?_);(case side1=>repeat (first|(with_reducible first|exact HI0.out|apply IsS85.alloc|apply IsS85.drewN|apply IsS85.drew|apply IsS85.set_1)|exact HI0.out));(case side2=>repeat (first|(with_reducible first|exact HB.out|apply l1_|apply l2_|apply l3_|refine l4_ ?_ (IsS85.ge HI0.out))|exact HB.out));rintro e w6 ⟨rfl,hi,hb,hk⟩;refine ⟨_,rfl,?_⟩;have n0_:=m_ (KeepBut.trans (puK HK.out) hk (.inl rfl));have n1_:=m_ (hb);have n2_:=m_ (hi);revert n0_ n1_ n2_;clear HK HB HI0;intro HK HB HI0;(try clear hb);(try clear hb2);(try clear hk);(try clear hi);have p337 : 0 ≤ (t335 : Int):=of_decide_eq_true asm;have q337 : t335 < (l1.length : Int):=of_decide_eq_true asm;obtain ⟨ad337,e337,hx337_0⟩:=Kd.at_string HR1.out t335 p337 q337;cases e337;replace hx337_0:=keep_cell HK.out hx337_0 (by first|(rw [add_block];exact hf1 _ rfl (by omega))|exact hf1 _ rfl (by omega)|exact hf1 ad337 rfl (by omega));replace p337:=eq_true p337;replace q337:=eq_true q337))
   go_ret
   exact ⟨eqs,by repeat (first|(with_reducible first|exact HI0.out|apply IsS85.alloc|apply IsS85.drewN|apply IsS85.drew|apply IsS85.set_1)|exact HI0.out),puM HB.out (IsS85.ge HI0.out),puK HK.out⟩
  ·rw [if_neg c5] at H
   exact absurd H (by simp)
 ·rw [if_neg c4] at H
  exact absurd H (by simp)

end Go.Proofs.YtkcjmmhleepjeaaDoor.A
