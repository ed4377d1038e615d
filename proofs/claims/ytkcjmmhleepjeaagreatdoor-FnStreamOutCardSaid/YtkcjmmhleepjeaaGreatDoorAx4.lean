-- Printed by myprint.py (wip/tools) out of the translation. Not trusted: Lean checks it.
import Derived.Test.YtkcjmmhleepjeaaGreatDoorAx0
import Derived.Test.YtkcjmmhleepjeaaGreatDoorAx1
import Derived.Test.YtkcjmmhleepjeaaGreatDoorAx2
import Derived.Test.YtkcjmmhleepjeaaGreatDoorAx3
namespace Go.Proofs.YtkcjmmhleepjeaaGreatDoor.A
open Go.RowKit Go.Proofs.YtkcjmmhleepjeaaGreatDoorW.PrintWords Go.Proofs.YtkcjmmhleepjeaaGreatDoorW.PrintLast Go.Proofs.YtkcjmmhleepjeaaGreatDoorW.PrintMore
attribute [local go_sem] max2_int min2_int max_two min_two max_three min_three max_four min_four
set_option linter.unusedVariables false
set_option maxHeartbeats 8000000
set_option maxRecDepth 100000
set_option linter.unusedSimpArgs false

attribute [local go_sem high] eqA49
/-! ### spec_l71Map: function 41 -/
def spec_l71Map.l0 : Nat → List (S79) → Int → List Int → Int → Option ((List (S79)) × Int)
 | 0, _, _, _, _ => none
 | k + 1, x3, x4, x1000, x1001 => if x4 > 0 then ((spec_l6Rd_pick.f k x1000 x1001 3).bind fun bt135 => ((spec_l6Rd_pick.f k x1000 bt135.2 9).bind fun bt137 => ((spec_l3Out.f k x3 (wrap64 (1 + bt135.1)) (wrap64 (1 + bt137.1))).bind fun bt139 => (spec_l71Map.l0 k bt139.1 (wrap64 (x4 - 1)) x1000 bt137.2)))) else ((spec_l6Rd_pick.f k x1000 x1001 20).bind fun bt144 => (if bt144.1 = 0 then ((spec_l6Rd_pick.f k x1000 bt144.2 9).bind fun bt146 => ((spec_l71End.f k x1000 bt146.2).bind fun bt148 => (if x3.length < 5864062014805 then (some ((x3 ++ [(⟨wrap64 (10 + bt146.1), (⟨bt148.1, bt148.2.1⟩ : S49)⟩ : S79)]), bt148.2.2)) else (none)))) else (if bt144.1 = 1 then (if (x3.length : Int) > 0 then ((spec_l6Rd_pick.f k x1000 bt144.2 (x3.length : Int)).bind fun bt154 => ((spec_l71End.f k x1000 bt154.2).bind fun bt156 => (if 0 ≤ bt154.1 then (if bt154.1 < (x3.length : Int) then (some ((x3.set (bt154.1 : Int).toNat (⟨(rd_T79 x3 bt154.1).f0, (⟨bt156.1, bt156.2.1⟩ : S49)⟩ : S79)), bt156.2.2)) else (none)) else (none)))) else (some (x3, bt144.2))) else (if bt144.1 = 2 then (if (x3.length : Int) > 0 then (if 1 ≤ (x3.length : Int) then (some ((x3.drop (1 : Int).toNat), bt144.2)) else (none)) else (some (x3, bt144.2))) else (some (x3, bt144.2))))))
def spec_l71Map.f (k : Nat) (s0_0 : List Int) (s0_1 : Int) : Option ((List (S79)) × Int) := (spec_l6Rd_pick.f k s0_0 s0_1 10).bind fun bt133 => (spec_l71Map.l0 k (([] : List (S79))) bt133.1 s0_0 bt133.2)
theorem spec_l71Map.mono_l : ∀ k, (∀ y0 y1 y2 y3, LeO (spec_l71Map.l0 k y0 y1 y2 y3) (spec_l71Map.l0 (k + 1) y0 y1 y2 y3))
 | 0 => fun _ _ _ _ r h => by simp [spec_l71Map.l0] at h
 | k + 1 => by
  have ih0:=spec_l71Map.mono_l k
  ·intro y0 y1 y2 y3
   unfold spec_l71Map.l0
   exact leo4 ih0 spec_l3Out.mono spec_l6Rd_pick.mono spec_l71End.mono
theorem spec_l71Map.mono : ∀ a0 a1 k, LeO (spec_l71Map.f k a0 a1) (spec_l71Map.f (k + 1) a0 a1) := by
 intro a0 a1 k
 have ih0:=spec_l71Map.mono_l k
 unfold spec_l71Map.f
 exact leo4 ih0 spec_l3Out.mono spec_l6Rd_pick.mono spec_l71End.mono
theorem spec_l71Map.calls (k : Nat) (g : Nat) (s0_0 : List Int) (s0_1 : Int) (r1 : List (S79)) (r2 : Int) (w0 w : World) (hI : IsS56 w0 w g s0_0 s0_1) (hB : Below w0.heap.size w0 w) (h : spec_l71Map.f k s0_0 s0_1 = some (r1, r2)) :
  Calls Tryz.prog 41 #[.pointer (some ⟨g,0,none⟩)] w fun e w'=>∃ v0_ : Value,e = .returned (v0_) ∧ Kd.Q k79 79 w' w.heap.size (fun _=>True) v0_ r1 ∧ IsS56 w0 w' g s0_0 r2 ∧ Below w0.heap.size w0 w' ∧ KeepBut w w' g none:=by
 have hu49:=Tryz.underlying49
 have hu79:=Tryz.underlying79
 have HI0:=m_ hI
 have HK:=m_ (KeepBut.refl w g none)
 have HL:=m_ hB.size
 clear hI
 have HW0:=m_ hB.size
 have HB:=m_ hB
 clear hB
 have H : ((spec_l6Rd_pick.f k s0_0 s0_1 10).bind fun bt133=>(spec_l71Map.l0 k (([] : List (S79))) bt133.1 s0_0 bt133.2)) = some (r1,r2):=h
 clear h
 obtain ⟨y130,hy130⟩ : ∃ y_ : List (S79),y_ = (([] : List (S79))):=⟨_,rfl⟩
 replace H : ((spec_l6Rd_pick.f k s0_0 s0_1 10).bind fun bt133=>(spec_l71Map.l0 k y130 bt133.1 s0_0 bt133.2)) = some (r1,r2):=by first|(rw [hy130];with_reducible exact H)|(have H2_:=(Option.bind_some _ _).symm.trans H;rw [hy130];with_reducible exact H2_)|(have H2_:=(Option.bind_some _ _).symm.trans H;with_reducible exact H2_)|with_reducible exact H|(rw [hy130];exact H)|exact H
 have Ny130:=m_ hy130
 clear hy130
 replace H:=Option.bind_eq_some_iff.mp H
 obtain ⟨⟨t133,t134⟩,A20,H⟩:=H
 replace H : (spec_l71Map.l0 k y130 t133 s0_0 t134) = some (r1,r2):=H
 have A2:=m_ A20
 clear A20
 have H':=m_ H
 clear H
 go_enter Tryz.func41,Tryz.ntmps41
 go_wp2_with (first|((with_reducible refine gate_dst (N:=5) rfl ?_);refine Kd.R_lit k79 _ 79 ?hg (N:=5) ?hd (xs:=([] : List (S79))) (inner:=[]) (ok:=fun _=>True) (okp:=fun _=>True) ?hr ?hp (fun _ hk=>hk) trivial (Below.refl _ _) (Nat.le_refl _) (by simp) ?_;(case hd=>rfl);(case hg=>rfl);(case hr=>first|(go_simp;done)|(go_simp;rfl));(case hp=>exact (Reps.none _ _));intro v131 w3 ho4 hb hg_ hnew_;clear hg_ hnew_;(first|rw [← Ny130.out] at ho4|(simp only [Int.reduceToNat] at ho4;rw [← Ny130.out] at ho4));have n0_:=m_ (Kd.R_lower ho4 (keep_size (w:=w) (g:=g) (row:=none) (puK HK.out)));have n1_:=m_ (IsS56.below (by repeat (first|(with_reducible first|exact HI0.out|apply IsS56.alloc|apply IsS56.drewN|apply IsS56.drew|apply IsS56.set_1)|exact HI0.out)) hb);have n2_:=m_ (KeepBut.trans (puK HK.out) (KeepBut.of_below hb g none) (.inl rfl));have n3_:=m_ (l5_ (puM HB.out (IsS56.ge HI0.out)) hb);revert n0_ n1_ n2_ n3_;clear HI0 HK HB;intro HO132 HI0 HK HB;clear hb ho4)|((with_reducible refine gate_callee (f:=24) rfl ?_);refine goesL_ (some 7) rfl rfl Tryz.func24 (by kernel_rfl) rfl #[.pointer (some ⟨g,0,none⟩),.int .i64 10] rfl lens ?_;(with_reducible refine (spec_l6Rd_pick.calls k g s0_0 s0_1 10 t133 t134 w0 _ ?side1 ?side2 A2.out).mono ?_);(case side1=>repeat (first|(with_reducible first|exact HI0.out|apply IsS56.alloc|apply IsS56.drewN|apply IsS56.drew|apply IsS56.set_1)|exact HI0.out));(case side2=>exact puM HB.out (IsS56.ge HI0.out));rintro e w5 ⟨rfl,hi,hb,hk⟩;refine ⟨_,rfl,?_⟩;have n0_:=m_ (Kd.R_mono (Kd.R_keep (IsS56.apart (show IsS56 w0 _ g s0_0 s0_1 from by repeat (first|(with_reducible first|exact HI0.out|apply IsS56.alloc|apply IsS56.drewN|apply IsS56.drew|apply IsS56.set_1)|exact HI0.out)) (puR HO132.out) (by decide)) hk (fun _ h=>h.2)) (fun _ h=>h.1));have n1_:=m_ (KeepBut.trans (puK HK.out) hk (.inl rfl));have n2_:=m_ (hb);have n3_:=m_ (hi);revert n0_ n1_ n2_ n3_;clear HO132 HK HB HI0;intro HO132 HK HB HI0;(try clear hb);(try clear hb2);(try clear hk);(try clear hi)))
 go_loopg [3,4] k (fun kq v3 v4 w'=>∃ (x3_1 : List (S79)) (x4_1 : Int) (x1001_1 : Int),v4 = .int .i64 x4_1 ∧ Aside0 (spec_l71Map.l0 kq x3_1 x4_1 s0_0 x1001_1 = some (r1,r2)) ∧ Aside0 (kq ≤ k) ∧ Aside0 (Kd.Q k79 79 w' w.heap.size (fun _=>True) v3 x3_1) ∧ Aside0 (IsS56 w0 w' g s0_0 x1001_1) ∧ Aside0 (KeepBut w w' g none) ∧ Aside0 (Below w0.heap.size w0 w'))
 case atStart=>exact ⟨(y130),(t133),(t134),(by first|rfl|(simp;done)|(simp [*];done)),H',⟨Nat.le_refl _⟩,⟨Kd.Q_of_R (puR HO132.out)⟩,⟨by repeat (first|(with_reducible first|exact HI0.out|apply IsS56.alloc|apply IsS56.drewN|apply IsS56.drew|apply IsS56.set_1)|exact HI0.out)⟩,⟨puK HK.out⟩,⟨puM HB.out (IsS56.ge HI0.out)⟩⟩
 case round =>
  clear H'
  try clear c2
  try clear p2
  try clear c4
  obtain ⟨x3_1,x4_1,x1001_1,rfl,HA,HK1,HO_3,HI0,HK,HB⟩:=hrel
  cases gk with
  | zero => exact absurd HA.out (by simp [spec_l71Map.l0])
  | succ k1 =>
   have H:=HA.out
   clear HA
   simp only [spec_l71Map.l0] at H
   by_cases c6 : x4_1 > 0
   ·rw [if_pos c6] at H
    have c6b0 : decide (0 < x4_1) = true:=decide_eq_true c6
    clear c6
    replace H:=Option.bind_eq_some_iff.mp H
    obtain ⟨⟨t135,t136⟩,A70,H⟩:=H
    replace H : ((spec_l6Rd_pick.f k1 s0_0 t136 9).bind fun bt137=>((spec_l3Out.f k1 x3_1 (wrap64 (1 + t135)) (wrap64 (1 + bt137.1))).bind fun bt139=>(spec_l71Map.l0 k1 bt139.1 (wrap64 (x4_1 - 1)) s0_0 bt137.2))) = some (r1,r2):=H
    have A7:=m_ A70
    clear A70
    replace H:=Option.bind_eq_some_iff.mp H
    obtain ⟨⟨t137,t138⟩,A80,H⟩:=H
    replace H : ((spec_l3Out.f k1 x3_1 (wrap64 (1 + t135)) (wrap64 (1 + t137))).bind fun bt139=>(spec_l71Map.l0 k1 bt139.1 (wrap64 (x4_1 - 1)) s0_0 t138)) = some (r1,r2):=H
    have A8:=m_ A80
    clear A80
    replace H:=Option.bind_eq_some_iff.mp H
    obtain ⟨⟨t139,t142,t143⟩,A90,H⟩:=H
    replace H : (spec_l71Map.l0 k1 t139 (wrap64 (x4_1 - 1)) s0_0 t138) = some (r1,r2):=H
    have A9:=m_ A90
    clear A90
    have H':=m_ H
    clear H
    go_wp2_with (first|((with_reducible refine gate_callee (f:=24) rfl ?_);refine goesL_ (some 15) rfl rfl Tryz.func24 (by kernel_rfl) rfl #[.pointer (some ⟨g,0,none⟩),.int .i64 3] rfl lens ?_;(with_reducible refine (spec_l6Rd_pick.calls k1 g s0_0 x1001_1 3 t135 t136 w0 _ ?side1 ?side2 A7.out).mono ?_);(case side1=>repeat (first|(with_reducible first|exact HI0.out|apply IsS56.alloc|apply IsS56.drewN|apply IsS56.drew|apply IsS56.set_1)|exact HI0.out));(case side2=>exact puM HB.out (IsS56.ge HI0.out));rintro e w10 ⟨rfl,hi,hb,hk⟩;refine ⟨_,rfl,?_⟩;have n0_:=m_ (Kd.Q_mono (Kd.Q_keep (IsS56.apartQ (show IsS56 w0 _ g s0_0 x1001_1 from by repeat (first|(with_reducible first|exact HI0.out|apply IsS56.alloc|apply IsS56.drewN|apply IsS56.drew|apply IsS56.set_1)|exact HI0.out)) (puQ HO_3.out) (by decide)) hk (fun _ h=>h.2)) (fun _ h=>h.1));have n1_:=m_ (KeepBut.trans (puK HK.out) hk (.inl rfl));have n2_:=m_ (hb);have n3_:=m_ (hi);revert n0_ n1_ n2_ n3_;clear HO_3 HK HB HI0;intro HO_3 HK HB HI0;(try clear hb);(try clear hb2);(try clear hk);(try clear hi))|((with_reducible refine gate_callee (f:=24) rfl ?_);refine goesL_ (some 18) rfl rfl Tryz.func24 (by kernel_rfl) rfl #[.pointer (some ⟨g,0,none⟩),.int .i64 9] rfl lens ?_;(with_reducible refine (spec_l6Rd_pick.calls k1 g s0_0 t136 9 t137 t138 w0 _ ?side1 ?side2 A8.out).mono ?_);(case side1=>repeat (first|(with_reducible first|exact HI0.out|apply IsS56.alloc|apply IsS56.drewN|apply IsS56.drew|apply IsS56.set_1)|exact HI0.out));(case side2=>exact puM HB.out (IsS56.ge HI0.out));rintro e w11 ⟨rfl,hi,hb,hk⟩;refine ⟨_,rfl,?_⟩;have n0_:=m_ (Kd.Q_mono (Kd.Q_keep (IsS56.apartQ (show IsS56 w0 _ g s0_0 t136 from by repeat (first|(with_reducible first|exact HI0.out|apply IsS56.alloc|apply IsS56.drewN|apply IsS56.drew|apply IsS56.set_1)|exact HI0.out)) (puQ HO_3.out) (by decide)) hk (fun _ h=>h.2)) (fun _ h=>h.1));have n1_:=m_ (KeepBut.trans (puK HK.out) hk (.inl rfl));have n2_:=m_ (hb);have n3_:=m_ (hi);revert n0_ n1_ n2_ n3_;clear HO_3 HK HB HI0;intro HO_3 HK HB HI0;(try clear hb);(try clear hb2);(try clear hk);(try clear hi);obtain ⟨Ao12,co12,eo12,_⟩:=Kd.Q_slice HO_3.out;subst eo12)|((with_reducible refine gate_callee (f:=54) rfl ?_);refine goesL_ (some 21) rfl rfl Tryz.func54 (by kernel_rfl) rfl #[.slice Ao12 x3_1.length co12,.agg #[.int .i64 (wrap64 (1 + t135)),.int .i64 (wrap64 (1 + t137))]] rfl lens ?_;(with_reducible refine (spec_l3Out.calls k1 (fun k_=>some k_ = (.slice Ao12 x3_1.length co12 : Value).ownBlock) (.slice Ao12 x3_1.length co12) x3_1 (wrap64 (1 + t135)) (wrap64 (1 + t137)) t139 t142 t143 w0 _ ?side1 ?side2 A9.out).mono ?_);(case side1=>exact puM HB.out (IsS56.ge HI0.out));(case side2=>exact Kd.Q_lower (Kd.Q_tight rfl HO_3.out) HL.out);rintro e w13 ⟨v140,rfl,ho0,hb,hkp⟩;refine ⟨_,rfl,?_⟩;have n0_:=m_ (IsS56.kept (by repeat (first|(with_reducible first|exact HI0.out|apply IsS56.alloc|apply IsS56.drewN|apply IsS56.drew|apply IsS56.set_1)|exact HI0.out)) hkp (fun hs_=>(fun e_=>(IsS56.own_neQ HI0.out HO_3.out (by decide)) e_) hs_));have n1_:=m_ (Kd.Q_mono (ok':=fun k_=>True) (Kd.Q_raise (d:=k79) (b:=w0.heap.size) (b':=w.heap.size) (fun _ _ _ _ h_=>h_) ho0 (fun k_ e_=>Or.elim (ho0.1 k_ e_) (fun hs_=>(fun e_=>Kd.Q_base HO_3.out k_ e_.symm) hs_) (fun hn_=>Nat.le_trans (keep_size (w:=w) (g:=g) (row:=none) (puK HK.out)) hn_))) (fun k_ hk_=>trivial));have n2_:=m_ (Kept.keepG (puK HK.out) hkp (fun k_ hs_=>(fun e_=>.inr (Kd.Q_base HO_3.out k_ e_.symm)) hs_));have n3_:=m_ (hb);revert n0_ n1_ n2_ n3_;clear HI0 HK HB HO_3;intro HI0 HO141 HK HB;(try clear hb);(try clear hkp);(try clear ho0)))
    go_roundg k1
    case measure=>have:=HK1.out;omega
    case rel=>exact ⟨(t139),(wrap64 (x4_1 - 1)),(t138),(by first|rfl|(simp;done)|(simp [*];done)),H',⟨by have:=HK1.out;omega⟩,⟨by (with_reducible repeat (first|apply Kd.Q_alloc|apply Kd.Q_drewN|apply Kd.Q_drew));exact HO141.out⟩,⟨by repeat (first|(with_reducible first|exact HI0.out|apply IsS56.alloc|apply IsS56.drewN|apply IsS56.drew|apply IsS56.set_1)|exact HI0.out)⟩,⟨puK HK.out⟩,⟨puM HB.out (IsS56.ge HI0.out)⟩⟩
   ·rw [if_neg c6] at H
    have c6b0 : decide (0 < x4_1) = false:=decide_eq_false c6
    clear c6
    replace H:=Option.bind_eq_some_iff.mp H
    obtain ⟨⟨t144,t145⟩,A140,H⟩:=H
    replace H : (if t144 = 0 then ((spec_l6Rd_pick.f k1 s0_0 t145 9).bind fun bt146=>((spec_l71End.f k1 s0_0 bt146.2).bind fun bt148=>(if x3_1.length < 5864062014805 then (some ((x3_1 ++ [(⟨wrap64 (10 + bt146.1),(⟨bt148.1,bt148.2.1⟩ : S49)⟩ : S79)]),bt148.2.2)) else (none)))) else (if t144 = 1 then (if (x3_1.length : Int) > 0 then ((spec_l6Rd_pick.f k1 s0_0 t145 (x3_1.length : Int)).bind fun bt154=>((spec_l71End.f k1 s0_0 bt154.2).bind fun bt156=>(if 0 ≤ bt154.1 then (if bt154.1 < (x3_1.length : Int) then (some ((x3_1.set (bt154.1 : Int).toNat (⟨(rd_T79 x3_1 bt154.1).f0,(⟨bt156.1,bt156.2.1⟩ : S49)⟩ : S79)),bt156.2.2)) else (none)) else (none)))) else (some (x3_1,t145))) else (if t144 = 2 then (if (x3_1.length : Int) > 0 then (if 1 ≤ (x3_1.length : Int) then (some ((x3_1.drop (1 : Int).toNat),t145)) else (none)) else (some (x3_1,t145))) else (some (x3_1,t145))))) = some (r1,r2):=H
    have A14:=m_ A140
    clear A140
    by_cases c15 : t144 = 0
    ·rw [if_pos c15] at H
     have c15b0 : (t144 == 0) = true:=beq_iff_eq.mpr c15
     have c15b1 : (t144 != 0) = false:=bne_eq_false_iff_eq.mpr c15
     clear c15
     replace H:=Option.bind_eq_some_iff.mp H
     obtain ⟨⟨t146,t147⟩,A160,H⟩:=H
     replace H : ((spec_l71End.f k1 s0_0 t147).bind fun bt148=>(if x3_1.length < 5864062014805 then (some ((x3_1 ++ [(⟨wrap64 (10 + t146),(⟨bt148.1,bt148.2.1⟩ : S49)⟩ : S79)]),bt148.2.2)) else (none))) = some (r1,r2):=H
     have A16:=m_ A160
     clear A160
     replace H:=Option.bind_eq_some_iff.mp H
     obtain ⟨⟨t148,t149,t150⟩,A170,H⟩:=H
     replace H : (if x3_1.length < 5864062014805 then (some ((x3_1 ++ [(⟨wrap64 (10 + t146),(⟨t148,t149⟩ : S49)⟩ : S79)]),t150)) else (none)) = some (r1,r2):=H
     have A17:=m_ A170
     clear A170
     by_cases c18 : x3_1.length < 5864062014805
     ·rw [if_pos c18] at H
      have LMc18:=m_ c18
      clear c18
      obtain ⟨y151,hy151⟩ : ∃ y_ : List (S79),y_ = (x3_1 ++ [(⟨wrap64 (10 + t146),(⟨t148,t149⟩ : S49)⟩ : S79)]):=⟨_,rfl⟩
      replace H : (some (y151,t150)) = some (r1,r2):=by first|(rw [hy151];with_reducible exact H)|(have H2_:=(Option.bind_some _ _).symm.trans H;rw [hy151];with_reducible exact H2_)|(have H2_:=(Option.bind_some _ _).symm.trans H;with_reducible exact H2_)|with_reducible exact H|(rw [hy151];exact H)|exact H
      have Ny151:=m_ hy151
      clear hy151
      simp only [Option.some.injEq,Prod.mk.injEq] at H
      obtain ⟨rfl,rfl⟩:=H
      go_wp2_with (first|((with_reducible refine gate_callee (f:=24) rfl ?_);refine goesL_ (some 26) rfl rfl Tryz.func24 (by kernel_rfl) rfl #[.pointer (some ⟨g,0,none⟩),.int .i64 20] rfl lens ?_;(with_reducible refine (spec_l6Rd_pick.calls k1 g s0_0 x1001_1 20 t144 t145 w0 _ ?side1 ?side2 A14.out).mono ?_);(case side1=>repeat (first|(with_reducible first|exact HI0.out|apply IsS56.alloc|apply IsS56.drewN|apply IsS56.drew|apply IsS56.set_1)|exact HI0.out));(case side2=>exact puM HB.out (IsS56.ge HI0.out));rintro e w19 ⟨rfl,hi,hb,hk⟩;refine ⟨_,rfl,?_⟩;have n0_:=m_ (Kd.Q_mono (Kd.Q_keep (IsS56.apartQ (show IsS56 w0 _ g s0_0 x1001_1 from by repeat (first|(with_reducible first|exact HI0.out|apply IsS56.alloc|apply IsS56.drewN|apply IsS56.drew|apply IsS56.set_1)|exact HI0.out)) (puQ HO_3.out) (by decide)) hk (fun _ h=>h.2)) (fun _ h=>h.1));have n1_:=m_ (KeepBut.trans (puK HK.out) hk (.inl rfl));have n2_:=m_ (hb);have n3_:=m_ (hi);revert n0_ n1_ n2_ n3_;clear HO_3 HK HB HI0;intro HO_3 HK HB HI0;(try clear hb);(try clear hb2);(try clear hk);(try clear hi))|((with_reducible refine gate_callee (f:=24) rfl ?_);refine goesL_ (some 31) rfl rfl Tryz.func24 (by kernel_rfl) rfl #[.pointer (some ⟨g,0,none⟩),.int .i64 9] rfl lens ?_;(with_reducible refine (spec_l6Rd_pick.calls k1 g s0_0 t145 9 t146 t147 w0 _ ?side1 ?side2 A16.out).mono ?_);(case side1=>repeat (first|(with_reducible first|exact HI0.out|apply IsS56.alloc|apply IsS56.drewN|apply IsS56.drew|apply IsS56.set_1)|exact HI0.out));(case side2=>exact puM HB.out (IsS56.ge HI0.out));rintro e w20 ⟨rfl,hi,hb,hk⟩;refine ⟨_,rfl,?_⟩;have n0_:=m_ (Kd.Q_mono (Kd.Q_keep (IsS56.apartQ (show IsS56 w0 _ g s0_0 t145 from by repeat (first|(with_reducible first|exact HI0.out|apply IsS56.alloc|apply IsS56.drewN|apply IsS56.drew|apply IsS56.set_1)|exact HI0.out)) (puQ HO_3.out) (by decide)) hk (fun _ h=>h.2)) (fun _ h=>h.1));have n1_:=m_ (KeepBut.trans (puK HK.out) hk (.inl rfl));have n2_:=m_ (hb);have n3_:=m_ (hi);revert n0_ n1_ n2_ n3_;clear HO_3 HK HB HI0;intro HO_3 HK HB HI0;(try clear hb);(try clear hb2);(try clear hk);(try clear hi))|((with_reducible refine gate_callee (f:=55) rfl ?_);refine goesL_ (some 34) rfl rfl Tryz.func55 (by kernel_rfl) rfl #[.pointer (some ⟨g,0,none⟩)] rfl lens ?_;(with_reducible refine (spec_l71End.calls k1 g s0_0 t147 t148 t149 t150 w0 _ ?side1 ?side2 A17.out).mono ?_);(case side1=>repeat (first|(with_reducible first|exact HI0.out|apply IsS56.alloc|apply IsS56.drewN|apply IsS56.drew|apply IsS56.set_1)|exact HI0.out));(case side2=>exact puM HB.out (IsS56.ge HI0.out));rintro e w21 ⟨rfl,hi,hb,hk⟩;refine ⟨_,rfl,?_⟩;have n0_:=m_ (Kd.Q_mono (Kd.Q_keep (IsS56.apartQ (show IsS56 w0 _ g s0_0 t147 from by repeat (first|(with_reducible first|exact HI0.out|apply IsS56.alloc|apply IsS56.drewN|apply IsS56.drew|apply IsS56.set_1)|exact HI0.out)) (puQ HO_3.out) (by decide)) hk (fun _ h=>h.2)) (fun _ h=>h.1));have n1_:=m_ (KeepBut.trans (puK HK.out) hk (.inl rfl));have n2_:=m_ (hb);have n3_:=m_ (hi);revert n0_ n1_ n2_ n3_;clear HO_3 HK HB HI0;intro HO_3 HK HB HI0;(try clear hb);(try clear hb2);(try clear hk);(try clear hi))|((with_reducible refine gate_builtin (b:=.append) (xs:=#[.tmp 29,.tmp 36]) rfl ?_);at_builtin;refine Kd.Q_append k79 w.heap.size rfl (.tmp 29) (.tmp 36) 42 79 (.agg #[(.int .i64 0),(.int .i64 0),(.int .i64 0)]) 24 rfl Tryz.underlying42 info79 rfl (by decide) (by omega) u3 x3_1 (⟨wrap64 (10 + t146),(⟨t148,t149⟩ : S49)⟩ : S79) [.int .i64 (wrap64 (10 + t146)),.int .i64 t148,.int .i64 t149] (fun _=>True) (fun _=>False) rfl rfl ?aP (fun _ hk=>hk.elim) ?aF ?aO (Below.refl _ _) ?aS ?aL ?_;(case aP=>exact k79_mkM _ _ _ (⟨wrap64 (10 + t146),(⟨t148,t149⟩ : S49)⟩ : S79));(case aF=>exact (fun _ _=>trivial));(case aO=>exact (puQ HO_3.out));(case aS=>exact (keep_size (w:=w) (g:=g) (row:=none) (puK HK.out)));(case aL=>have:=LMc18.out;omega);intro v152 w22 ho hb hg hat;rw [← Ny151.out] at ho;have n0_:=m_ (IsS56.grown (by repeat (first|(with_reducible first|exact HI0.out|apply IsS56.alloc|apply IsS56.drewN|apply IsS56.drew|apply IsS56.set_1)|exact HI0.out)) hg (IsS56.own_neQ HI0.out HO_3.out (by decide)));have n1_:=m_ (below_weaken (puM HB.out (IsS56.ge HI0.out)) HL.out hb);have n2_:=m_ (KeepBut.trans (puK HK.out) (KeepBut.of_grown hg g) (Kd.Q_base2 HO_3.out));have n3_:=m_ (ho);revert n0_ n1_ n2_ n3_;clear HI0 HB HK HO_3;intro HI0 HB HK HO153;clear ho hb hg hat))
      go_ret
      exact ⟨_,eqs,puQ HO153.out,by repeat (first|(with_reducible first|exact HI0.out|apply IsS56.alloc|apply IsS56.drewN|apply IsS56.drew|apply IsS56.set_1)|exact HI0.out),puM HB.out (IsS56.ge HI0.out),puK HK.out⟩
     ·rw [if_neg c18] at H
      exact absurd H (by simp)
    ·rw [if_neg c15] at H
     have c15b0 : (t144 == 0) = false:=beq_eq_false_iff_ne.mpr c15
     have c15b1 : (t144 != 0) = true:=bne_iff_ne.mpr c15
     by_cases c23 : t144 = 1
     ·rw [if_pos c23] at H
      have c23b0 : (t144 == 1) = true:=beq_iff_eq.mpr c23
      have c23b1 : (t144 != 1) = false:=bne_eq_false_iff_eq.mpr c23
      clear c23
      by_cases c24 : (x3_1.length : Int) > 0
      ·rw [if_pos c24] at H
       have c24b0 : decide (0 < (x3_1.length : Int)) = true:=decide_eq_true c24
       have c24b1 : decide (0 < x3_1.length) = true:=decide_eq_true (by omega)
       clear c24
       replace H:=Option.bind_eq_some_iff.mp H
       obtain ⟨⟨t154,t155⟩,A250,H⟩:=H
       replace H : ((spec_l71End.f k1 s0_0 t155).bind fun bt156=>(if 0 ≤ t154 then (if t154 < (x3_1.length : Int) then (some ((x3_1.set (t154 : Int).toNat (⟨(rd_T79 x3_1 t154).f0,(⟨bt156.1,bt156.2.1⟩ : S49)⟩ : S79)),bt156.2.2)) else (none)) else (none))) = some (r1,r2):=H
       have A25:=m_ A250
       clear A250
       replace H:=Option.bind_eq_some_iff.mp H
       obtain ⟨⟨t156,t157,t158⟩,A260,H⟩:=H
       replace H : (if 0 ≤ t154 then (if t154 < (x3_1.length : Int) then (some ((x3_1.set (t154 : Int).toNat (⟨(rd_T79 x3_1 t154).f0,(⟨t156,t157⟩ : S49)⟩ : S79)),t158)) else (none)) else (none)) = some (r1,r2):=H
       have A26:=m_ A260
       clear A260
       by_cases c27 : 0 ≤ t154
       rotate_left
       ·rw [if_neg c27] at H
        exact absurd H (by simp)
       rw [if_pos c27] at H
       have c27b0 : decide (0 ≤ t154) = true:=decide_eq_true c27
       clear c27
       by_cases c28 : t154 < (x3_1.length : Int)
       ·rw [if_pos c28] at H
        have c28b0 : decide (t154 < (x3_1.length : Int)) = true:=decide_eq_true c28
        clear c28
        obtain ⟨y159,hy159⟩ : ∃ y_ : List (S79),y_ = (x3_1.set (t154 : Int).toNat (⟨(rd_T79 x3_1 t154).f0,(⟨t156,t157⟩ : S49)⟩ : S79)):=⟨_,rfl⟩
        replace H : (some (y159,t158)) = some (r1,r2):=by first|(rw [hy159];with_reducible exact H)|(have H2_:=(Option.bind_some _ _).symm.trans H;rw [hy159];with_reducible exact H2_)|(have H2_:=(Option.bind_some _ _).symm.trans H;with_reducible exact H2_)|with_reducible exact H|(rw [hy159];exact H)|exact H
        have Ny159:=m_ hy159
        clear hy159
        simp only [Option.some.injEq,Prod.mk.injEq] at H
        obtain ⟨rfl,rfl⟩:=H
        go_wp2_with (first|((with_reducible refine gate_callee (f:=24) rfl ?_);refine goesL_ (some 26) rfl rfl Tryz.func24 (by kernel_rfl) rfl #[.pointer (some ⟨g,0,none⟩),.int .i64 20] rfl lens ?_;(with_reducible refine (spec_l6Rd_pick.calls k1 g s0_0 x1001_1 20 t144 t145 w0 _ ?side1 ?side2 A14.out).mono ?_);(case side1=>repeat (first|(with_reducible first|exact HI0.out|apply IsS56.alloc|apply IsS56.drewN|apply IsS56.drew|apply IsS56.set_1)|exact HI0.out));(case side2=>exact puM HB.out (IsS56.ge HI0.out));rintro e w30 ⟨rfl,hi,hb,hk⟩;refine ⟨_,rfl,?_⟩;have n0_:=m_ (Kd.Q_mono (Kd.Q_keep (IsS56.apartQ (show IsS56 w0 _ g s0_0 x1001_1 from by repeat (first|(with_reducible first|exact HI0.out|apply IsS56.alloc|apply IsS56.drewN|apply IsS56.drew|apply IsS56.set_1)|exact HI0.out)) (puQ HO_3.out) (by decide)) hk (fun _ h=>h.2)) (fun _ h=>h.1));have n1_:=m_ (KeepBut.trans (puK HK.out) hk (.inl rfl));have n2_:=m_ (hb);have n3_:=m_ (hi);revert n0_ n1_ n2_ n3_;clear HO_3 HK HB HI0;intro HO_3 HK HB HI0;(try clear hb);(try clear hb2);(try clear hk);(try clear hi);obtain ⟨Ao31,co31,eo31,_⟩:=Kd.Q_slice HO_3.out;subst eo31)|((with_reducible refine gate_callee (f:=24) rfl ?_);refine goesL_ (some 47) rfl rfl Tryz.func24 (by kernel_rfl) rfl #[.pointer (some ⟨g,0,none⟩),.int .i64 (x3_1.length : Int)] rfl lens ?_;(with_reducible refine (spec_l6Rd_pick.calls k1 g s0_0 t145 (x3_1.length : Int) t154 t155 w0 _ ?side1 ?side2 A25.out).mono ?_);(case side1=>repeat (first|(with_reducible first|exact HI0.out|apply IsS56.alloc|apply IsS56.drewN|apply IsS56.drew|apply IsS56.set_1)|exact HI0.out));(case side2=>exact puM HB.out (IsS56.ge HI0.out));rintro e w32 ⟨rfl,hi,hb,hk⟩;refine ⟨_,rfl,?_⟩;have n0_:=m_ (Kd.Q_mono (Kd.Q_keep (IsS56.apartQ (show IsS56 w0 _ g s0_0 t145 from by repeat (first|(with_reducible first|exact HI0.out|apply IsS56.alloc|apply IsS56.drewN|apply IsS56.drew|apply IsS56.set_1)|exact HI0.out)) (puQ HO_3.out) (by decide)) hk (fun _ h=>h.2)) (fun _ h=>h.1));have n1_:=m_ (KeepBut.trans (puK HK.out) hk (.inl rfl));have n2_:=m_ (hb);have n3_:=m_ (hi);revert n0_ n1_ n2_ n3_;clear HO_3 HK HB HI0;intro HO_3 HK HB HI0;(try clear hb);(try clear hb2);(try clear hk);(try clear hi))|((with_reducible refine gate_callee (f:=55) rfl ?_);refine goesL_ (some 49) rfl rfl Tryz.func55 (by kernel_rfl) rfl #[.pointer (some ⟨g,0,none⟩)] rfl lens ?_;(with_reducible refine (spec_l71End.calls k1 g s0_0 t155 t156 t157 t158 w0 _ ?side1 ?side2 A26.out).mono ?_);(case side1=>repeat (first|(with_reducible first|exact HI0.out|apply IsS56.alloc|apply IsS56.drewN|apply IsS56.drew|apply IsS56.set_1)|exact HI0.out));(case side2=>exact puM HB.out (IsS56.ge HI0.out));rintro e w33 ⟨rfl,hi,hb,hk⟩;refine ⟨_,rfl,?_⟩;have n0_:=m_ (Kd.Q_mono (Kd.Q_keep (IsS56.apartQ (show IsS56 w0 _ g s0_0 t155 from by repeat (first|(with_reducible first|exact HI0.out|apply IsS56.alloc|apply IsS56.drewN|apply IsS56.drew|apply IsS56.set_1)|exact HI0.out)) (puQ HO_3.out) (by decide)) hk (fun _ h=>h.2)) (fun _ h=>h.1));have n1_:=m_ (KeepBut.trans (puK HK.out) hk (.inl rfl));have n2_:=m_ (hb);have n3_:=m_ (hi);revert n0_ n1_ n2_ n3_;clear HO_3 HK HB HI0;intro HO_3 HK HB HI0;(try clear hb);(try clear hb2);(try clear hk);(try clear hi);have p29 : 0 ≤ (t154 : Int):=of_decide_eq_true asm;have q29 : (t154 : Int) < ((x3_1.length : Int) : Int):=of_decide_eq_true asm;obtain ⟨go29,oo29,co29,eo29,gb29,gl29,cl29,HG29⟩:=Kd.Q_form HO_3.out (by omega);(first|cases eo29|(injection eo29 with ea_ en_ ec_;(first|subst ea_|(injection ea_ with ea_;subst ea_));subst ec_;clear en_));have GB29:=m_ gb29;have GG29:=m_ HG29;clear gb29 gl29 HG29;obtain ⟨ce29,hcl29,hM29,hcc29,hfr29⟩:=Kd.Q_elem HO_3.out z79 (t154 : Int) p29 q29;obtain rfl:=k79_openM hM29;have hx29_0 : w33.cell? ⟨go29,oo29 + (t154 : Int).toNat * 3,none⟩ = some (.int .i64 ((rd_T79 x3_1 t154).f0)):=hcc29 0 _ rfl;have hx29_1 : w33.cell? ⟨go29,oo29 + (t154 : Int).toNat * 3 + 1,none⟩ = some (.int .i64 ((rd_T79 x3_1 t154).f1.f0)):=hcc29 1 _ rfl;have hx29_2 : w33.cell? ⟨go29,oo29 + (t154 : Int).toNat * 3 + 2,none⟩ = some (.int .i64 ((rd_T79 x3_1 t154).f1.f1)):=hcc29 2 _ rfl;have hf29_0 : w33.frozen? ⟨go29,oo29 + (t154 : Int).toNat * 3,none⟩ = false:=hfr29 0;have hf29_1 : w33.frozen? ⟨go29,oo29 + (t154 : Int).toNat * 3 + 1,none⟩ = false:=hfr29 1;have hf29_2 : w33.frozen? ⟨go29,oo29 + (t154 : Int).toNat * 3 + 2,none⟩ = false:=hfr29 2;clear hcl29 hcc29 hfr29 hM29;replace p29:=eq_true p29;replace q29:=eq_true q29;have HX34:=m_ (show Kd.Q k79 79 w33 w.heap.size (fun _=>True) (.slice (some ⟨go29,oo29,none⟩) x3_1.length co31) x3_1 from (puQ HO_3.out));obtain ⟨ce34,hcl34,hM34,hcc34,hfr34⟩:=Kd.Q_elem HX34.out z79 (t154 : Int) (of_decide_eq_true asm) (by have h_ : (t154 : Int) < ((x3_1.length : Int) : Int):=of_decide_eq_true asm;first|exact h_|(have e_:=(Kd.Q_reads' HO_3.out).1;omega)|simpa using h_);obtain rfl:=k79_openM hM34;have HP34:=Kd.Q_seg HX34.out (t154 : Int) (of_decide_eq_true asm) (by have h_ : (t154 : Int) < ((x3_1.length : Int) : Int):=of_decide_eq_true asm;first|exact h_|(have e_:=(Kd.Q_reads' HO_3.out).1;omega)|simpa using h_) (seg:=[.int .i64 t156,.int .i64 t157]) (j:=1) hcl34 hcc34 (show 3 ≤ 3 from by decide) (x':=(⟨(rd_T79 x3_1 t154).f0,(⟨t156,t157⟩ : S49)⟩ : S79)) (k79_mkM _ _ _ (⟨(rd_T79 x3_1 t154).f0,(⟨t156,t157⟩ : S49)⟩ : S79) ) (fun _ hk=>hk);have hx34_1:=hcc34 1 _ rfl;(try simp only [show (k79).sz = 3 from rfl,Nat.mul_one,Nat.add_zero] at hx34_1);have hf34_1:=hfr34 1;(try simp only [show (k79).sz = 3 from rfl,Nat.mul_one,Nat.add_zero] at hf34_1);have hx34_2:=hcc34 2 _ rfl;(try simp only [show (k79).sz = 3 from rfl,Nat.mul_one,Nat.add_zero] at hx34_2);have hf34_2:=hfr34 2;(try simp only [show (k79).sz = 3 from rfl,Nat.mul_one,Nat.add_zero] at hf34_2);clear hcl34 hcc34 hfr34 hM34)|((with_reducible refine gate_store (t:=49) (p:=51) rfl ?_);refine store_event (t:=49) (p:=51) (v:=?vo_w35) (w1:=((w33.setCell ⟨go29,oo29 + (t154 : Int).toNat * 3 + 1,none⟩ (.int .i64 t156)).setCell ⟨go29,oo29 + (t154 : Int).toNat * 3 + 2,none⟩ (.int .i64 t157))) ?hg ?ho ?hn ?hr ?_;(case ho=>rfl);(case hg=>rfl);(case hn=>rfl);(case hr=>first|(go_simp;done)|(go_simp;rfl));intro w35 hw;have hg : w33.grownBy w35 (some go29):=(by rw [hw];exact HP34.2);have hp_ : Kd.Q k79 79 w35 w.heap.size (fun _=>True) (.slice (some ⟨go29,oo29,none⟩) x3_1.length co31) y159:=(by rw [hw,Ny159.out];exact HP34.1);clear HP34;have n0_:=m_ (hp_);have n1_:=m_ (IsS56.grown (by repeat (first|(with_reducible first|exact HI0.out|apply IsS56.alloc|apply IsS56.drewN|apply IsS56.drew|apply IsS56.set_1)|exact HI0.out)) hg (IsS56.own_neQ HI0.out HO_3.out (by decide)));have n2_:=m_ ((by rw [hw];exact l4_ (l4_ (HB.out) (Nat.le_trans HL.out GB29.out)) (Nat.le_trans HL.out GB29.out) : Below w0.heap.size w0 w35));have n3_:=m_ (KeepBut.trans (puK HK.out) (KeepBut.of_grown hg g) (Kd.Q_base2 HO_3.out));revert n0_ n1_ n2_ n3_;clear HO_3 HI0 HB HK;intro HO_3 HI0 HB HK;clear hg hw hp_))
        go_ret
        exact ⟨_,eqs,puQ HO_3.out,by repeat (first|(with_reducible first|exact HI0.out|apply IsS56.alloc|apply IsS56.drewN|apply IsS56.drew|apply IsS56.set_1)|exact HI0.out),puM HB.out (IsS56.ge HI0.out),puK HK.out⟩
       ·rw [if_neg c28] at H
        exact absurd H (by simp)
      ·rw [if_neg c24] at H
       have c24b0 : decide (0 < (x3_1.length : Int)) = false:=decide_eq_false c24
       have c24b1 : decide (0 < x3_1.length) = false:=decide_eq_false (by omega)
       clear c24
       simp only [Option.some.injEq,Prod.mk.injEq] at H
       obtain ⟨rfl,rfl⟩:=H
       go_wp2_with (first|((with_reducible refine gate_callee (f:=24) rfl ?_);refine goesL_ (some 26) rfl rfl Tryz.func24 (by kernel_rfl) rfl #[.pointer (some ⟨g,0,none⟩),.int .i64 20] rfl lens ?_;(with_reducible refine (spec_l6Rd_pick.calls k1 g s0_0 x1001_1 20 t144 t145 w0 _ ?side1 ?side2 A14.out).mono ?_);(case side1=>repeat (first|(with_reducible first|exact HI0.out|apply IsS56.alloc|apply IsS56.drewN|apply IsS56.drew|apply IsS56.set_1)|exact HI0.out));(case side2=>exact puM HB.out (IsS56.ge HI0.out));rintro e w36 ⟨rfl,hi,hb,hk⟩;refine ⟨_,rfl,?_⟩;have n0_:=m_ (Kd.Q_mono (Kd.Q_keep (IsS56.apartQ (show IsS56 w0 _ g s0_0 x1001_1 from by repeat (first|(with_reducible first|exact HI0.out|apply IsS56.alloc|apply IsS56.drewN|apply IsS56.drew|apply IsS56.set_1)|exact HI0.out)) (puQ HO_3.out) (by decide)) hk (fun _ h=>h.2)) (fun _ h=>h.1));have n1_:=m_ (KeepBut.trans (puK HK.out) hk (.inl rfl));have n2_:=m_ (hb);have n3_:=m_ (hi);revert n0_ n1_ n2_ n3_;clear HO_3 HK HB HI0;intro HO_3 HK HB HI0;(try clear hb);(try clear hb2);(try clear hk);(try clear hi);obtain ⟨Ao37,co37,eo37,_⟩:=Kd.Q_slice HO_3.out;subst eo37))
       go_ret
       exact ⟨_,eqs,puQ HO_3.out,by repeat (first|(with_reducible first|exact HI0.out|apply IsS56.alloc|apply IsS56.drewN|apply IsS56.drew|apply IsS56.set_1)|exact HI0.out),puM HB.out (IsS56.ge HI0.out),puK HK.out⟩
     ·rw [if_neg c23] at H
      have c23b0 : (t144 == 1) = false:=beq_eq_false_iff_ne.mpr c23
      have c23b1 : (t144 != 1) = true:=bne_iff_ne.mpr c23
      by_cases c38 : t144 = 2
      ·rw [if_pos c38] at H
       have c38b0 : (t144 == 2) = true:=beq_iff_eq.mpr c38
       have c38b1 : (t144 != 2) = false:=bne_eq_false_iff_eq.mpr c38
       clear c38
       by_cases c39 : (x3_1.length : Int) > 0
       ·rw [if_pos c39] at H
        have c39b0 : decide (0 < (x3_1.length : Int)) = true:=decide_eq_true c39
        have c39b1 : decide (0 < x3_1.length) = true:=decide_eq_true (by omega)
        clear c39
        by_cases c40 : 1 ≤ (x3_1.length : Int)
        ·rw [if_pos c40] at H
         have c40b0:=eq_true c40
         have c40b1:=decide_eq_true c40
         clear c40
         obtain ⟨y160,hy160⟩ : ∃ y_ : List (S79),y_ = (x3_1.drop (1 : Int).toNat):=⟨_,rfl⟩
         replace H : (some (y160,t145)) = some (r1,r2):=by first|(rw [hy160];with_reducible exact H)|(have H2_:=(Option.bind_some _ _).symm.trans H;rw [hy160];with_reducible exact H2_)|(have H2_:=(Option.bind_some _ _).symm.trans H;with_reducible exact H2_)|with_reducible exact H|(rw [hy160];exact H)|exact H
         have Ny160:=m_ hy160
         clear hy160
         simp only [Option.some.injEq,Prod.mk.injEq] at H
         obtain ⟨rfl,rfl⟩:=H
         go_wp2_with (first|((with_reducible refine gate_callee (f:=24) rfl ?_);refine goesL_ (some 26) rfl rfl Tryz.func24 (by kernel_rfl) rfl #[.pointer (some ⟨g,0,none⟩),.int .i64 20] rfl lens ?_;(with_reducible refine (spec_l6Rd_pick.calls k1 g s0_0 x1001_1 20 t144 t145 w0 _ ?side1 ?side2 A14.out).mono ?_);(case side1=>repeat (first|(with_reducible first|exact HI0.out|apply IsS56.alloc|apply IsS56.drewN|apply IsS56.drew|apply IsS56.set_1)|exact HI0.out));(case side2=>exact puM HB.out (IsS56.ge HI0.out));rintro e w41 ⟨rfl,hi,hb,hk⟩;refine ⟨_,rfl,?_⟩;have n0_:=m_ (Kd.Q_mono (Kd.Q_keep (IsS56.apartQ (show IsS56 w0 _ g s0_0 x1001_1 from by repeat (first|(with_reducible first|exact HI0.out|apply IsS56.alloc|apply IsS56.drewN|apply IsS56.drew|apply IsS56.set_1)|exact HI0.out)) (puQ HO_3.out) (by decide)) hk (fun _ h=>h.2)) (fun _ h=>h.1));have n1_:=m_ (KeepBut.trans (puK HK.out) hk (.inl rfl));have n2_:=m_ (hb);have n3_:=m_ (hi);revert n0_ n1_ n2_ n3_;clear HO_3 HK HB HI0;intro HO_3 HK HB HI0;(try clear hb);(try clear hb2);(try clear hk);(try clear hi);obtain ⟨Ao42,co42,eo42,_⟩:=Kd.Q_slice HO_3.out;subst eo42;have q43 : (1 : Int) ≤ ((x3_1.length : Int) : Int):=of_decide_eq_true asm;obtain ⟨i043,hi043,_,hsz43,_⟩:=info_parts info79;have hcut43:=cut_from (P:=Tryz.prog) 42 79 .i64 Tryz.underlying42 hi043 3 hsz43 Ao42 x3_1.length co42 1 (by omega) q43;have hr43:=Kd.Q_drop (k:=(1 : Int).toNat) HO_3.out (by omega);obtain ⟨A43,hA43⟩ : ∃ A1,A1 = (if co42 = (1 : Int).toNat then Ao42 else (Ao42 : Option Addr).map (·.add ((1 : Int).toNat * 3))):=⟨_,rfl⟩;obtain ⟨c43,hc43⟩ : ∃ c1,c1 = co42 - (1 : Int).toNat:=⟨_,rfl⟩;have hy43 : y160.length = x3_1.length - (1 : Int).toNat:=(by rw [Ny160.out,List.length_drop]);rw [← Ny160.out] at hr43;rw [← hy43,← hA43,← hc43] at hcut43;replace hr43 : Kd.Q k79 79 w41 w.heap.size (fun _=>True) (.slice A43 y160.length c43) y160:=(by rw [hA43,hc43,hy43];exact hr43);have HE43 : Aside0 ((Value.slice A43 y160.length c43).ownBlock = (.slice Ao42 x3_1.length co42 : Value).ownBlock):=⟨by rw [hA43];split <;> (cases (Ao42 : Option Addr) <;> rfl)⟩;clear hy43 hi043 hsz43 HO_3 hA43 hc43;have HO162:=m_ hr43;clear hr43;replace q43:=eq_true q43))
         go_ret
         exact ⟨_,eqs,puQ HO162.out,by repeat (first|(with_reducible first|exact HI0.out|apply IsS56.alloc|apply IsS56.drewN|apply IsS56.drew|apply IsS56.set_1)|exact HI0.out),puM HB.out (IsS56.ge HI0.out),puK HK.out⟩
        ·rw [if_neg c40] at H
         exact absurd H (by simp)
       ·rw [if_neg c39] at H
        have c39b0 : decide (0 < (x3_1.length : Int)) = false:=decide_eq_false c39
        have c39b1 : decide (0 < x3_1.length) = false:=decide_eq_false (by omega)
        clear c39
        simp only [Option.some.injEq,Prod.mk.injEq] at H
        obtain ⟨rfl,rfl⟩:=H
        go_wp2_with (first|((with_reducible refine gate_callee (f:=24) rfl ?_);refine goesL_ (some 26) rfl rfl Tryz.func24 (by kernel_rfl) rfl #[.pointer (some ⟨g,0,none⟩),.int .i64 20] rfl lens ?_;(with_reducible refine (spec_l6Rd_pick.calls k1 g s0_0 x1001_1 20 t144 t145 w0 _ ?side1 ?side2 A14.out).mono ?_);(case side1=>repeat (first|(with_reducible first|exact HI0.out|apply IsS56.alloc|apply IsS56.drewN|apply IsS56.drew|apply IsS56.set_1)|exact HI0.out));(case side2=>exact puM HB.out (IsS56.ge HI0.out));rintro e w44 ⟨rfl,hi,hb,hk⟩;refine ⟨_,rfl,?_⟩;have n0_:=m_ (Kd.Q_mono (Kd.Q_keep (IsS56.apartQ (show IsS56 w0 _ g s0_0 x1001_1 from by repeat (first|(with_reducible first|exact HI0.out|apply IsS56.alloc|apply IsS56.drewN|apply IsS56.drew|apply IsS56.set_1)|exact HI0.out)) (puQ HO_3.out) (by decide)) hk (fun _ h=>h.2)) (fun _ h=>h.1));have n1_:=m_ (KeepBut.trans (puK HK.out) hk (.inl rfl));have n2_:=m_ (hb);have n3_:=m_ (hi);revert n0_ n1_ n2_ n3_;clear HO_3 HK HB HI0;intro HO_3 HK HB HI0;(try clear hb);(try clear hb2);(try clear hk);(try clear hi);obtain ⟨Ao45,co45,eo45,_⟩:=Kd.Q_slice HO_3.out;subst eo45))
        go_ret
        exact ⟨_,eqs,puQ HO_3.out,by repeat (first|(with_reducible first|exact HI0.out|apply IsS56.alloc|apply IsS56.drewN|apply IsS56.drew|apply IsS56.set_1)|exact HI0.out),puM HB.out (IsS56.ge HI0.out),puK HK.out⟩
      ·rw [if_neg c38] at H
       have c38b0 : (t144 == 2) = false:=beq_eq_false_iff_ne.mpr c38
       have c38b1 : (t144 != 2) = true:=bne_iff_ne.mpr c38
       simp only [Option.some.injEq,Prod.mk.injEq] at H
       obtain ⟨rfl,rfl⟩:=H
       go_wp2_with (first|((with_reducible refine gate_callee (f:=24) rfl ?_);refine goesL_ (some 26) rfl rfl Tryz.func24 (by kernel_rfl) rfl #[.pointer (some ⟨g,0,none⟩),.int .i64 20] rfl lens ?_;(with_reducible refine (spec_l6Rd_pick.calls k1 g s0_0 x1001_1 20 t144 t145 w0 _ ?side1 ?side2 A14.out).mono ?_);(case side1=>repeat (first|(with_reducible first|exact HI0.out|apply IsS56.alloc|apply IsS56.drewN|apply IsS56.drew|apply IsS56.set_1)|exact HI0.out));(case side2=>exact puM HB.out (IsS56.ge HI0.out));rintro e w46 ⟨rfl,hi,hb,hk⟩;refine ⟨_,rfl,?_⟩;have n0_:=m_ (Kd.Q_mono (Kd.Q_keep (IsS56.apartQ (show IsS56 w0 _ g s0_0 x1001_1 from by repeat (first|(with_reducible first|exact HI0.out|apply IsS56.alloc|apply IsS56.drewN|apply IsS56.drew|apply IsS56.set_1)|exact HI0.out)) (puQ HO_3.out) (by decide)) hk (fun _ h=>h.2)) (fun _ h=>h.1));have n1_:=m_ (KeepBut.trans (puK HK.out) hk (.inl rfl));have n2_:=m_ (hb);have n3_:=m_ (hi);revert n0_ n1_ n2_ n3_;clear HO_3 HK HB HI0;intro HO_3 HK HB HI0;(try clear hb);(try clear hb2);(try clear hk);(try clear hi)))
       go_ret
       exact ⟨_,eqs,puQ HO_3.out,by repeat (first|(with_reducible first|exact HI0.out|apply IsS56.alloc|apply IsS56.drewN|apply IsS56.drew|apply IsS56.set_1)|exact HI0.out),puM HB.out (IsS56.ge HI0.out),puK HK.out⟩

/-! ### spec_l6In: function 27 -/
def spec_l6In.f (a0 : Int) (a1 : Int) (a2 : Int) : Option (Bool) := if a0 ≥ a1 then (some (decide (a0 ≤ a2))) else (some false)
theorem spec_l6In.calls (a0 : Int) (a1 : Int) (a2 : Int) (r : Bool) (w : World) (h : spec_l6In.f a0 a1 a2 = some r) :
  Calls Tryz.prog 27 #[.int .i64 a0,.int .i64 a1,.int .i64 a2] w fun e w'=>e = .returned (.bool r) ∧ Drawn0 w w':=by
 have H : (if a0 ≥ a1 then (some (decide (a0 ≤ a2))) else (some false)) = some r:=h
 clear h
 by_cases c4 : a0 ≥ a1
 ·rw [if_pos c4] at H
  have c4b0 : decide (a1 ≤ a0) = true:=decide_eq_true c4
  clear c4
  obtain rfl:=Option.some.inj H
  go_enter Tryz.func27,Tryz.ntmps27
  go_wp2
  go_ret
  exact ⟨by first|rfl|(simp;done)|(simp [*];done),drn⟩
 ·rw [if_neg c4] at H
  have c4b0 : decide (a1 ≤ a0) = false:=decide_eq_false c4
  clear c4
  obtain rfl:=Option.some.inj H
  go_enter Tryz.func27,Tryz.ntmps27
  go_wp2
  go_ret
  exact ⟨by first|rfl|(simp;done)|(simp [*];done),drn⟩

/-! ### spec_l1Host: function 67 -/
def spec_l1Host.f (a0_0 : Int) (a0_1 : Int) : Option (Bool) := (spec_l6In.f a0_1 1 9).bind fun t164 => (some t164)
theorem spec_l1Host.calls (a0_0 : Int) (a0_1 : Int) (r : Bool) (w : World) (h : spec_l1Host.f a0_0 a0_1 = some r) :
  Calls Tryz.prog 67 #[.agg #[.int .i64 a0_0,.int .i64 a0_1]] w fun e w'=>e = .returned (.bool r) ∧ Below w.heap.size w w':=by
 have hu49:=Tryz.underlying49
 have HB:=m_ (Below.refl w.heap.size w)
 have H : ((spec_l6In.f a0_1 1 9).bind fun t164=>(some t164)) = some r:=h
 clear h
 replace H:=Option.bind_eq_some_iff.mp H
 obtain ⟨t164,A20,H⟩:=H
 have A2:=m_ A20
 clear A20
 obtain rfl:=Option.some.inj H
 go_enter Tryz.func67,Tryz.ntmps67
 go_wp2_with (first|((with_reducible refine gate_dst (N:=1) rfl ?_);refine box_event ?hg (N:=1) ?hd (cs:=#[.int .i64 a0_0,.int .i64 a0_1]) (t:=49) ?hr ?_;(case hd=>rfl);(case hg=>rfl);(case hr=>first|(go_simp;done)|(go_simp;rfl));intro gb163 hg w3 hbox hb;have n0_:=m_ (l5_ (puL HB.out) hb);have n1_:=m_ (hbox);have n2_:=m_ ((by rw [hg];exact (l6_ (puL HB.out)) : w.heap.size ≤ gb163));have n3_:=m_ ((by rw [hg];exact (l6_ (puL HB.out)) : w.heap.size ≤ gb163));revert n0_ n1_ n2_ n3_;clear HB;intro HB BK163 GW163 GE163;clear hb hbox hg;have hcz4_0 : w3.cell? ⟨gb163,0,none⟩ = some (.int .i64 a0_0):=(c_ BK163.out 0).trans rfl;have hcz4_1 : w3.cell? ⟨gb163,1,none⟩ = some (.int .i64 a0_1):=(c_ BK163.out 1).trans rfl)|((with_reducible refine gate_callee (f:=27) rfl ?_);refine goesL_ (some 5) rfl rfl Tryz.func27 (by kernel_rfl) rfl #[.int .i64 a0_1,.int .i64 1,.int .i64 9] rfl lens ?_;(with_reducible refine (spec_l6In.calls a0_1 1 9 t164 _ A2.out).mono ?_);rintro e w' ⟨rfl,⟨nd,rfl⟩⟩;refine ⟨_,rfl,?_⟩))
 go_ret
 exact ⟨eqs,puM HB.out GE163.out⟩

/-! ### spec_EndInside: function 56 -/
def spec_EndInside.f (a0_0 : Int) (a0_1 : Int) : Option (Bool) := (spec_l6In.f a0_0 1 3).bind fun t166 => (if t166 = true then ((spec_l1Host.f a0_0 a0_1).bind fun t167 => (some t167)) else (some false))
theorem spec_EndInside.calls (a0_0 : Int) (a0_1 : Int) (r : Bool) (w : World) (h : spec_EndInside.f a0_0 a0_1 = some r) :
  Calls Tryz.prog 56 #[.agg #[.int .i64 a0_0,.int .i64 a0_1]] w fun e w'=>e = .returned (.bool r) ∧ Below w.heap.size w w':=by
 have hu49:=Tryz.underlying49
 have HB:=m_ (Below.refl w.heap.size w)
 have H : ((spec_l6In.f a0_0 1 3).bind fun t166=>(if t166 = true then ((spec_l1Host.f a0_0 a0_1).bind fun t167=>(some t167)) else (some false))) = some r:=h
 clear h
 replace H:=Option.bind_eq_some_iff.mp H
 obtain ⟨t166,A20,H⟩:=H
 have A2:=m_ A20
 clear A20
 by_cases c3 : t166 = true
 ·subst c3
  replace H:=ifp H rfl
  replace H:=Option.bind_eq_some_iff.mp H
  obtain ⟨t167,A40,H⟩:=H
  have A4:=m_ A40
  clear A40
  obtain rfl:=Option.some.inj H
  go_enter Tryz.func56,Tryz.ntmps56
  go_wp2_with (first|((with_reducible refine gate_dst (N:=1) rfl ?_);refine box_event ?hg (N:=1) ?hd (cs:=#[.int .i64 a0_0,.int .i64 a0_1]) (t:=49) ?hr ?_;(case hd=>rfl);(case hg=>rfl);(case hr=>first|(go_simp;done)|(go_simp;rfl));intro gb165 hg w5 hbox hb;have n0_:=m_ (l5_ (puL HB.out) hb);have n1_:=m_ (hbox);have n2_:=m_ ((by rw [hg];exact (l6_ (puL HB.out)) : w.heap.size ≤ gb165));have n3_:=m_ ((by rw [hg];exact (l6_ (puL HB.out)) : w.heap.size ≤ gb165));revert n0_ n1_ n2_ n3_;clear HB;intro HB BK165 GW165 GE165;clear hb hbox hg;have hcz6_0 : w5.cell? ⟨gb165,0,none⟩ = some (.int .i64 a0_0):=(c_ BK165.out 0).trans rfl;have hcz6_1 : w5.cell? ⟨gb165,1,none⟩ = some (.int .i64 a0_1):=(c_ BK165.out 1).trans rfl)|((with_reducible refine gate_callee (f:=27) rfl ?_);refine goesL_ (some 5) rfl rfl Tryz.func27 (by kernel_rfl) rfl #[.int .i64 a0_0,.int .i64 1,.int .i64 3] rfl lens ?_;(with_reducible refine (spec_l6In.calls a0_0 1 3 true _ A2.out).mono ?_);rintro e w' ⟨rfl,⟨nd,rfl⟩⟩;refine ⟨_,rfl,?_⟩)|(go_at_call 67;(with_reducible refine (spec_l1Host.calls a0_0 a0_1 t167 _ A4.out).mono ?_);rintro e w7 ⟨rfl,hb⟩;have n0_:=m_ (blk_below (g:=gb165) (o:=.cells #[.int .i64 a0_0,.int .i64 a0_1] 49 (0,0)) (puB BK165.out) hb);have n1_:=m_ (l5_ (puM HB.out GE165.out) hb);revert n0_ n1_;clear BK165 HB;intro BK165 HB;(try clear hb);(try clear hb2);(try clear hk);(try clear hi)))
  go_ret
  exact ⟨eqs,puM HB.out GE165.out⟩
 ·replace c3:=Bool.eq_false_iff.mpr c3
  subst c3
  replace H:=ifn H
  obtain rfl:=Option.some.inj H
  go_enter Tryz.func56,Tryz.ntmps56
  go_wp2_with (first|((with_reducible refine gate_dst (N:=1) rfl ?_);refine box_event ?hg (N:=1) ?hd (cs:=#[.int .i64 a0_0,.int .i64 a0_1]) (t:=49) ?hr ?_;(case hd=>rfl);(case hg=>rfl);(case hr=>first|(go_simp;done)|(go_simp;rfl));intro gb165 hg w8 hbox hb;have n0_:=m_ (l5_ (puL HB.out) hb);have n1_:=m_ (hbox);have n2_:=m_ ((by rw [hg];exact (l6_ (puL HB.out)) : w.heap.size ≤ gb165));have n3_:=m_ ((by rw [hg];exact (l6_ (puL HB.out)) : w.heap.size ≤ gb165));revert n0_ n1_ n2_ n3_;clear HB;intro HB BK165 GW165 GE165;clear hb hbox hg;have hcz9_0 : w8.cell? ⟨gb165,0,none⟩ = some (.int .i64 a0_0):=(c_ BK165.out 0).trans rfl;have hcz9_1 : w8.cell? ⟨gb165,1,none⟩ = some (.int .i64 a0_1):=(c_ BK165.out 1).trans rfl)|((with_reducible refine gate_callee (f:=27) rfl ?_);refine goesL_ (some 5) rfl rfl Tryz.func27 (by kernel_rfl) rfl #[.int .i64 a0_0,.int .i64 1,.int .i64 3] rfl lens ?_;(with_reducible refine (spec_l6In.calls a0_0 1 3 false _ A2.out).mono ?_);rintro e w' ⟨rfl,⟨nd,rfl⟩⟩;refine ⟨_,rfl,?_⟩))
  go_ret
  exact ⟨eqs,puM HB.out GE165.out⟩

/-! ### spec_MapOk: function 42 -/
mutual
def spec_MapOk.l0 : Nat → List (S79) → Int → Option (Bool)
 | 0, _, _ => none
 | k + 1, x0, x3 => if x3 < (x0.length : Int) then (if 0 ≤ x3 then (if ((rd_T79 x0 x3).f0) = (wrap64 (10 + x3)) then ((spec_EndInside.f ((rd_T79 x0 x3).f1.f0) ((rd_T79 x0 x3).f1.f1)).bind fun t170 => (spec_MapOk.j1 k x0 x3 (!t170))) else (spec_MapOk.j1 k x0 x3 true)) else (none)) else (some (decide ((x0.length : Int) ≤ 8)))
def spec_MapOk.j1 : Nat → List (S79) → Int → Bool → Option (Bool)
 | 0, _, _, _ => none
 | k + 1, x0, x3, x27 => if x27 = true then (some false) else (spec_MapOk.l1 k x0 x3 0)
def spec_MapOk.l1 : Nat → List (S79) → Int → Int → Option (Bool)
 | 0, _, _, _ => none
 | k + 1, x0, x3, x4 => if x4 < x3 then (if 0 ≤ x4 then (if x4 < (x0.length : Int) then (if 0 ≤ x3 then (if x3 < (x0.length : Int) then (if (((rd_T79 x0 x4).f1.f0) == ((rd_T79 x0 x3).f1.f0) && (((rd_T79 x0 x4).f1.f1) == ((rd_T79 x0 x3).f1.f1))) = true then (some false) else (spec_MapOk.l1 k x0 x3 (wrap64 (x4 + 1)))) else (none)) else (none)) else (none)) else (none)) else (spec_MapOk.l0 k x0 (wrap64 (x3 + 1)))
end
def spec_MapOk.f (k : Nat) (l0 : List (S79)) : Option (Bool) := spec_MapOk.l0 k l0 0
theorem spec_MapOk.mono_l : ∀ k, (∀ y0 y1, LeO (spec_MapOk.l0 k y0 y1) (spec_MapOk.l0 (k + 1) y0 y1)) ∧ (∀ y0 y1 y2, LeO (spec_MapOk.j1 k y0 y1 y2) (spec_MapOk.j1 (k + 1) y0 y1 y2)) ∧ (∀ y0 y1 y2, LeO (spec_MapOk.l1 k y0 y1 y2) (spec_MapOk.l1 (k + 1) y0 y1 y2))
 | 0 => ⟨fun _ _ r h => by simp [spec_MapOk.l0] at h, fun _ _ _ r h => by simp [spec_MapOk.j1] at h, fun _ _ _ r h => by simp [spec_MapOk.l1] at h⟩
 | k + 1 => by
  obtain ⟨ih0,ih1,ih2⟩:=spec_MapOk.mono_l k
  refine ⟨?_,?_,?_⟩
  ·intro y0 y1
   unfold spec_MapOk.l0
   exact leo3 ih0 ih1 ih2
  ·intro y0 y1 y2
   unfold spec_MapOk.j1
   exact leo3 ih0 ih1 ih2
  ·intro y0 y1 y2
   unfold spec_MapOk.l1
   exact leo3 ih0 ih1 ih2
theorem spec_MapOk.mono : ∀ a0 k, LeO (spec_MapOk.f k a0) (spec_MapOk.f (k + 1) a0) := by
 intro a0 k
 obtain ⟨ih0,ih1,ih2⟩:=spec_MapOk.mono_l k
 unfold spec_MapOk.f
 exact leo3 ih0 ih1 ih2
theorem spec_MapOk.calls (k : Nat) (A0 : Option Addr) (c0 : Nat) (l0 : List (S79)) (r : Bool) (w : World) (hr0 : Kd.C k79 w A0 l0.length l0) (hc0 : l0.length ≤ c0) (h : spec_MapOk.f k l0 = some r) :
  Calls Tryz.prog 42 #[.slice A0 l0.length c0] w fun e w'=>e = .returned (.bool r) ∧ Below w.heap.size w w':=by
 have hu49:=Tryz.underlying49
 have HR0:=m_ hr0
 have HC0:=m_ hc0
 clear hr0 hc0
 have HB:=m_ (Below.refl w.heap.size w)
 have H : (spec_MapOk.l0 k l0 0) = some r:=h
 clear h
 have H':=m_ H
 clear H
 go_enter Tryz.func42,Tryz.ntmps42
 go_wp2
 repeat (go_quiet (fail);try go_wp2)
 go_loopg [3] k (fun kq v3 w'=>∃ (x3_1 : Int),v3 = .int .i64 x3_1 ∧ Aside0 (spec_MapOk.l0 kq l0 x3_1 = some r) ∧ Aside0 (kq ≤ k) ∧ Aside0 (Below w.heap.size w w'))
 case atStart=>exact ⟨(0),(by first|rfl|(simp;done)|(simp [*];done)),H',⟨Nat.le_refl _⟩,⟨puL HB.out⟩⟩
 case round =>
  clear H'
  obtain ⟨x3_1,rfl,HA,HK1,HB⟩:=hrel
  cases gk with
  | zero => exact absurd HA.out (by simp [spec_MapOk.l0])
  | succ k1 =>
   have H:=HA.out
   clear HA
   simp only [spec_MapOk.l0] at H
   by_cases c2 : x3_1 < (l0.length : Int)
   ·rw [if_pos c2] at H
    have c2b0 : decide (x3_1 < (l0.length : Int)) = true:=decide_eq_true c2
    clear c2
    have HC3:=m_ H
    clear H
    go_upto_region 4 with (fail)
    repeat (go_quiet (fail);go_upto_region 4 with (fail))
    go_cut [27] (fun v27 wc=>∃ (kq : Nat) (x27_2 : Bool),v27 = .bool x27_2 ∧ Aside0 (spec_MapOk.j1 kq l0 x3_1 x27_2 = some r) ∧ Aside0 (kq ≤ k1) ∧ Aside0 (Below w.heap.size w wc))
    case first =>
     have H:=HC3.out
     clear HC3
     by_cases c4 : 0 ≤ x3_1
     rotate_left
     ·rw [if_neg c4] at H
      exact absurd H (by simp)
     rw [if_pos c4] at H
     have c4b0 : decide (0 ≤ x3_1) = true:=decide_eq_true c4
     clear c4
     (first|rw [c4b0]|(simp only [i64_w,i32_w];rw [c4b0])|skip)
     by_cases c5 : ((rd_T79 l0 x3_1).f0) = (wrap64 (10 + x3_1))
     ·rw [if_pos c5] at H
      have c5b0 : (((rd_T79 l0 x3_1).f0) == (wrap64 (10 + x3_1))) = true:=beq_iff_eq.mpr c5
      have c5b1 : (((rd_T79 l0 x3_1).f0) != (wrap64 (10 + x3_1))) = false:=bne_eq_false_iff_eq.mpr c5
      clear c5
      replace H:=Option.bind_eq_some_iff.mp H
      obtain ⟨t170,A60,H⟩:=H
      have A6:=m_ A60
      clear A60
      have H':=m_ H
      clear H
      have p168 : 0 ≤ (x3_1 : Int):=of_decide_eq_true asm
      have q168 : x3_1 < (l0.length : Int):=of_decide_eq_true asm
      obtain ⟨ad168,e168,hx168_0,hx168_1,hx168_2⟩:=at_T79 HR0.out x3_1 p168 q168
      cases e168
      replace hx168_0:=(HB.out.cell (World.block_lt_of_cell? w _ hx168_0)).trans hx168_0
      replace hx168_1:=(HB.out.cell (World.block_lt_of_cell? w _ hx168_1)).trans hx168_1
      replace hx168_2:=(HB.out.cell (World.block_lt_of_cell? w _ hx168_2)).trans hx168_2
      replace p168:=eq_true p168
      replace q168:=eq_true q168
      have p169 : 0 ≤ (x3_1 : Int):=of_decide_eq_true asm
      have q169 : x3_1 < (l0.length : Int):=of_decide_eq_true asm
      obtain ⟨ad169,e169,hx169_0,hx169_1,hx169_2⟩:=at_T79 HR0.out x3_1 p169 q169
      obtain rfl : ad168 = ad169:=(by injection e169)
      replace hx169_0:=(HB.out.cell (World.block_lt_of_cell? w _ hx169_0)).trans hx169_0
      replace hx169_1:=(HB.out.cell (World.block_lt_of_cell? w _ hx169_1)).trans hx169_1
      replace hx169_2:=(HB.out.cell (World.block_lt_of_cell? w _ hx169_2)).trans hx169_2
      replace p169:=eq_true p169
      replace q169:=eq_true q169
      go_wp2_with (first|(go_at_call 56;(with_reducible refine (spec_EndInside.calls ((rd_T79 l0 x3_1).f1.f0) ((rd_T79 l0 x3_1).f1.f1) t170 _ A6.out).mono ?_);rintro e w7 ⟨rfl,hb⟩;have n0_:=m_ (l5_ (puL HB.out) hb);revert n0_;clear HB;intro HB;(try clear hb);(try clear hb2);(try clear hk);(try clear hi)))
      repeat (go_quiet (first|(go_at_call 56;(with_reducible refine (spec_EndInside.calls ((rd_T79 l0 x3_1).f1.f0) ((rd_T79 l0 x3_1).f1.f1) t170 _ A6.out).mono ?_);rintro e w7 ⟨rfl,hb⟩;have n0_:=m_ (l5_ (puL HB.out) hb);revert n0_;clear HB;intro HB;(try clear hb);(try clear hb2);(try clear hk);(try clear hi)));try go_wp2_with (first|(go_at_call 56;(with_reducible refine (spec_EndInside.calls ((rd_T79 l0 x3_1).f1.f0) ((rd_T79 l0 x3_1).f1.f1) t170 _ A6.out).mono ?_);rintro e w7 ⟨rfl,hb⟩;have n0_:=m_ (l5_ (puL HB.out) hb);revert n0_;clear HB;intro HB;(try clear hb);(try clear hb2);(try clear hk);(try clear hi))))
      go_meet
      case rel=>exact ⟨_,(!t170),(by first|rfl|(simp;done)|(simp [*];done)),H',⟨by have:=HK1.out;first|omega|exact Nat.le_refl _⟩,⟨puL HB.out⟩⟩
     ·rw [if_neg c5] at H
      have c5b0 : (((rd_T79 l0 x3_1).f0) == (wrap64 (10 + x3_1))) = false:=beq_eq_false_iff_ne.mpr c5
      have c5b1 : (((rd_T79 l0 x3_1).f0) != (wrap64 (10 + x3_1))) = true:=bne_iff_ne.mpr c5
      have H':=m_ H
      clear H
      have p168 : 0 ≤ (x3_1 : Int):=of_decide_eq_true asm
      have q168 : x3_1 < (l0.length : Int):=of_decide_eq_true asm
      obtain ⟨ad168,e168,hx168_0,hx168_1,hx168_2⟩:=at_T79 HR0.out x3_1 p168 q168
      cases e168
      replace hx168_0:=(HB.out.cell (World.block_lt_of_cell? w _ hx168_0)).trans hx168_0
      replace hx168_1:=(HB.out.cell (World.block_lt_of_cell? w _ hx168_1)).trans hx168_1
      replace hx168_2:=(HB.out.cell (World.block_lt_of_cell? w _ hx168_2)).trans hx168_2
      replace p168:=eq_true p168
      replace q168:=eq_true q168
      go_wp2
      repeat (go_quiet (fail);try go_wp2)
      go_meet
      case rel=>exact ⟨_,(true),(by first|rfl|(simp;done)|(simp [*];done)),H',⟨by have:=HK1.out;first|omega|exact Nat.le_refl _⟩,⟨puL HB.out⟩⟩
    case rest =>
     clear HC3
     try clear p1
     try clear q1
     try clear hx1
     try clear c2
     try clear c2b0
     try clear p2
     try clear c4
     try clear c4b0
     try clear c5
     try clear c5b0
     try clear c5b1
     try clear p6
     try clear hx168_0
     try clear hx168_1
     try clear hx168_2
     try clear hx169_0
     try clear hx169_1
     try clear hx169_2
     try clear p168
     try clear p169
     try clear q168
     try clear q169
     obtain ⟨kq,x27_2,rfl,HA,HJ2,HB⟩:=hcut
     cases kq with
     | zero => exact absurd HA.out (by simp [spec_MapOk.j1])
     | succ kj2 =>
      have H:=HA.out
      clear HA
      simp only [spec_MapOk.j1] at H
      by_cases c8 : x27_2 = true
      ·subst c8
       replace H:=ifp H rfl
       obtain rfl:=Option.some.inj H
       go_wp2
       repeat (go_quiet (fail);try go_wp2)
       go_ret
       exact ⟨eqs,puL HB.out⟩
      ·replace c8:=Bool.eq_false_iff.mpr c8
       subst c8
       replace H:=ifn H
       have H':=m_ H
       clear H
       go_wp2
       repeat (go_quiet (fail);try go_wp2)
       go_loopg [4] kj2 (fun kq v4 w'=>∃ (x4_3 : Int),v4 = .int .i64 x4_3 ∧ Aside0 (spec_MapOk.l1 kq l0 x3_1 x4_3 = some r) ∧ Aside0 (kq ≤ kj2) ∧ Aside0 (Below w.heap.size w w'))
       case atStart=>exact ⟨(0),(by first|rfl|(simp;done)|(simp [*];done)),H',⟨Nat.le_refl _⟩,⟨puL HB.out⟩⟩
       case round =>
        clear H'
        try clear p1
        try clear q1
        try clear hx1
        try clear c2
        try clear c2b0
        try clear p2
        try clear c4
        try clear c4b0
        try clear c5
        try clear c5b0
        try clear c5b1
        try clear p6
        try clear c8
        try clear hx168_0
        try clear hx168_1
        try clear hx168_2
        try clear hx169_0
        try clear hx169_1
        try clear hx169_2
        try clear p1
        try clear p168
        try clear p169
        try clear p2
        try clear p6
        try clear q1
        try clear q168
        try clear q169
        obtain ⟨x4_3,rfl,HA,HK3,HB⟩:=hrel
        cases gk with
        | zero => exact absurd HA.out (by simp [spec_MapOk.l1])
        | succ k3 =>
         have H:=HA.out
         clear HA
         simp only [spec_MapOk.l1] at H
         by_cases c9 : x4_3 < x3_1
         ·rw [if_pos c9] at H
          have c9b0 : decide (x4_3 < x3_1) = true:=decide_eq_true c9
          clear c9
          by_cases c10 : 0 ≤ x4_3
          rotate_left
          ·rw [if_neg c10] at H
           exact absurd H (by simp)
          rw [if_pos c10] at H
          have c10b0 : decide (0 ≤ x4_3) = true:=decide_eq_true c10
          clear c10
          by_cases c11 : x4_3 < (l0.length : Int)
          rotate_left
          ·rw [if_neg c11] at H
           exact absurd H (by simp)
          rw [if_pos c11] at H
          have c11b0 : decide (x4_3 < (l0.length : Int)) = true:=decide_eq_true c11
          clear c11
          by_cases c12 : 0 ≤ x3_1
          rotate_left
          ·rw [if_neg c12] at H
           exact absurd H (by simp)
          rw [if_pos c12] at H
          have c12b0 : decide (0 ≤ x3_1) = true:=decide_eq_true c12
          clear c12
          by_cases c13 : x3_1 < (l0.length : Int)
          rotate_left
          ·rw [if_neg c13] at H
           exact absurd H (by simp)
          rw [if_pos c13] at H
          have c13b0 : decide (x3_1 < (l0.length : Int)) = true:=decide_eq_true c13
          clear c13
          by_cases c14 : (((rd_T79 l0 x4_3).f1.f0) == ((rd_T79 l0 x3_1).f1.f0) && (((rd_T79 l0 x4_3).f1.f1) == ((rd_T79 l0 x3_1).f1.f1))) = true
          ·rw [if_pos c14] at H
           have c14b0 : (((rd_T79 l0 x4_3).f1.f0) == ((rd_T79 l0 x3_1).f1.f0) && (((rd_T79 l0 x4_3).f1.f1) == ((rd_T79 l0 x3_1).f1.f1))) = true:=c14
           (try (have c14b1 : decide (((rd_T79 l0 x4_3).f1.f0) = ((rd_T79 l0 x3_1).f1.f0) && (((rd_T79 l0 x4_3).f1.f1) == ((rd_T79 l0 x3_1).f1.f1))) = true:=by simpa using c14))
           (try (have c14b2 : (((rd_T79 l0 x4_3).f1.f0) == ((rd_T79 l0 x3_1).f1.f0) && (((rd_T79 l0 x4_3).f1.f1) == ((rd_T79 l0 x3_1).f1.f1))) = true:=by simpa using c14))
           clear c14
           obtain rfl:=Option.some.inj H
           have p171 : 0 ≤ (x4_3 : Int):=of_decide_eq_true asm
           have q171 : x4_3 < (l0.length : Int):=of_decide_eq_true asm
           obtain ⟨ad171,e171,hx171_0,hx171_1,hx171_2⟩:=at_T79 HR0.out x4_3 p171 q171
           cases e171
           replace hx171_0:=(HB.out.cell (World.block_lt_of_cell? w _ hx171_0)).trans hx171_0
           replace hx171_1:=(HB.out.cell (World.block_lt_of_cell? w _ hx171_1)).trans hx171_1
           replace hx171_2:=(HB.out.cell (World.block_lt_of_cell? w _ hx171_2)).trans hx171_2
           replace p171:=eq_true p171
           replace q171:=eq_true q171
           have p172 : 0 ≤ (x3_1 : Int):=of_decide_eq_true asm
           have q172 : x3_1 < (l0.length : Int):=of_decide_eq_true asm
           obtain ⟨ad172,e172,hx172_0,hx172_1,hx172_2⟩:=at_T79 HR0.out x3_1 p172 q172
           obtain rfl : ad171 = ad172:=(by injection e172)
           replace hx172_0:=(HB.out.cell (World.block_lt_of_cell? w _ hx172_0)).trans hx172_0
           replace hx172_1:=(HB.out.cell (World.block_lt_of_cell? w _ hx172_1)).trans hx172_1
           replace hx172_2:=(HB.out.cell (World.block_lt_of_cell? w _ hx172_2)).trans hx172_2
           replace p172:=eq_true p172
           replace q172:=eq_true q172
           go_wp2
           repeat (go_quiet (fail);try go_wp2)
           go_ret
           exact ⟨eqs,puL HB.out⟩
          ·rw [if_neg c14] at H
           have c14b0 : (((rd_T79 l0 x4_3).f1.f0) == ((rd_T79 l0 x3_1).f1.f0) && (((rd_T79 l0 x4_3).f1.f1) == ((rd_T79 l0 x3_1).f1.f1))) = false:=by simpa using c14
           (try (have c14b1 : decide (((rd_T79 l0 x4_3).f1.f0) = ((rd_T79 l0 x3_1).f1.f0) && (((rd_T79 l0 x4_3).f1.f1) == ((rd_T79 l0 x3_1).f1.f1))) = false:=by simpa using c14))
           (try (have c14b2 : (((rd_T79 l0 x4_3).f1.f0) == ((rd_T79 l0 x3_1).f1.f0) && (((rd_T79 l0 x4_3).f1.f1) == ((rd_T79 l0 x3_1).f1.f1))) = false:=by simpa using c14))
           (try (have c14b3 : ¬ (((rd_T79 l0 x4_3).f1.f0) = ((rd_T79 l0 x3_1).f1.f0) && (((rd_T79 l0 x4_3).f1.f1) == ((rd_T79 l0 x3_1).f1.f1))):=by simpa using c14))
           clear c14
           have H':=m_ H
           clear H
           have p171 : 0 ≤ (x4_3 : Int):=of_decide_eq_true asm
           have q171 : x4_3 < (l0.length : Int):=of_decide_eq_true asm
           obtain ⟨ad171,e171,hx171_0,hx171_1,hx171_2⟩:=at_T79 HR0.out x4_3 p171 q171
           cases e171
           replace hx171_0:=(HB.out.cell (World.block_lt_of_cell? w _ hx171_0)).trans hx171_0
           replace hx171_1:=(HB.out.cell (World.block_lt_of_cell? w _ hx171_1)).trans hx171_1
           replace hx171_2:=(HB.out.cell (World.block_lt_of_cell? w _ hx171_2)).trans hx171_2
           replace p171:=eq_true p171
           replace q171:=eq_true q171
           have p172 : 0 ≤ (x3_1 : Int):=of_decide_eq_true asm
           have q172 : x3_1 < (l0.length : Int):=of_decide_eq_true asm
           obtain ⟨ad172,e172,hx172_0,hx172_1,hx172_2⟩:=at_T79 HR0.out x3_1 p172 q172
           obtain rfl : ad171 = ad172:=(by injection e172)
           replace hx172_0:=(HB.out.cell (World.block_lt_of_cell? w _ hx172_0)).trans hx172_0
           replace hx172_1:=(HB.out.cell (World.block_lt_of_cell? w _ hx172_1)).trans hx172_1
           replace hx172_2:=(HB.out.cell (World.block_lt_of_cell? w _ hx172_2)).trans hx172_2
           replace p172:=eq_true p172
           replace q172:=eq_true q172
           go_wp2
           repeat (go_quiet (fail);try go_wp2)
           go_roundg k3
           case measure=>have:=HK1.out;have:=HJ2.out;have:=HK3.out;omega
           case rel=>exact ⟨(wrap64 (x4_3 + 1)),(by first|rfl|(simp;done)|(simp [*];done)),H',⟨by have:=HK1.out;have:=HJ2.out;have:=HK3.out;omega⟩,⟨puL HB.out⟩⟩
         ·rw [if_neg c9] at H
          have c9b0 : decide (x4_3 < x3_1) = false:=decide_eq_false c9
          clear c9
          have H':=m_ H
          clear H
          go_wp2
          repeat (go_quiet (fail);try go_wp2)
          go_roundg k3
          case measure=>have:=HK1.out;have:=HJ2.out;have:=HK3.out;omega
          case rel=>exact ⟨(wrap64 (x3_1 + 1)),(by first|rfl|(simp;done)|(simp [*];done)),H',⟨by have:=HK1.out;have:=HJ2.out;have:=HK3.out;omega⟩,⟨puL HB.out⟩⟩
   ·rw [if_neg c2] at H
    have c2b0 : decide (x3_1 < (l0.length : Int)) = false:=decide_eq_false c2
    clear c2
    obtain rfl:=Option.some.inj H
    go_wp2
    repeat (go_quiet (fail);try go_wp2)
    go_ret
    exact ⟨eqs,puL HB.out⟩

/-! ### spec_l6Rd_of: function 45 -/
def spec_l6Rd_of.f (k : Nat) (s0_0 : List Int) (s0_1 : Int) (l1 : List ByteArray) : Option (ByteArray × Int) := (spec_l6Rd_pick.f k s0_0 s0_1 (l1.length : Int)).bind fun bt173 => (if 0 ≤ bt173.1 then (if bt173.1 < (l1.length : Int) then (some (rdOf ByteArray.empty l1 bt173.1, bt173.2)) else (none)) else (none))
theorem spec_l6Rd_of.mono : ∀ a0 a1 a2 k, LeO (spec_l6Rd_of.f k a0 a1 a2) (spec_l6Rd_of.f (k + 1) a0 a1 a2) := by
 intro a0 a1 a2 k
 unfold spec_l6Rd_of.f
 exact leo1 spec_l6Rd_pick.mono
theorem spec_l6Rd_of.calls (k : Nat) (g : Nat) (s0_0 : List Int) (s0_1 : Int) (A1 : Option Addr) (c1 : Nat) (l1 : List ByteArray) (r1 : ByteArray) (r2 : Int) (w0 w : World) (hI : IsS56 w0 w g s0_0 s0_1) (hB : Below w0.heap.size w0 w) (hr1 : Kd.C Kd.string w A1 l1.length l1) (hc1 : l1.length ≤ c1) (hf1 : ∀ ad, A1 = some ad → 0 < l1.length → ad.block ≠ g) (h : spec_l6Rd_of.f k s0_0 s0_1 l1 = some (r1, r2)) :
  Calls Tryz.prog 45 #[.pointer (some ⟨g,0,none⟩),.slice A1 l1.length c1] w fun e w'=>e = .returned (.string r1) ∧ IsS56 w0 w' g s0_0 r2 ∧ Below w0.heap.size w0 w' ∧ KeepBut w w' g none:=by
 have HR1:=m_ hr1
 have HC1:=m_ hc1
 clear hr1 hc1
 have HI0:=m_ hI
 have HK:=m_ (KeepBut.refl w g none)
 have HL:=m_ hB.size
 clear hI
 have HW0:=m_ hB.size
 have HB:=m_ hB
 clear hB
 have H : ((spec_l6Rd_pick.f k s0_0 s0_1 (l1.length : Int)).bind fun bt173=>(if 0 ≤ bt173.1 then (if bt173.1 < (l1.length : Int) then (some (rdOf ByteArray.empty l1 bt173.1,bt173.2)) else (none)) else (none))) = some (r1,r2):=h
 clear h
 replace H:=Option.bind_eq_some_iff.mp H
 obtain ⟨⟨t173,t174⟩,A30,H⟩:=H
 replace H : (if 0 ≤ t173 then (if t173 < (l1.length : Int) then (some (rdOf ByteArray.empty l1 t173,t174)) else (none)) else (none)) = some (r1,r2):=H
 have A3:=m_ A30
 clear A30
 by_cases c4 : 0 ≤ t173
 ·rw [if_pos c4] at H
  have c4b0 : decide (0 ≤ t173) = true:=decide_eq_true c4
  clear c4
  by_cases c5 : t173 < (l1.length : Int)
  ·rw [if_pos c5] at H
   have c5b0 : decide (t173 < (l1.length : Int)) = true:=decide_eq_true c5
   clear c5
   simp only [Option.some.injEq,Prod.mk.injEq] at H
   obtain ⟨rfl,rfl⟩:=H
   go_enter Tryz.func45,Tryz.ntmps45
   go_wp2_with (first|((with_reducible refine gate_callee (f:=24) rfl ?_);refine goesL_ (some 9) rfl rfl Tryz.func24 (by kernel_rfl) rfl #[.pointer (some ⟨g,0,none⟩),.int .i64 (l1.length : Int)] rfl lens ?_;(with_reducible refine (spec_l6Rd_pick.calls k g s0_0 s0_1 (l1.length : Int) t173 t174 w0 _ ?side1 ?side2 A3.out).mono ?_);(case side1=>repeat (first|(with_reducible first|exact HI0.out|apply IsS56.alloc|apply IsS56.drewN|apply IsS56.drew|apply IsS56.set_1)|exact HI0.out));(case side2=>exact puM HB.out (IsS56.ge HI0.out));rintro e w6 ⟨rfl,hi,hb,hk⟩;refine ⟨_,rfl,?_⟩;have n0_:=m_ (KeepBut.trans (puK HK.out) hk (.inl rfl));have n1_:=m_ (hb);have n2_:=m_ (hi);revert n0_ n1_ n2_;clear HK HB HI0;intro HK HB HI0;(try clear hb);(try clear hb2);(try clear hk);(try clear hi);have p175 : 0 ≤ (t173 : Int):=of_decide_eq_true asm;have q175 : t173 < (l1.length : Int):=of_decide_eq_true asm;obtain ⟨ad175,e175,hx175_0⟩:=Kd.at_string HR1.out t173 p175 q175;cases e175;replace hx175_0:=keep_cell HK.out hx175_0 (by first|(rw [add_block];exact hf1 _ rfl (by omega))|exact hf1 _ rfl (by omega)|exact hf1 ad175 rfl (by omega));replace p175:=eq_true p175;replace q175:=eq_true q175))
   go_ret
   exact ⟨eqs,by repeat (first|(with_reducible first|exact HI0.out|apply IsS56.alloc|apply IsS56.drewN|apply IsS56.drew|apply IsS56.set_1)|exact HI0.out),puM HB.out (IsS56.ge HI0.out),puK HK.out⟩
  ·rw [if_neg c5] at H
   exact absurd H (by simp)
 ·rw [if_neg c4] at H
  exact absurd H (by simp)

/-! ### spec_EndDoor: function 70 -/
def spec_EndDoor.f (a0_0 : Int) (a0_1 : Int) : Option (Bool) := if a0_0 = 9 then ((spec_l6In.f a0_1 10 17).bind fun t177 => (some t177)) else (some false)
theorem spec_EndDoor.calls (a0_0 : Int) (a0_1 : Int) (r : Bool) (w : World) (h : spec_EndDoor.f a0_0 a0_1 = some r) :
  Calls Tryz.prog 70 #[.agg #[.int .i64 a0_0,.int .i64 a0_1]] w fun e w'=>e = .returned (.bool r) ∧ Below w.heap.size w w':=by
 have hu49:=Tryz.underlying49
 have HB:=m_ (Below.refl w.heap.size w)
 have H : (if a0_0 = 9 then ((spec_l6In.f a0_1 10 17).bind fun t177=>(some t177)) else (some false)) = some r:=h
 clear h
 by_cases c2 : a0_0 = 9
 ·rw [if_pos c2] at H
  have c2b0 : (a0_0 == 9) = true:=beq_iff_eq.mpr c2
  have c2b1 : (a0_0 != 9) = false:=bne_eq_false_iff_eq.mpr c2
  clear c2
  replace H:=Option.bind_eq_some_iff.mp H
  obtain ⟨t177,A30,H⟩:=H
  have A3:=m_ A30
  clear A30
  obtain rfl:=Option.some.inj H
  go_enter Tryz.func70,Tryz.ntmps70
  go_wp2_with (first|((with_reducible refine gate_dst (N:=1) rfl ?_);refine box_event ?hg (N:=1) ?hd (cs:=#[.int .i64 a0_0,.int .i64 a0_1]) (t:=49) ?hr ?_;(case hd=>rfl);(case hg=>rfl);(case hr=>first|(go_simp;done)|(go_simp;rfl));intro gb176 hg w4 hbox hb;have n0_:=m_ (l5_ (puL HB.out) hb);have n1_:=m_ (hbox);have n2_:=m_ ((by rw [hg];exact (l6_ (puL HB.out)) : w.heap.size ≤ gb176));have n3_:=m_ ((by rw [hg];exact (l6_ (puL HB.out)) : w.heap.size ≤ gb176));revert n0_ n1_ n2_ n3_;clear HB;intro HB BK176 GW176 GE176;clear hb hbox hg;have hcz5_0 : w4.cell? ⟨gb176,0,none⟩ = some (.int .i64 a0_0):=(c_ BK176.out 0).trans rfl;have hcz5_1 : w4.cell? ⟨gb176,1,none⟩ = some (.int .i64 a0_1):=(c_ BK176.out 1).trans rfl)|(go_at_call 27;(with_reducible refine (spec_l6In.calls a0_1 10 17 t177 _ A3.out).mono ?_);rintro e w' ⟨rfl,⟨nd,rfl⟩⟩))
  go_ret
  exact ⟨eqs,puM HB.out GE176.out⟩
 ·rw [if_neg c2] at H
  have c2b0 : (a0_0 == 9) = false:=beq_eq_false_iff_ne.mpr c2
  have c2b1 : (a0_0 != 9) = true:=bne_iff_ne.mpr c2
  obtain rfl:=Option.some.inj H
  go_enter Tryz.func70,Tryz.ntmps70
  go_wp2_with (first|((with_reducible refine gate_dst (N:=1) rfl ?_);refine box_event ?hg (N:=1) ?hd (cs:=#[.int .i64 a0_0,.int .i64 a0_1]) (t:=49) ?hr ?_;(case hd=>rfl);(case hg=>rfl);(case hr=>first|(go_simp;done)|(go_simp;rfl));intro gb176 hg w6 hbox hb;have n0_:=m_ (l5_ (puL HB.out) hb);have n1_:=m_ (hbox);have n2_:=m_ ((by rw [hg];exact (l6_ (puL HB.out)) : w.heap.size ≤ gb176));have n3_:=n2_;revert n0_ n1_ n2_ n3_;clear HB;intro HB BK176 GW176 GE176;clear hb hbox hg;have hcz7_0 : w6.cell? ⟨gb176,0,none⟩ = some (.int .i64 a0_0):=(c_ BK176.out 0).trans rfl;have hcz7_1 : w6.cell? ⟨gb176,1,none⟩ = some (.int .i64 a0_1):=(c_ BK176.out 1).trans rfl))
  go_ret
  exact ⟨eqs,puM HB.out GE176.out⟩

end Go.Proofs.YtkcjmmhleepjeaaGreatDoor.A
