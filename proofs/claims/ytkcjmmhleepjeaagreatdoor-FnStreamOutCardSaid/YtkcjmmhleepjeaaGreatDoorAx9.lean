-- Printed by myprint.py (wip/tools) out of the translation. Not trusted: Lean checks it.
import Derived.Test.YtkcjmmhleepjeaaGreatDoorAx0
import Derived.Test.YtkcjmmhleepjeaaGreatDoorAx2
import Derived.Test.YtkcjmmhleepjeaaGreatDoorAx4
import Derived.Test.YtkcjmmhleepjeaaGreatDoorAx5
namespace Go.Proofs.YtkcjmmhleepjeaaGreatDoor.A
open Go.RowKit Go.Proofs.YtkcjmmhleepjeaaGreatDoorW.PrintWords Go.Proofs.YtkcjmmhleepjeaaGreatDoorW.PrintLast Go.Proofs.YtkcjmmhleepjeaaGreatDoorW.PrintMore
attribute [local go_sem] max2_int min2_int max_two min_two max_three min_three max_four min_four
set_option linter.unusedVariables false
set_option maxHeartbeats 8000000
set_option maxRecDepth 100000
set_option linter.unusedSimpArgs false

/-! ### spec_l3PieceOut: function 59 -/
def spec_l3PieceOut.j0 : Nat → List (S79) → ByteArray → Bool → Int → Bool → Int → Int → Option ((List (S79)) × ByteArray)
 | 0, _, _, _, _, _, _, _ => none
 | k + 1, x0, x2, x19, x253000, x253001, x253002, x253003 => if x19 = true then (some (x0, x2)) else ((spec_l3Out.f k x0 x253002 x253003).bind fun bt254 => (if bt254.2.2 = true then ((spec_EndText.f k 9 bt254.2.1).bind fun t259 => (if 1 + t259.size ≤ 9223372036854775807 then (if 1 + t259.size + 1 ≤ 9223372036854775807 then (some (bt254.1, ((⟨#[64]⟩ : ByteArray) ++ t259) ++ (⟨#[59]⟩ : ByteArray))) else (none)) else (none))) else (some (bt254.1, x2))))
def spec_l3PieceOut.f (k : Nat) (l0 : List (S79)) (a1_0 : Int) (a1_1 : Bool) (a1_2 : Int) (a1_3 : Int) (a2 : ByteArray) : Option ((List (S79)) × ByteArray) := if a1_1 = true then ((spec_EndInside.f a1_2 a1_3).bind fun t253 => (spec_l3PieceOut.j0 k l0 a2 (!t253) a1_0 a1_1 a1_2 a1_3)) else (spec_l3PieceOut.j0 k l0 a2 true a1_0 a1_1 a1_2 a1_3)
theorem spec_l3PieceOut.mono_l : ∀ k, (∀ y0 y1 y2 y3 y4 y5 y6, LeO (spec_l3PieceOut.j0 k y0 y1 y2 y3 y4 y5 y6) (spec_l3PieceOut.j0 (k + 1) y0 y1 y2 y3 y4 y5 y6))
 | 0 => fun _ _ _ _ _ _ _ r h => by simp [spec_l3PieceOut.j0] at h
 | k + 1 => by
  have ih0:=spec_l3PieceOut.mono_l k
  ·intro y0 y1 y2 y3 y4 y5 y6
   unfold spec_l3PieceOut.j0
   exact leo3 ih0 spec_EndText.mono spec_l3Out.mono
theorem spec_l3PieceOut.mono : ∀ a0 a1 a2 a3 a4 a5 k, LeO (spec_l3PieceOut.f k a0 a1 a2 a3 a4 a5) (spec_l3PieceOut.f (k + 1) a0 a1 a2 a3 a4 a5) := by
 intro a0 a1 a2 a3 a4 a5 k
 have ih0:=spec_l3PieceOut.mono_l k
 unfold spec_l3PieceOut.f
 exact leo3 ih0 spec_EndText.mono spec_l3Out.mono
theorem spec_l3PieceOut.calls (k : Nat) (P0_ : Nat → Prop) (u9000_ : Value) (l0 : List (S79)) (a1_0 : Int) (a1_1 : Bool) (a1_2 : Int) (a1_3 : Int) (a2 : ByteArray) (r1 : List (S79)) (r2 : ByteArray) (w0 w : World) (hB : Below w0.heap.size w0 w) (ho0 : Kd.Q k79 79 w w0.heap.size P0_ u9000_ l0) (h : spec_l3PieceOut.f k l0 a1_0 a1_1 a1_2 a1_3 a2 = some (r1, r2)) :
  Calls Tryz.prog 59 #[u9000_,.agg #[.int .i64 a1_0,.bool a1_1,.int .i64 a1_2,.int .i64 a1_3],.string a2] w fun e w'=>∃ v0_ : Value,e = .returned (.tuple #[v0_,.string r2]) ∧ Kd.Q k79 79 w' w0.heap.size (fun k_=>(P0_ k_ ∨ w.heap.size ≤ k_)) v0_ r1 ∧ Below w0.heap.size w0 w' ∧ Kept w w' (fun k_=>P0_ k_):=by
 have hu51:=Tryz.underlying51
 have hu49:=Tryz.underlying49
 have HO0:=m_ (show Kd.Q k79 79 w w0.heap.size (fun k_=>(P0_ k_ ∨ w.heap.size ≤ k_)) u9000_ l0 from Kd.Q_mono ho0 (fun k_ hk=>(.inl hk)))
 have HK:=m_ (Kept.refl w (fun k_=>P0_ k_))
 have HW0:=m_ hB.size
 have HB:=m_ hB
 clear hB
 have H : (if a1_1 = true then ((spec_EndInside.f a1_2 a1_3).bind fun t253=>(spec_l3PieceOut.j0 k l0 a2 (!t253) a1_0 a1_1 a1_2 a1_3)) else (spec_l3PieceOut.j0 k l0 a2 true a1_0 a1_1 a1_2 a1_3)) = some (r1,r2):=h
 clear h
 have HC4:=m_ H
 clear H
 go_enter Tryz.func59,Tryz.ntmps59
 go_upto_region 1 with (first|((with_reducible refine gate_dst (N:=4) rfl ?_);refine box_event ?hg (N:=4) ?hd (cs:=#[.int .i64 a1_0,.bool a1_1,.int .i64 a1_2,.int .i64 a1_3]) (t:=51) ?hr ?_;(case hd=>rfl);(case hg=>rfl);(case hr=>first|(go_simp;done)|(go_simp;rfl));intro gb252 hg w5 hbox hb;have n0_:=m_ (Kd.Q_below (puQ HO0.out) hb);have n1_:=m_ (Kept.below (S:=(fun k_=>P0_ k_)) (by repeat (first|(with_reducible first|exact HK.out|apply Kept.alloc|apply Kept.drewN|apply Kept.drew)|exact HK.out)) hb);have n2_:=m_ (l5_ (puL HB.out) hb);have n3_:=m_ (hbox);have n4_:=m_ ((by rw [hg];exact (by first|exact HK.out.1|exact (show Kept w _ (fun k_=>P0_ k_) from by repeat (first|(with_reducible first|exact HK.out|apply Kept.alloc|apply Kept.drewN|apply Kept.drew)|exact HK.out)).1) : w.heap.size ≤ gb252));have n5_:=m_ ((by rw [hg];exact (l6_ (puL HB.out)) : w0.heap.size ≤ gb252));revert n0_ n1_ n2_ n3_ n4_ n5_;clear HO0 HK HB;intro HO0 HK HB BK252 GW252 GE252;clear hb hbox hg))
 (try simp only [Act.put,s1_,s2_,s3_])
 go_cut [19] (fun v19 wc=>∃ (kq : Nat) (x19_3 : Bool),v19 = .bool x19_3 ∧ Aside0 (spec_l3PieceOut.j0 kq l0 a2 x19_3 a1_0 a1_1 a1_2 a1_3 = some (r1,r2)) ∧ Aside0 (kq ≤ k) ∧ Aside0 (Kd.Q k79 79 wc w0.heap.size (fun k_=>(P0_ k_ ∨ w.heap.size ≤ k_)) u9000_ l0) ∧ Aside0 (wc.heap[gb252]? = some (.cells #[.int .i64 a1_0,.bool a1_1,.int .i64 a1_2,.int .i64 a1_3] 51 (0,0))) ∧ Aside0 (Kept w wc (fun k_=>P0_ k_)) ∧ Aside0 (Below w0.heap.size w0 wc))
 case first =>
  have H:=HC4.out
  clear HC4
  by_cases c6 : a1_1 = true
  ·subst c6
   replace H:=ifp H rfl
   replace H:=Option.bind_eq_some_iff.mp H
   obtain ⟨t253,A70,H⟩:=H
   have A7:=m_ A70
   clear A70
   have H':=m_ H
   clear H
   have hcz8_0 : w5.cell? ⟨gb252,0,none⟩ = some (.int .i64 a1_0):=(c_ BK252.out 0).trans rfl
   have hcz8_1 : w5.cell? ⟨gb252,1,none⟩ = some (.bool true):=(c_ BK252.out 1).trans rfl
   have hcz8_2 : w5.cell? ⟨gb252,2,none⟩ = some (.int .i64 a1_2):=(c_ BK252.out 2).trans rfl
   have hcz8_3 : w5.cell? ⟨gb252,3,none⟩ = some (.int .i64 a1_3):=(c_ BK252.out 3).trans rfl
   go_wp2_with (first|(go_at_call 56;(with_reducible refine (spec_EndInside.calls a1_2 a1_3 t253 _ A7.out).mono ?_);rintro e w9 ⟨rfl,hb⟩;have n0_:=m_ (Kd.Q_below (puQ HO0.out) hb);have n1_:=m_ (blk_below (g:=gb252) (o:=.cells #[.int .i64 a1_0,.bool true,.int .i64 a1_2,.int .i64 a1_3] 51 (0,0)) (puB BK252.out) hb);have n2_:=m_ (Kept.below (S:=(fun k_=>P0_ k_)) (by repeat (first|(with_reducible first|exact HK.out|apply Kept.alloc|apply Kept.drewN|apply Kept.drew|refine Kept.setCell ?_ (.inr GW252.out) _)|exact HK.out)) hb);have n3_:=m_ (l5_ (puM HB.out GE252.out) hb);revert n0_ n1_ n2_ n3_;clear HO0 BK252 HK HB;intro HO0 BK252 HK HB;(try clear hb);(try clear hb2);(try clear hk);(try clear hi)))
   go_meet
   case rel=>exact ⟨_,(!t253),(by first|rfl|(simp;done)|(simp [*];done)),H',⟨by first|omega|exact Nat.le_refl _⟩,⟨by (with_reducible repeat (first|apply Kd.Q_alloc|apply Kd.Q_drewN|apply Kd.Q_drew));exact HO0.out⟩,⟨by (with_reducible repeat first|apply b1_|apply b2_|apply b3_);exact BK252.out⟩,⟨by repeat (first|(with_reducible first|exact HK.out|apply Kept.alloc|apply Kept.drewN|apply Kept.drew|refine Kept.setCell ?_ (.inr GW252.out) _)|exact HK.out)⟩,⟨puM HB.out GE252.out⟩⟩
  ·replace c6:=Bool.eq_false_iff.mpr c6
   subst c6
   replace H:=ifn H
   have H':=m_ H
   clear H
   have hcz10_0 : w5.cell? ⟨gb252,0,none⟩ = some (.int .i64 a1_0):=(c_ BK252.out 0).trans rfl
   have hcz10_1 : w5.cell? ⟨gb252,1,none⟩ = some (.bool false):=(c_ BK252.out 1).trans rfl
   have hcz10_2 : w5.cell? ⟨gb252,2,none⟩ = some (.int .i64 a1_2):=(c_ BK252.out 2).trans rfl
   have hcz10_3 : w5.cell? ⟨gb252,3,none⟩ = some (.int .i64 a1_3):=(c_ BK252.out 3).trans rfl
   go_wp2
   go_meet
   case rel=>exact ⟨_,(true),(by first|rfl|(simp;done)|(simp [*];done)),H',⟨by first|omega|exact Nat.le_refl _⟩,⟨by (with_reducible repeat (first|apply Kd.Q_alloc|apply Kd.Q_drewN|apply Kd.Q_drew));exact HO0.out⟩,⟨by (with_reducible repeat first|apply b1_|apply b2_|apply b3_);exact BK252.out⟩,⟨by repeat (first|(with_reducible first|exact HK.out|apply Kept.alloc|apply Kept.drewN|apply Kept.drew|refine Kept.setCell ?_ (.inr GW252.out) _)|exact HK.out)⟩,⟨puM HB.out GE252.out⟩⟩
 case rest =>
  clear HC4
  try clear p2
  try clear c5
  try clear c6
  try clear hcz10_0
  try clear hcz10_1
  try clear hcz10_2
  try clear hcz10_3
  try clear hcz8_0
  try clear hcz8_1
  try clear hcz8_2
  try clear hcz8_3
  try clear hfz10_0
  try clear hfz10_1
  try clear hfz10_2
  try clear hfz10_3
  try clear hfz8_0
  try clear hfz8_1
  try clear hfz8_2
  try clear hfz8_3
  obtain ⟨kq,x19_3,rfl,HA,HJ3,HO_0,BK252,HK,HB⟩:=hcut
  cases kq with
  | zero => exact absurd HA.out (by simp [spec_l3PieceOut.j0])
  | succ kj3 =>
   have H:=HA.out
   clear HA
   simp only [spec_l3PieceOut.j0] at H
   by_cases c11 : x19_3 = true
   ·subst c11
    replace H:=ifp H rfl
    simp only [Option.some.injEq,Prod.mk.injEq] at H
    obtain ⟨rfl,rfl⟩:=H
    go_wp2
    go_ret2
    exact ⟨_,eqs,puQ HO_0.out,puM HB.out GE252.out,by repeat (first|(with_reducible first|exact HK.out|apply Kept.alloc|apply Kept.drewN|apply Kept.drew|refine Kept.setCell ?_ (.inr GW252.out) _)|exact HK.out)⟩
   ·replace c11:=Bool.eq_false_iff.mpr c11
    subst c11
    replace H:=ifn H
    replace H:=Option.bind_eq_some_iff.mp H
    obtain ⟨⟨t254,t257,t258⟩,A120,H⟩:=H
    replace H : (if t258 = true then ((spec_EndText.f kj3 9 t257).bind fun t259=>(if 1 + t259.size ≤ 9223372036854775807 then (if 1 + t259.size + 1 ≤ 9223372036854775807 then (some (t254,((⟨#[64]⟩ : ByteArray) ++ t259) ++ (⟨#[59]⟩ : ByteArray))) else (none)) else (none))) else (some (t254,a2))) = some (r1,r2):=H
    have A12:=m_ A120
    clear A120
    by_cases c13 : t258 = true
    ·subst c13
     replace H:=ifp H rfl
     replace H:=Option.bind_eq_some_iff.mp H
     obtain ⟨t259,A140,H⟩:=H
     have A14:=m_ A140
     clear A140
     by_cases c15 : 1 + t259.size ≤ 9223372036854775807
     rotate_left
     ·rw [if_neg c15] at H
      exact absurd H (by simp)
     rw [if_pos c15] at H
     have c15b0:=eq_true c15
     have c15b1:=decide_eq_true c15
     try have c15b2 : (9223372036854775807 < 1 + t259.size) = False:=eq_false (Nat.not_lt.2 c15)
     by_cases c16 : 1 + t259.size + 1 ≤ 9223372036854775807
     ·rw [if_pos c16] at H
      have c16b0:=eq_true c16
      have c16b1:=decide_eq_true c16
      try have c16b2 : (9223372036854775807 < 1 + t259.size + 1) = False:=eq_false (Nat.not_lt.2 c16)
      simp only [Option.some.injEq,Prod.mk.injEq] at H
      obtain ⟨rfl,rfl⟩:=H
      have hcz17_0 : wc.cell? ⟨gb252,0,none⟩ = some (.int .i64 a1_0):=(c_ BK252.out 0).trans rfl
      have hcz17_1 : wc.cell? ⟨gb252,1,none⟩ = some (.bool a1_1):=(c_ BK252.out 1).trans rfl
      have hcz17_2 : wc.cell? ⟨gb252,2,none⟩ = some (.int .i64 a1_2):=(c_ BK252.out 2).trans rfl
      have hcz17_3 : wc.cell? ⟨gb252,3,none⟩ = some (.int .i64 a1_3):=(c_ BK252.out 3).trans rfl
      obtain ⟨Ao18,co18,eo18,_⟩:=Kd.Q_slice HO_0.out
      subst eo18
      go_wp2_with (first|((with_reducible refine gate_callee (f:=54) rfl ?_);refine goesL_ (some 26) rfl rfl Tryz.func54 (by kernel_rfl) rfl #[.slice Ao18 l0.length co18,.agg #[.int .i64 a1_2,.int .i64 a1_3]] rfl lens ?_;(with_reducible refine (spec_l3Out.calls kj3 (fun k_=>some k_ = (.slice Ao18 l0.length co18 : Value).ownBlock) (.slice Ao18 l0.length co18) l0 a1_2 a1_3 t254 t257 true w0 _ ?side1 ?side2 A12.out).mono ?_);(case side1=>exact puM HB.out GE252.out);(case side2=>exact Kd.Q_tight rfl HO_0.out);rintro e w19 ⟨v255,rfl,ho0,hb,hkp⟩;refine ⟨_,rfl,?_⟩;have n0_:=m_ (blk_kept (puB BK252.out) hkp (fun hs_=>(fun e_=>(Kd.Q_ne HO_0.out BK252.out (by decide)) e_) hs_));have n1_:=m_ (Kd.Q_mono (ok':=fun k_=>(P0_ k_ ∨ w.heap.size ≤ k_)) ho0 (fun k_ hk_=>Or.elim hk_ (fun hs_=>(HO_0.out.1 k_ (hs_).symm)) (fun hn_=>(.inr (Nat.le_trans (by first|exact HK.out.1|exact (show Kept w _ (fun k_=>P0_ k_) from by repeat (first|(with_reducible first|exact HK.out|apply Kept.alloc|apply Kept.drewN|apply Kept.drew|refine Kept.setCell ?_ (.inr GW252.out) _)|exact HK.out)).1) hn_)))));have n2_:=m_ (Kept.then_ (S:=(fun k_=>P0_ k_)) (by repeat (first|(with_reducible first|exact HK.out|apply Kept.alloc|apply Kept.drewN|apply Kept.drew|refine Kept.setCell ?_ (.inr GW252.out) _)|exact HK.out)) hkp (fun k_ hs_=>(fun e_=>(HO_0.out.1 k_ e_.symm)) hs_));have n3_:=m_ (hb);revert n0_ n1_ n2_ n3_;clear BK252 HK HB HO_0;intro BK252 HO256 HK HB;(try clear hb);(try clear hkp);(try clear ho0))|((with_reducible refine gate_callee (f:=57) rfl ?_);refine goesL_ (some 37) rfl rfl Tryz.func57 (by kernel_rfl) rfl #[.agg #[.int .i64 9,.int .i64 t257]] rfl lens ?_;(with_reducible refine (spec_EndText.calls kj3 9 t257 t259 _ A14.out).mono ?_);rintro e w20 ⟨rfl,hb⟩;refine ⟨_,rfl,?_⟩;have n0_:=m_ (Kd.Q_below (puQ HO256.out) hb);have n1_:=m_ (blk_below (g:=gb252) (o:=.cells #[.int .i64 a1_0,.bool a1_1,.int .i64 a1_2,.int .i64 a1_3] 51 (0,0)) (puB BK252.out) hb);have n2_:=m_ (Kept.below (S:=(fun k_=>P0_ k_)) (by repeat (first|(with_reducible first|exact HK.out|apply Kept.alloc|apply Kept.drewN|apply Kept.drew|refine Kept.setCell ?_ (.inr GW252.out) _)|exact HK.out)) hb);have n3_:=m_ (l5_ (puM HB.out GE252.out) hb);revert n0_ n1_ n2_ n3_;clear HO256 BK252 HK HB;intro HO256 BK252 HK HB;(try clear hb);(try clear hb2);(try clear hk);(try clear hi)))
      go_ret2
      exact ⟨_,eqs,puQ HO256.out,puM HB.out GE252.out,by repeat (first|(with_reducible first|exact HK.out|apply Kept.alloc|apply Kept.drewN|apply Kept.drew|refine Kept.setCell ?_ (.inr GW252.out) _)|exact HK.out)⟩
     ·rw [if_neg c16] at H
      exact absurd H (by simp)
    ·replace c13:=Bool.eq_false_iff.mpr c13
     subst c13
     replace H:=ifn H
     simp only [Option.some.injEq,Prod.mk.injEq] at H
     obtain ⟨rfl,rfl⟩:=H
     have hcz21_0 : wc.cell? ⟨gb252,0,none⟩ = some (.int .i64 a1_0):=(c_ BK252.out 0).trans rfl
     have hcz21_1 : wc.cell? ⟨gb252,1,none⟩ = some (.bool a1_1):=(c_ BK252.out 1).trans rfl
     have hcz21_2 : wc.cell? ⟨gb252,2,none⟩ = some (.int .i64 a1_2):=(c_ BK252.out 2).trans rfl
     have hcz21_3 : wc.cell? ⟨gb252,3,none⟩ = some (.int .i64 a1_3):=(c_ BK252.out 3).trans rfl
     obtain ⟨Ao22,co22,eo22,_⟩:=Kd.Q_slice HO_0.out
     subst eo22
     go_wp2_with (first|((with_reducible refine gate_callee (f:=54) rfl ?_);refine goesL_ (some 26) rfl rfl Tryz.func54 (by kernel_rfl) rfl #[.slice Ao22 l0.length co22,.agg #[.int .i64 a1_2,.int .i64 a1_3]] rfl lens ?_;(with_reducible refine (spec_l3Out.calls2 kj3 (fun k_=>some k_ = (.slice Ao22 l0.length co22 : Value).ownBlock) (.slice Ao22 l0.length co22) l0 a1_2 a1_3 t254 t257 false w0 _ ?side1 ?side2 A12.out).mono ?_);(case side1=>exact puM HB.out GE252.out);(case side2=>exact Kd.Q_tight rfl HO_0.out);rintro e w23 ⟨v255,rfl,ho0,hb,hkp,hv_⟩;obtain rfl:=hv_ rfl;refine ⟨_,rfl,?_⟩;have n0_:=m_ (blk_kept (puB BK252.out) hkp (fun hs_=>(fun e_=>(Kd.Q_ne HO_0.out BK252.out (by decide)) e_) hs_));have n1_:=m_ (Kd.Q_mono (ok':=fun k_=>(P0_ k_ ∨ w.heap.size ≤ k_)) ho0 (fun k_ hk_=>Or.elim hk_ (fun hs_=>(HO_0.out.1 k_ (hs_).symm)) (fun hn_=>(.inr (Nat.le_trans (by first|exact HK.out.1|exact (show Kept w _ (fun k_=>P0_ k_) from by repeat (first|(with_reducible first|exact HK.out|apply Kept.alloc|apply Kept.drewN|apply Kept.drew|refine Kept.setCell ?_ (.inr GW252.out) _)|exact HK.out)).1) hn_)))));have n2_:=m_ (Kept.then_ (S:=(fun k_=>P0_ k_)) (by repeat (first|(with_reducible first|exact HK.out|apply Kept.alloc|apply Kept.drewN|apply Kept.drew|refine Kept.setCell ?_ (.inr GW252.out) _)|exact HK.out)) hkp (fun k_ hs_=>(fun e_=>(HO_0.out.1 k_ e_.symm)) hs_));have n3_:=m_ (hb);revert n0_ n1_ n2_ n3_;clear BK252 HK HB HO_0;intro BK252 HO256 HK HB;(try clear hb);(try clear hkp);(try clear ho0)))
     go_ret2
     exact ⟨_,eqs,puQ HO256.out,puM HB.out GE252.out,by repeat (first|(with_reducible first|exact HK.out|apply Kept.alloc|apply Kept.drewN|apply Kept.drew|refine Kept.setCell ?_ (.inr GW252.out) _)|exact HK.out)⟩

/-! ### spec_l3In: function 71 -/
def spec_l3In.f (l0 : List (S79)) (a1 : Int) : Option (Int × Int × Bool) := (spec_l6In.f (wrap64 (a1 - 10)) 0 (wrap64 ((l0.length : Int) - 1))).bind fun t261 => (if t261 = true then (if 0 ≤ (wrap64 (a1 - 10)) then (if (wrap64 (a1 - 10)) < (l0.length : Int) then (some ((rd_T79 l0 (wrap64 (a1 - 10))).f1.f0, (rd_T79 l0 (wrap64 (a1 - 10))).f1.f1, true)) else (none)) else (none)) else (some (0, 0, false)))
theorem spec_l3In.calls (A0 : Option Addr) (c0 : Nat) (l0 : List (S79)) (a1 : Int) (r1 : Int) (r2 : Int) (r3 : Bool) (w : World) (hr0 : Kd.C k79 w A0 l0.length l0) (hc0 : l0.length ≤ c0) (h : spec_l3In.f l0 a1 = some (r1, r2, r3)) :
  Calls Tryz.prog 71 #[.slice A0 l0.length c0,.int .i64 a1] w fun e w'=>e = .returned (.tuple #[.agg #[.int .i64 r1,.int .i64 r2],.bool r3]) ∧ Below w.heap.size w w':=by
 have hu49:=Tryz.underlying49
 have HR0:=m_ hr0
 have HC0:=m_ hc0
 clear hr0 hc0
 have HB:=m_ (Below.refl w.heap.size w)
 have H : ((spec_l6In.f (wrap64 (a1 - 10)) 0 (wrap64 ((l0.length : Int) - 1))).bind fun t261=>(if t261 = true then (if 0 ≤ (wrap64 (a1 - 10)) then (if (wrap64 (a1 - 10)) < (l0.length : Int) then (some ((rd_T79 l0 (wrap64 (a1 - 10))).f1.f0,(rd_T79 l0 (wrap64 (a1 - 10))).f1.f1,true)) else (none)) else (none)) else (some (0,0,false)))) = some (r1,r2,r3):=h
 clear h
 replace H:=Option.bind_eq_some_iff.mp H
 obtain ⟨t261,A30,H⟩:=H
 have A3:=m_ A30
 clear A30
 by_cases c4 : t261 = true
 ·subst c4
  replace H:=ifp H rfl
  obtain ⟨ji5,hji5⟩ : ∃ j_ : Int,(wrap64 (a1 - 10)) = j_:=⟨_,rfl⟩
  replace H : (if 0 ≤ (ji5) then (if (ji5) < (l0.length : Int) then (some ((rd_T79 l0 (ji5)).f1.f0,(rd_T79 l0 (ji5)).f1.f1,true)) else (none)) else (none)) = some (r1,r2,r3):=by first|(rw [hji5] at H;exact H)|(simp only [hji5] at H ⊢;exact H)
  (try rw [hji5] at A3)
  have hji5w : (IntKind.i64.wrap (a1 - 10)) = ji5:=(i64_w _).trans hji5
  by_cases c6 : 0 ≤ (ji5)
  ·rw [if_pos c6] at H
   have c6b0 : decide (0 ≤ (ji5)) = true:=decide_eq_true c6
   clear c6
   by_cases c7 : (ji5) < (l0.length : Int)
   ·rw [if_pos c7] at H
    have c7b0 : decide ((ji5) < (l0.length : Int)) = true:=decide_eq_true c7
    clear c7
    simp only [Option.some.injEq,Prod.mk.injEq] at H
    obtain ⟨rfl,rfl,rfl⟩:=H
    go_enter Tryz.func71,Tryz.ntmps71
    go_wp2_with (first|((with_reducible refine gate_dst (N:=4) rfl ?_);refine box_event ?hg (N:=4) ?hd (cs:=#[.int .i64 0,.int .i64 0]) (t:=49) ?hr ?_;(case hd=>rfl);(case hg=>rfl);(case hr=>first|(go_simp;done)|(go_simp;rfl));intro gb260 hg w8 hbox hb;have n0_:=m_ (l5_ (puL HB.out) hb);have n1_:=m_ (hbox);have n2_:=m_ ((by rw [hg];exact (l6_ (puL HB.out)) : w.heap.size ≤ gb260));have n3_:=m_ ((by rw [hg];exact (l6_ (puL HB.out)) : w.heap.size ≤ gb260));revert n0_ n1_ n2_ n3_;clear HB;intro HB BK260 GW260 GE260;clear hb hbox hg)|((with_reducible refine gate_callee (f:=27) rfl ?_);refine goesL_ (some 13) rfl rfl Tryz.func27 (by kernel_rfl) rfl #[.int .i64 ji5,.int .i64 0,.int .i64 (wrap64 ((l0.length : Int) - 1))] rfl (by (try simp only [List.map_toArray,List.map_cons,List.map_nil]);first|done|(simp only [hji5];rfl)|rfl|(simp only [List.length_drop,List.length_take];rfl)) ?_;(with_reducible refine (spec_l6In.calls ji5 0 (wrap64 ((l0.length : Int) - 1)) true _ A3.out).mono ?_);rintro e w' ⟨rfl,⟨nd,rfl⟩⟩;refine ⟨_,rfl,?_⟩;(try (rw [drewN_self w8];generalize hq_ : World.drewN w8 _ = w8;have n0_ : Aside0 (w8.heap[gb260]? = some (.cells #[.int .i64 0,.int .i64 0] 49 (0,0))):=⟨by rw [← hq_];exact (puB BK260.out)⟩;have n1_ : Aside0 (Below w.heap.size w w8):=⟨by rw [← hq_];exact (puM HB.out GE260.out)⟩;clear BK260 HB hq_;have BK260:=n0_;have HB:=n1_;clear n0_ n1_));have p262 : 0 ≤ ((ji5) : Int):=of_decide_eq_true asm;have q262 : (ji5) < (l0.length : Int):=of_decide_eq_true asm;obtain ⟨ad262,e262,hx262_0,hx262_1,hx262_2⟩:=at_T79 HR0.out (ji5) p262 q262;cases e262;replace hx262_0:=(HB.out.cell (World.block_lt_of_cell? w _ hx262_0)).trans hx262_0;replace hx262_1:=(HB.out.cell (World.block_lt_of_cell? w _ hx262_1)).trans hx262_1;replace hx262_2:=(HB.out.cell (World.block_lt_of_cell? w _ hx262_2)).trans hx262_2;replace p262:=eq_true p262;replace q262:=eq_true q262;have hcz9_0 : w8.cell? ⟨gb260,0,none⟩ = some (.int .i64 0):=(c_ BK260.out 0).trans rfl;have hcz9_1 : w8.cell? ⟨gb260,1,none⟩ = some (.int .i64 0):=(c_ BK260.out 1).trans rfl;have hfz9_0:=f_ BK260.out 0;have hfz9_1:=f_ BK260.out 1))
    refine bodyPost_ret (results_ct rfl _ _ gb260 49 #[.int .i64 ((rd_T79 l0 (ji5)).f1.f0),.int .i64 ((rd_T79 l0 (ji5)).f1.f1)] (0,0) _ rfl (by (with_reducible repeat first|apply b1_|apply b2_|apply b3_);refine blk_put (cs:=#[.int .i64 ((rd_T79 l0 (ji5)).f1.f0),.int .i64 0]) ?_ 1 _ rfl;(with_reducible repeat first|apply b1_|apply b2_|apply b3_);refine blk_put (cs:=#[.int .i64 0,.int .i64 0]) ?_ 0 _ rfl;(with_reducible repeat first|apply b1_|apply b2_|apply b3_);exact BK260.out) Tryz.underlying49 rfl (by kernel_rfl)) rfl ?_
    exact ⟨by first|rfl|(simp [e1_,e2_] <;> rfl)|(simp only [← hji5];first|rfl|(simp [e1_,e2_] <;> rfl))|(simp [*,e1_,e2_] <;> rfl)|(simp [e1_,e2_,pk_empty1,pk_empty2];done)|(simp [*,e1_,e2_,pk_empty1,pk_empty2];done),puM HB.out GE260.out⟩
   ·rw [if_neg c7] at H
    exact absurd H (by simp)
  ·rw [if_neg c6] at H
   exact absurd H (by simp)
 ·replace c4:=Bool.eq_false_iff.mpr c4
  subst c4
  replace H:=ifn H
  simp only [Option.some.injEq,Prod.mk.injEq] at H
  obtain ⟨rfl,rfl,rfl⟩:=H
  go_enter Tryz.func71,Tryz.ntmps71
  go_wp2_with (first|((with_reducible refine gate_dst (N:=4) rfl ?_);refine box_event ?hg (N:=4) ?hd (cs:=#[.int .i64 0,.int .i64 0]) (t:=49) ?hr ?_;(case hd=>rfl);(case hg=>rfl);(case hr=>first|(go_simp;done)|(go_simp;rfl));intro gb260 hg w10 hbox hb;have n0_:=m_ (l5_ (puL HB.out) hb);have n1_:=m_ (hbox);have n2_:=m_ ((by rw [hg];exact (l6_ (puL HB.out)) : w.heap.size ≤ gb260));have n3_:=m_ ((by rw [hg];exact (l6_ (puL HB.out)) : w.heap.size ≤ gb260));revert n0_ n1_ n2_ n3_;clear HB;intro HB BK260 GW260 GE260;clear hb hbox hg)|((with_reducible refine gate_callee (f:=27) rfl ?_);refine goesL_ (some 13) rfl rfl Tryz.func27 (by kernel_rfl) rfl #[.int .i64 (wrap64 (a1 - 10)),.int .i64 0,.int .i64 (wrap64 ((l0.length : Int) - 1))] rfl lens ?_;(with_reducible refine (spec_l6In.calls (wrap64 (a1 - 10)) 0 (wrap64 ((l0.length : Int) - 1)) false _ A3.out).mono ?_);rintro e w' ⟨rfl,⟨nd,rfl⟩⟩;refine ⟨_,rfl,?_⟩;(try (rw [drewN_self w10];generalize hq_ : World.drewN w10 _ = w10;have n0_ : Aside0 (w10.heap[gb260]? = some (.cells #[.int .i64 0,.int .i64 0] 49 (0,0))):=⟨by rw [← hq_];exact (puB BK260.out)⟩;have n1_ : Aside0 (Below w.heap.size w w10):=⟨by rw [← hq_];exact (puM HB.out GE260.out)⟩;clear BK260 HB hq_;have BK260:=n0_;have HB:=n1_;clear n0_ n1_));have hcz11_0 : w10.cell? ⟨gb260,0,none⟩ = some (.int .i64 0):=(c_ BK260.out 0).trans rfl;have hcz11_1 : w10.cell? ⟨gb260,1,none⟩ = some (.int .i64 0):=(c_ BK260.out 1).trans rfl;have hfz11_0:=f_ BK260.out 0;have hfz11_1:=f_ BK260.out 1))
  refine bodyPost_ret (results_ct rfl _ _ gb260 49 #[.int .i64 0,.int .i64 0] (0,0) _ rfl (by (with_reducible repeat first|apply b1_|apply b2_|apply b3_);refine blk_put (cs:=#[.int .i64 0,.int .i64 0]) ?_ 1 _ rfl;(with_reducible repeat first|apply b1_|apply b2_|apply b3_);refine blk_put (cs:=#[.int .i64 0,.int .i64 0]) ?_ 0 _ rfl;(with_reducible repeat first|apply b1_|apply b2_|apply b3_);exact BK260.out) Tryz.underlying49 rfl (by kernel_rfl)) rfl ?_
  exact ⟨eqs,puM HB.out GE260.out⟩

/-! ### spec_l3PieceIn: function 60 -/
def spec_l3PieceIn.j0 : Nat → List (S79) → ByteArray → Bool → Int → Bool → Int → Int → Option (ByteArray)
 | 0, _, _, _, _, _, _, _ => none
 | k + 1, x0, x2, x17, x264000, x264001, x264002, x264003 => if x17 = true then (some x2) else ((spec_l3In.f x0 x264003).bind fun bt265 => (if bt265.2.2 = true then ((spec_EndText.f k bt265.1 bt265.2.1).bind fun t269 => (if 1 + t269.size ≤ 9223372036854775807 then (if 1 + t269.size + 1 ≤ 9223372036854775807 then (some (((⟨#[64]⟩ : ByteArray) ++ t269) ++ (⟨#[59]⟩ : ByteArray))) else (none)) else (none))) else (some x2)))
def spec_l3PieceIn.f (k : Nat) (l0 : List (S79)) (a1_0 : Int) (a1_1 : Bool) (a1_2 : Int) (a1_3 : Int) (a2 : ByteArray) : Option (ByteArray) := if a1_1 = true then ((spec_EndDoor.f a1_2 a1_3).bind fun t264 => (spec_l3PieceIn.j0 k l0 a2 (!t264) a1_0 a1_1 a1_2 a1_3)) else (spec_l3PieceIn.j0 k l0 a2 true a1_0 a1_1 a1_2 a1_3)
theorem spec_l3PieceIn.mono_l : ∀ k, (∀ y0 y1 y2 y3 y4 y5 y6, LeO (spec_l3PieceIn.j0 k y0 y1 y2 y3 y4 y5 y6) (spec_l3PieceIn.j0 (k + 1) y0 y1 y2 y3 y4 y5 y6))
 | 0 => fun _ _ _ _ _ _ _ r h => by simp [spec_l3PieceIn.j0] at h
 | k + 1 => by
  have ih0:=spec_l3PieceIn.mono_l k
  ·intro y0 y1 y2 y3 y4 y5 y6
   unfold spec_l3PieceIn.j0
   exact leo2 ih0 spec_EndText.mono
theorem spec_l3PieceIn.mono : ∀ a0 a1 a2 a3 a4 a5 k, LeO (spec_l3PieceIn.f k a0 a1 a2 a3 a4 a5) (spec_l3PieceIn.f (k + 1) a0 a1 a2 a3 a4 a5) := by
 intro a0 a1 a2 a3 a4 a5 k
 have ih0:=spec_l3PieceIn.mono_l k
 unfold spec_l3PieceIn.f
 exact leo2 ih0 spec_EndText.mono
theorem spec_l3PieceIn.calls (k : Nat) (A0 : Option Addr) (c0 : Nat) (l0 : List (S79)) (a1_0 : Int) (a1_1 : Bool) (a1_2 : Int) (a1_3 : Int) (a2 : ByteArray) (r : ByteArray) (w : World) (hr0 : Kd.C k79 w A0 l0.length l0) (hc0 : l0.length ≤ c0) (h : spec_l3PieceIn.f k l0 a1_0 a1_1 a1_2 a1_3 a2 = some r) :
  Calls Tryz.prog 60 #[.slice A0 l0.length c0,.agg #[.int .i64 a1_0,.bool a1_1,.int .i64 a1_2,.int .i64 a1_3],.string a2] w fun e w'=>e = .returned (.string r) ∧ Below w.heap.size w w':=by
 have hu51:=Tryz.underlying51
 have hu49:=Tryz.underlying49
 have HR0:=m_ hr0
 have HC0:=m_ hc0
 clear hr0 hc0
 have HB:=m_ (Below.refl w.heap.size w)
 have H : (if a1_1 = true then ((spec_EndDoor.f a1_2 a1_3).bind fun t264=>(spec_l3PieceIn.j0 k l0 a2 (!t264) a1_0 a1_1 a1_2 a1_3)) else (spec_l3PieceIn.j0 k l0 a2 true a1_0 a1_1 a1_2 a1_3)) = some r:=h
 clear h
 have HC4:=m_ H
 clear H
 go_enter Tryz.func60,Tryz.ntmps60
 go_upto_region 1 with (first|((with_reducible refine gate_dst (N:=4) rfl ?_);refine box_event ?hg (N:=4) ?hd (cs:=#[.int .i64 a1_0,.bool a1_1,.int .i64 a1_2,.int .i64 a1_3]) (t:=51) ?hr ?_;(case hd=>rfl);(case hg=>rfl);(case hr=>first|(go_simp;done)|(go_simp;rfl));intro gb263 hg w5 hbox hb;have n0_:=m_ (l5_ (puL HB.out) hb);have n1_:=m_ (hbox);have n2_:=m_ ((by rw [hg];exact (l6_ (puL HB.out)) : w.heap.size ≤ gb263));have n3_:=n2_;revert n0_ n1_ n2_ n3_;clear HB;intro HB BK263 GW263 GE263;clear hb hbox hg))
 (try simp only [Act.put,s1_,s2_,s3_])
 go_cut [17] (fun v17 wc=>∃ (kq : Nat) (x17_3 : Bool),v17 = .bool x17_3 ∧ Aside0 (spec_l3PieceIn.j0 kq l0 a2 x17_3 a1_0 a1_1 a1_2 a1_3 = some r) ∧ Aside0 (kq ≤ k) ∧ Aside0 (wc.heap[gb263]? = some (.cells #[.int .i64 a1_0,.bool a1_1,.int .i64 a1_2,.int .i64 a1_3] 51 (0,0))) ∧ Aside0 (Below w.heap.size w wc))
 case first =>
  have H:=HC4.out
  clear HC4
  by_cases c6 : a1_1 = true
  ·subst c6
   replace H:=ifp H rfl
   replace H:=Option.bind_eq_some_iff.mp H
   obtain ⟨t264,A70,H⟩:=H
   have A7:=m_ A70
   clear A70
   have H':=m_ H
   clear H
   have hcz8_0 : w5.cell? ⟨gb263,0,none⟩ = some (.int .i64 a1_0):=(c_ BK263.out 0).trans rfl
   have hcz8_1 : w5.cell? ⟨gb263,1,none⟩ = some (.bool true):=(c_ BK263.out 1).trans rfl
   have hcz8_2 : w5.cell? ⟨gb263,2,none⟩ = some (.int .i64 a1_2):=(c_ BK263.out 2).trans rfl
   have hcz8_3 : w5.cell? ⟨gb263,3,none⟩ = some (.int .i64 a1_3):=(c_ BK263.out 3).trans rfl
   have hfz8_0:=f_ BK263.out 0
   have hfz8_1:=f_ BK263.out 1
   have hfz8_2:=f_ BK263.out 2
   have hfz8_3:=f_ BK263.out 3
   go_wp2_with (first|(go_at_call 70;(with_reducible refine (spec_EndDoor.calls a1_2 a1_3 t264 _ A7.out).mono ?_);rintro e w9 ⟨rfl,hb⟩;have n0_:=m_ (blk_below (g:=gb263) (o:=.cells #[.int .i64 a1_0,.bool true,.int .i64 a1_2,.int .i64 a1_3] 51 (0,0)) (puB BK263.out) hb);have n1_:=m_ (l5_ (puM HB.out GE263.out) hb);revert n0_ n1_;clear BK263 HB;intro BK263 HB;(try clear hb);(try clear hb2);(try clear hk);(try clear hi)))
   go_meet
   case rel=>exact ⟨_,(!t264),(by first|rfl|(simp;done)|(simp [*];done)),H',⟨by first|omega|exact Nat.le_refl _⟩,⟨by (with_reducible repeat first|apply b1_|apply b2_|apply b3_);exact BK263.out⟩,⟨puM HB.out GE263.out⟩⟩
  ·replace c6:=Bool.eq_false_iff.mpr c6
   subst c6
   replace H:=ifn H
   have H':=m_ H
   clear H
   have hcz10_0 : w5.cell? ⟨gb263,0,none⟩ = some (.int .i64 a1_0):=(c_ BK263.out 0).trans rfl
   have hcz10_1 : w5.cell? ⟨gb263,1,none⟩ = some (.bool false):=(c_ BK263.out 1).trans rfl
   have hcz10_2 : w5.cell? ⟨gb263,2,none⟩ = some (.int .i64 a1_2):=(c_ BK263.out 2).trans rfl
   have hcz10_3 : w5.cell? ⟨gb263,3,none⟩ = some (.int .i64 a1_3):=(c_ BK263.out 3).trans rfl
   have hfz10_0:=f_ BK263.out 0
   have hfz10_1:=f_ BK263.out 1
   have hfz10_2:=f_ BK263.out 2
   have hfz10_3:=f_ BK263.out 3
   go_wp2
   go_meet
   case rel=>exact ⟨_,(true),(by first|rfl|(simp;done)|(simp [*];done)),H',⟨by first|omega|exact Nat.le_refl _⟩,⟨by (with_reducible repeat first|apply b1_|apply b2_|apply b3_);exact BK263.out⟩,⟨puM HB.out GE263.out⟩⟩
 case rest =>
  clear HC4
  try clear p2
  try clear c6
  try clear hcz10_0
  try clear hcz10_1
  try clear hcz10_2
  try clear hcz10_3
  try clear hcz8_0
  try clear hcz8_1
  try clear hcz8_2
  try clear hcz8_3
  try clear hfz10_0
  try clear hfz10_1
  try clear hfz10_2
  try clear hfz10_3
  try clear hfz8_0
  try clear hfz8_1
  try clear hfz8_2
  try clear hfz8_3
  obtain ⟨kq,x17_3,rfl,HA,HJ3,BK263,HB⟩:=hcut
  cases kq with
  | zero => exact absurd HA.out (by simp [spec_l3PieceIn.j0])
  | succ kj3 =>
   have H:=HA.out
   clear HA
   simp only [spec_l3PieceIn.j0] at H
   by_cases c11 : x17_3 = true
   ·subst c11
    replace H:=ifp H rfl
    obtain rfl:=Option.some.inj H
    go_wp2
    go_ret
    exact ⟨eqs,puM HB.out GE263.out⟩
   ·replace c11:=Bool.eq_false_iff.mpr c11
    subst c11
    replace H:=ifn H
    replace H:=Option.bind_eq_some_iff.mp H
    obtain ⟨⟨t265,t266,t267⟩,A120,H⟩:=H
    replace H : (if t267 = true then ((spec_EndText.f kj3 t265 t266).bind fun t269=>(if 1 + t269.size ≤ 9223372036854775807 then (if 1 + t269.size + 1 ≤ 9223372036854775807 then (some (((⟨#[64]⟩ : ByteArray) ++ t269) ++ (⟨#[59]⟩ : ByteArray))) else (none)) else (none))) else (some a2)) = some r:=H
    have A12:=m_ A120
    clear A120
    by_cases c13 : t267 = true
    ·subst c13
     replace H:=ifp H rfl
     replace H:=Option.bind_eq_some_iff.mp H
     obtain ⟨t269,A140,H⟩:=H
     have A14:=m_ A140
     clear A140
     by_cases c15 : 1 + t269.size ≤ 9223372036854775807
     rotate_left
     ·rw [if_neg c15] at H
      exact absurd H (by simp)
     rw [if_pos c15] at H
     have c15b0:=eq_true c15
     have c15b1:=decide_eq_true c15
     try have c15b2 : (9223372036854775807 < 1 + t269.size) = False:=eq_false (Nat.not_lt.2 c15)
     by_cases c16 : 1 + t269.size + 1 ≤ 9223372036854775807
     rotate_left
     ·rw [if_neg c16] at H
      exact absurd H (by simp)
     rw [if_pos c16] at H
     have c16b0:=eq_true c16
     have c16b1:=decide_eq_true c16
     try have c16b2 : (9223372036854775807 < 1 + t269.size + 1) = False:=eq_false (Nat.not_lt.2 c16)
     obtain rfl:=Option.some.inj H
     have hcz17_0 : wc.cell? ⟨gb263,0,none⟩ = some (.int .i64 a1_0):=(c_ BK263.out 0).trans rfl
     have hcz17_1 : wc.cell? ⟨gb263,1,none⟩ = some (.bool a1_1):=(c_ BK263.out 1).trans rfl
     have hcz17_2 : wc.cell? ⟨gb263,2,none⟩ = some (.int .i64 a1_2):=(c_ BK263.out 2).trans rfl
     have hcz17_3 : wc.cell? ⟨gb263,3,none⟩ = some (.int .i64 a1_3):=(c_ BK263.out 3).trans rfl
     have hfz17_0:=f_ BK263.out 0
     have hfz17_1:=f_ BK263.out 1
     have hfz17_2:=f_ BK263.out 2
     have hfz17_3:=f_ BK263.out 3
     go_wp2_with (first|((with_reducible refine gate_callee (f:=71) rfl ?_);refine goesL_ (some 24) rfl rfl Tryz.func71 (by kernel_rfl) rfl #[.slice A0 l0.length c0,.int .i64 a1_3] rfl lens ?_;(with_reducible refine (spec_l3In.calls _ _ l0 a1_3 t265 t266 true _ ?side1 ?side2 A12.out).mono ?_);(case side1=>exact puC (Kd.C_below HR0.out HB.out));(case side2=>exact HC0.out);rintro e w18 ⟨rfl,hb⟩;refine ⟨_,rfl,?_⟩;have n0_:=m_ (blk_below (g:=gb263) (o:=.cells #[.int .i64 a1_0,.bool a1_1,.int .i64 a1_2,.int .i64 a1_3] 51 (0,0)) (puB BK263.out) hb);have n1_:=m_ (l5_ (puM HB.out GE263.out) hb);revert n0_ n1_;clear BK263 HB;intro BK263 HB;(try clear hb);(try clear hb2);(try clear hk);(try clear hi))|((with_reducible refine gate_dst (N:=7) rfl ?_);refine box_event ?hg (N:=7) ?hd (cs:=#[.int .i64 0,.int .i64 0]) (t:=49) ?hr ?_;(case hd=>rfl);(case hg=>rfl);(case hr=>first|(go_simp;done)|(go_simp;rfl));intro gb268 hg w19 hbox hb;have n0_:=m_ (blk_below (g:=gb263) (o:=.cells #[.int .i64 a1_0,.bool a1_1,.int .i64 a1_2,.int .i64 a1_3] 51 (0,0)) (puB BK263.out) hb);have n1_:=m_ (l5_ (puM HB.out GE263.out) hb);have n2_:=m_ (hbox);have n3_:=m_ ((by rw [hg];exact (l6_ (puM HB.out GE263.out)) : w.heap.size ≤ gb268));have n4_:=n3_;have n5_:=m_ ((by rw [hg];exact Nat.ne_of_lt (blk_lt (g:=gb263) (o:=.cells #[.int .i64 a1_0,.bool a1_1,.int .i64 a1_2,.int .i64 a1_3] 51 (0,0)) (puB BK263.out)) : gb263 ≠ gb268));have n6_:=m_ ((by rw [hg];exact Nat.ne_of_gt (blk_lt (g:=gb263) (o:=.cells #[.int .i64 a1_0,.bool a1_1,.int .i64 a1_2,.int .i64 a1_3] 51 (0,0)) (puB BK263.out)) : gb268 ≠ gb263));revert n0_ n1_ n2_ n3_ n4_ n5_ n6_;clear BK263 HB;intro BK263 HB BK268 GW268 GE268 NB263_268 NB268_263;clear hb hbox hg;have hnb20:=NB268_263.out;have hnc20:=NB263_268.out;have hcz21_0 : w19.cell? ⟨gb268,0,none⟩ = some (.int .i64 0):=(c_ BK268.out 0).trans rfl;have hcz21_1 : w19.cell? ⟨gb268,1,none⟩ = some (.int .i64 0):=(c_ BK268.out 1).trans rfl;have hfz21_0:=f_ BK268.out 0;have hfz21_1:=f_ BK268.out 1)|((with_reducible refine gate_callee (f:=57) rfl ?_);refine goesL_ (some 31) rfl rfl Tryz.func57 (by kernel_rfl) rfl #[.agg #[.int .i64 t265,.int .i64 t266]] rfl lens ?_;(with_reducible refine (spec_EndText.calls kj3 t265 t266 t269 _ A14.out).mono ?_);rintro e w22 ⟨rfl,hb⟩;refine ⟨_,rfl,?_⟩;have n0_:=m_ (blk_below (g:=gb263) (o:=.cells #[.int .i64 a1_0,.bool a1_1,.int .i64 a1_2,.int .i64 a1_3] 51 (0,0)) (by (with_reducible repeat first|apply b1_|apply b2_|apply b3_);refine b4_ ?_ NB263_268.out _;(with_reducible repeat first|apply b1_|apply b2_|apply b3_);refine b4_ ?_ NB263_268.out _;(with_reducible repeat first|apply b1_|apply b2_|apply b3_);exact BK263.out) hb);have n1_:=m_ (blk_below (g:=gb268) (o:=.cells #[.int .i64 t265,.int .i64 t266] 49 (0,0)) (by (with_reducible repeat first|apply b1_|apply b2_|apply b3_);refine blk_put (cs:=#[.int .i64 t265,.int .i64 0]) ?_ 1 _ rfl;(with_reducible repeat first|apply b1_|apply b2_|apply b3_);refine blk_put (cs:=#[.int .i64 0,.int .i64 0]) ?_ 0 _ rfl;(with_reducible repeat first|apply b1_|apply b2_|apply b3_);exact BK268.out) hb);have n2_:=m_ (l5_ (puN HB.out GE263.out GE268.out) hb);revert n0_ n1_ n2_;clear BK263 BK268 HB;intro BK263 BK268 HB;(try clear hb);(try clear hb2);(try clear hk);(try clear hi)))
     go_ret
     exact ⟨eqs,puN HB.out GE263.out GE268.out⟩
    ·replace c13:=Bool.eq_false_iff.mpr c13
     subst c13
     replace H:=ifn H
     obtain rfl:=Option.some.inj H
     have hcz23_0 : wc.cell? ⟨gb263,0,none⟩ = some (.int .i64 a1_0):=(c_ BK263.out 0).trans rfl
     have hcz23_1 : wc.cell? ⟨gb263,1,none⟩ = some (.bool a1_1):=(c_ BK263.out 1).trans rfl
     have hcz23_2 : wc.cell? ⟨gb263,2,none⟩ = some (.int .i64 a1_2):=(c_ BK263.out 2).trans rfl
     have hcz23_3 : wc.cell? ⟨gb263,3,none⟩ = some (.int .i64 a1_3):=(c_ BK263.out 3).trans rfl
     have hfz23_0:=f_ BK263.out 0
     have hfz23_1:=f_ BK263.out 1
     have hfz23_2:=f_ BK263.out 2
     have hfz23_3:=f_ BK263.out 3
     go_wp2_with (first|((with_reducible refine gate_callee (f:=71) rfl ?_);refine goesL_ (some 24) rfl rfl Tryz.func71 (by kernel_rfl) rfl #[.slice A0 l0.length c0,.int .i64 a1_3] rfl lens ?_;(with_reducible refine (spec_l3In.calls _ _ l0 a1_3 t265 t266 false _ ?side1 ?side2 A12.out).mono ?_);(case side1=>exact puC (Kd.C_below HR0.out HB.out));(case side2=>exact HC0.out);rintro e w24 ⟨rfl,hb⟩;refine ⟨_,rfl,?_⟩;have n0_:=m_ (blk_below (g:=gb263) (o:=.cells #[.int .i64 a1_0,.bool a1_1,.int .i64 a1_2,.int .i64 a1_3] 51 (0,0)) (puB BK263.out) hb);have n1_:=m_ (l5_ (puM HB.out GE263.out) hb);revert n0_ n1_;clear BK263 HB;intro BK263 HB;(try clear hb);(try clear hb2);(try clear hk);(try clear hi))|((with_reducible refine gate_dst (N:=7) rfl ?_);refine box_event ?hg (N:=7) ?hd (cs:=#[.int .i64 0,.int .i64 0]) (t:=49) ?hr ?_;(case hd=>rfl);(case hg=>rfl);(case hr=>first|(go_simp;done)|(go_simp;rfl));intro gb268 hg w25 hbox hb;have n0_:=m_ (blk_below (g:=gb263) (o:=.cells #[.int .i64 a1_0,.bool a1_1,.int .i64 a1_2,.int .i64 a1_3] 51 (0,0)) (puB BK263.out) hb);have n1_:=m_ (l5_ (puM HB.out GE263.out) hb);have n2_:=m_ (hbox);have n3_:=m_ ((by rw [hg];exact (l6_ (puM HB.out GE263.out)) : w.heap.size ≤ gb268));have n4_:=n3_;have n5_:=m_ ((by rw [hg];exact Nat.ne_of_lt (blk_lt (g:=gb263) (o:=.cells #[.int .i64 a1_0,.bool a1_1,.int .i64 a1_2,.int .i64 a1_3] 51 (0,0)) (puB BK263.out)) : gb263 ≠ gb268));have n6_:=m_ n5_.out.symm;revert n0_ n1_ n2_ n3_ n4_ n5_ n6_;clear BK263 HB;intro BK263 HB BK268 GW268 GE268 NB263_268 NB268_263;clear hb hbox hg;have hnb26:=NB268_263.out;have hnc26:=NB263_268.out;have hcz27_0 : w25.cell? ⟨gb268,0,none⟩ = some (.int .i64 0):=(c_ BK268.out 0).trans rfl;have hcz27_1 : w25.cell? ⟨gb268,1,none⟩ = some (.int .i64 0):=(c_ BK268.out 1).trans rfl;have hfz27_0:=f_ BK268.out 0;have hfz27_1:=f_ BK268.out 1))
     go_ret
     exact ⟨eqs,puN HB.out GE263.out GE268.out⟩

end Go.Proofs.YtkcjmmhleepjeaaGreatDoor.A
