-- Printed by myprint.py (wip/tools) out of the translation. Not trusted: Lean checks it.
import Derived.Test.YtkcjmmhleepjeaaGreatDoorAx0
namespace Go.Proofs.YtkcjmmhleepjeaaGreatDoor.A
open Go.RowKit Go.Proofs.YtkcjmmhleepjeaaGreatDoorW.PrintWords Go.Proofs.YtkcjmmhleepjeaaGreatDoorW.PrintLast Go.Proofs.YtkcjmmhleepjeaaGreatDoorW.PrintMore
attribute [local go_sem] max2_int min2_int max_two min_two max_three min_three max_four min_four
set_option linter.unusedVariables false
set_option linter.unusedSimpArgs false

/-! ### spec_l11Out: function 33 -/
def spec_l11Out.l0 : Nat → ByteArray → Int → ByteArray → List (S31) → Option (ByteArray)
 | 0, _, _, _, _ => none
 | k + 1, x3, x4, x516000, x516001 => if x4 < (x516001.length : Int) then (if 0 ≤ x4 then (if x3.size + ((rd_T31 x516001 x4).f1).size ≤ 9223372036854775807 then (spec_l11Out.l0 k (x3 ++ ((rd_T31 x516001 x4).f1)) (wrap64 (x4 + 1)) x516000 x516001) else (none)) else (none)) else (some x3)
def spec_l11Out.f (k : Nat) (a0_0 : ByteArray) (l0_1 : List (S31)) : Option (ByteArray) := spec_l11Out.l0 k (⟨#[]⟩ : ByteArray) 0 a0_0 l0_1
theorem spec_l11Out.mono_l : ∀ k, (∀ y0 y1 y2 y3, LeO (spec_l11Out.l0 k y0 y1 y2 y3) (spec_l11Out.l0 (k + 1) y0 y1 y2 y3))
 | 0 => fun _ _ _ _ r h => by simp [spec_l11Out.l0] at h
 | k + 1 => by
  have ih0:=spec_l11Out.mono_l k
  ·intro y0 y1 y2 y3
   unfold spec_l11Out.l0
   exact leo1 ih0
theorem spec_l11Out.mono : ∀ a0 a1 k, LeO (spec_l11Out.f k a0 a1) (spec_l11Out.f (k + 1) a0 a1) := by
 intro a0 a1 k
 have ih0:=spec_l11Out.mono_l k
 unfold spec_l11Out.f
 exact leo1 ih0
set_option maxHeartbeats 8000000 in
set_option maxRecDepth 100000 in
theorem spec_l11Out.calls (k : Nat) (a0_0 : ByteArray) (A0_1 : Option Addr) (c0_1 : Nat) (l0_1 : List (S31)) (r : ByteArray) (w : World) (hr0_1 : Kd.C k31 w A0_1 l0_1.length l0_1) (hc0_1 : l0_1.length ≤ c0_1) (h : spec_l11Out.f k a0_0 l0_1 = some r) :
  Calls Tryz.prog 33 #[.agg #[.string a0_0,.slice A0_1 l0_1.length c0_1]] w fun e w'=>e = .returned (.string r) ∧ Below w.heap.size w w':=by
 have hu25:=Tryz.underlying25
 have HR0_1:=m_ hr0_1
 have HC0_1:=m_ hc0_1
 clear hr0_1 hc0_1
 have HB:=m_ (Below.refl w.heap.size w)
 have H : (spec_l11Out.l0 k (⟨#[]⟩ : ByteArray) 0 a0_0 l0_1) = some r:=h
 clear h
 have H':=m_ H
 clear H
 go_enter Tryz.func33,Tryz.ntmps33
 go_wp2_with (first|((with_reducible refine gate_dst (N:=1) rfl ?_);refine box_event ?hg (N:=1) ?hd (cs:=#[.string a0_0,.slice A0_1 l0_1.length c0_1]) (t:=25) ?hr ?_;(case hd=>rfl);(case hg=>rfl);(case hr=>first|(go_simp;done)|(go_simp;rfl));intro gb515 hg w2 hbox hb;have n0_:=m_ (l5_ (puL HB.out) hb);have n1_:=m_ (hbox);have n2_:=m_ ((by rw [hg];exact (l6_ (puL HB.out)) : w.heap.size ≤ gb515));have n3_:=n2_;revert n0_ n1_ n2_ n3_;clear HB;intro HB BK515 GW515 GE515;clear hb hbox hg))
 go_loopg [3,4] k (fun kq v3 v4 w'=>∃ (x3_1 : ByteArray) (x4_1 : Int),v3 = .string x3_1 ∧ v4 = .int .i64 x4_1 ∧ Aside0 (spec_l11Out.l0 kq x3_1 x4_1 a0_0 l0_1 = some r) ∧ Aside0 (kq ≤ k) ∧ Aside0 (w'.heap[gb515]? = some (.cells #[.string a0_0,(.slice A0_1 l0_1.length c0_1)] 25 (0,0))) ∧ Aside0 (Below w.heap.size w w'))
 case atStart=>exact ⟨((⟨#[]⟩ : ByteArray)),(0),(by first|rfl|(simp;done)|(simp [*];done)),(by first|rfl|(simp;done)|(simp [*];done)),H',⟨Nat.le_refl _⟩,⟨by (with_reducible repeat first|apply b1_|apply b2_|apply b3_);exact BK515.out⟩,⟨puM HB.out GE515.out⟩⟩
 case round =>
  clear H'
  try clear p2
  obtain ⟨x3_1,x4_1,rfl,rfl,HA,HK1,BK515,HB⟩:=hrel
  cases gk with
  | zero => exact absurd HA.out (by simp [spec_l11Out.l0])
  | succ k1 =>
   have H:=HA.out
   clear HA
   simp only [spec_l11Out.l0] at H
   by_cases c3 : x4_1 < (l0_1.length : Int)
   ·rw [if_pos c3] at H
    have c3b0 : decide (x4_1 < (l0_1.length : Int)) = true:=decide_eq_true c3
    clear c3
    by_cases c4 : 0 ≤ x4_1
    rotate_left
    ·rw [if_neg c4] at H
     exact absurd H (by simp)
    rw [if_pos c4] at H
    have c4b0 : decide (0 ≤ x4_1) = true:=decide_eq_true c4
    clear c4
    by_cases c5 : x3_1.size + ((rd_T31 l0_1 x4_1).f1).size ≤ 9223372036854775807
    rotate_left
    ·rw [if_neg c5] at H
     exact absurd H (by simp)
    rw [if_pos c5] at H
    have c5b0:=eq_true c5
    have c5b1:=decide_eq_true c5
    try have c5b2 : (9223372036854775807 < x3_1.size + ((rd_T31 l0_1 x4_1).f1).size) = False:=eq_false (Nat.not_lt.2 c5)
    have H':=m_ H
    clear H
    have hcz6_0 : wr.cell? ⟨gb515,0,none⟩ = some (.string a0_0):=(c_ BK515.out 0).trans rfl
    have hcz6_1 : wr.cell? ⟨gb515,1,none⟩ = some (.slice A0_1 l0_1.length c0_1):=(c_ BK515.out 1).trans rfl
    have p516 : 0 ≤ (x4_1 : Int):=of_decide_eq_true asm
    have q516 : x4_1 < (l0_1.length : Int):=of_decide_eq_true asm
    obtain ⟨ad516,e516,hx516_0,hx516_1⟩:=at_T31 HR0_1.out x4_1 p516 q516
    cases e516
    replace hx516_0:=(HB.out.cell (World.block_lt_of_cell? w _ hx516_0)).trans hx516_0
    replace hx516_1:=(HB.out.cell (World.block_lt_of_cell? w _ hx516_1)).trans hx516_1
    replace p516:=eq_true p516
    replace q516:=eq_true q516
    go_wp2
    go_roundg k1
    case measure=>have:=HK1.out;omega
    case rel=>exact ⟨(x3_1 ++ ((rd_T31 l0_1 x4_1).f1)),(wrap64 (x4_1 + 1)),(by first|rfl|(simp;done)|(simp [*];done)),(by first|rfl|(simp;done)|(simp [*];done)),H',⟨by have:=HK1.out;omega⟩,⟨by (with_reducible repeat first|apply b1_|apply b2_|apply b3_);exact BK515.out⟩,⟨puM HB.out GE515.out⟩⟩
   ·rw [if_neg c3] at H
    have c3b0 : decide (x4_1 < (l0_1.length : Int)) = false:=decide_eq_false c3
    clear c3
    obtain rfl:=Option.some.inj H
    have hcz7_0 : wr.cell? ⟨gb515,0,none⟩ = some (.string a0_0):=(c_ BK515.out 0).trans rfl
    have hcz7_1 : wr.cell? ⟨gb515,1,none⟩ = some (.slice A0_1 l0_1.length c0_1):=(c_ BK515.out 1).trans rfl
    go_wp2
    go_ret
    exact ⟨eqs,puM HB.out GE515.out⟩

end Go.Proofs.YtkcjmmhleepjeaaGreatDoor.A
