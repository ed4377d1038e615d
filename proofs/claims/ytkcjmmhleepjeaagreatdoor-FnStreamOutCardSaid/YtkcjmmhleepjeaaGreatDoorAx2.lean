-- Printed by myprint.py (wip/tools) out of the translation. Not trusted: Lean checks it.
import Derived.Test.YtkcjmmhleepjeaaGreatDoorAx0
import Derived.Test.YtkcjmmhleepjeaaGreatDoorAx1
namespace Go.Proofs.YtkcjmmhleepjeaaGreatDoor.A
open Go.RowKit Go.Proofs.YtkcjmmhleepjeaaGreatDoorW.PrintWords Go.Proofs.YtkcjmmhleepjeaaGreatDoorW.PrintLast Go.Proofs.YtkcjmmhleepjeaaGreatDoorW.PrintMore
attribute [local go_sem] max2_int min2_int max_two min_two max_three min_three max_four min_four
set_option linter.unusedVariables false
set_option maxHeartbeats 8000000
set_option maxRecDepth 100000
set_option linter.unusedSimpArgs false

attribute [local go_sem high] eqA49
/-- A state of type 56 at block g of W; what its slices lead to came in by w0. -/
def IsS56 (w0 W : World) (g : Nat) (f0 : List Int) (f1 : Int) : Prop := ∃ A0 c0, W.heap[g]? = some (.cells #[.slice A0 f0.length c0, .int .i64 f1] 56 (0, 0)) ∧ w0.heap.size ≤ g ∧ Kd.C (Kd.int .u8) w0 A0 f0.length f0
theorem IsS56.grown {w0 W : World} {g : Nat} {f0 : List Int} {f1 : Int} {W1 : World} {row : Option Nat} (h : IsS56 w0 W g f0 f1) (hw : W.grownBy W1 row) (hne : some g ≠ row) : IsS56 w0 W1 g f0 f1 := by
 obtain ⟨A0,c0,hb,hg,hr0⟩:=h
 exact ⟨A0,c0,blk_grown hb hw hne,hg,hr0⟩
theorem IsS56.own_neN {w0 W : World} {g : Nat} {f0 : List Int} {f1 : Int} {α : Type} {d : Kd α} {e : Nat} {base : Nat} {ok : Nat → Prop} {v : Value} {xs : List α} (h : IsS56 w0 W g f0 f1) (ho : Kd.N d e W base ok v xs) (ht : e ≠ 56) : some g ≠ v.ownBlock := by
 obtain ⟨A0,c0,hb,hg,hr0⟩:=h
 exact Kd.N_ne ho hb ht
theorem IsS56.fresh {w0 W : World} {g : Nat} {f0 : List Int} {f1 : Int} (h : IsS56 w0 W g f0 f1) : ∀ k, W.heap.size ≤ k → k ≠ g := by
 obtain ⟨A0,c0,hb,hg,hr0⟩:=h
 exact Kd.freshB hb
theorem IsS56.kept {w0 W : World} {g : Nat} {f0 : List Int} {f1 : Int} {W1 : World} {S : Nat → Prop} (h : IsS56 w0 W g f0 f1) (hk : Kept W W1 S) (hne : ¬ S g) : IsS56 w0 W1 g f0 f1 := by
 obtain ⟨A0,c0,hb,hg,hr0⟩:=h
 exact ⟨A0,c0,blk_kept hb hk hne,hg,hr0⟩
theorem IsS56.below {w0 W : World} {g : Nat} {f0 : List Int} {f1 : Int} {W1 : World} (h : IsS56 w0 W g f0 f1) (hw : Below W.heap.size W W1) : IsS56 w0 W1 g f0 f1 := h.grown (grown_of_below hw none) (by simp)
theorem IsS56.alloc {w0 W : World} {g : Nat} {f0 : List Int} {f1 : Int} (h : IsS56 w0 W g f0 f1) (o : Obj) : IsS56 w0 (W.alloc o) g f0 f1 := h.below (below_alloc (Below.refl _ _) o)
theorem IsS56.drewN {w0 W : World} {g : Nat} {f0 : List Int} {f1 : Int} (h : IsS56 w0 W g f0 f1) (m : Nat) : IsS56 w0 (W.drewN m) g f0 f1 := h
theorem IsS56.drew {w0 W : World} {g : Nat} {f0 : List Int} {f1 : Int} (h : IsS56 w0 W g f0 f1) : IsS56 w0 W.drew g f0 f1 := h
theorem IsS56.at_ {w0 W : World} {g : Nat} {f0 : List Int} {f1 : Int} {w' : World} {m : Nat} (hq : W.drewN m = w') (h : IsS56 w0 W g f0 f1) : IsS56 w0 w' g f0 f1 := by subst hq; exact IsS56.drewN h m
theorem IsS56.apart {w0 W : World} {g : Nat} {f0 : List Int} {f1 : Int} {α : Type} {d : Kd α} {e : Nat} {base : Nat} {ok : Nat → Prop} {v : Value} {xs : List α} (h : IsS56 w0 W g f0 f1) (ho : d.R e W base ok v xs) (ht : ∀ q, q ∈ e :: d.E → q ≠ 56) : d.R e W base (fun k => ok k ∧ k ≠ g) v xs := by
 obtain ⟨A0,c0,hb,hg,hr0⟩:=h
 exact Kd.R_types ho hb ht
theorem IsS56.own_ne {w0 W : World} {g : Nat} {f0 : List Int} {f1 : Int} {α : Type} {d : Kd α} {e : Nat} {base : Nat} {ok : Nat → Prop} {v : Value} {xs : List α} (h : IsS56 w0 W g f0 f1) (ho : d.R e W base ok v xs) (ht : e ≠ 56) : some g ≠ v.ownBlock := by
 obtain ⟨A0,c0,hb,hg,hr0⟩:=h
 exact Kd.R_ne ho hb ht
theorem IsS56.apartQ {w0 W : World} {g : Nat} {f0 : List Int} {f1 : Int} {α : Type} {d : Kd α} {e : Nat} {base : Nat} {ok : Nat → Prop} {v : Value} {xs : List α} (h : IsS56 w0 W g f0 f1) (ho : d.Q e W base ok v xs) (ht : ∀ q, q ∈ e :: d.E → q ≠ 56) : d.Q e W base (fun k => ok k ∧ k ≠ g) v xs := by
 obtain ⟨A0,c0,hb,hg,hr0⟩:=h
 exact Kd.Q_types ho hb ht
theorem IsS56.own_neQ {w0 W : World} {g : Nat} {f0 : List Int} {f1 : Int} {α : Type} {d : Kd α} {e : Nat} {base : Nat} {ok : Nat → Prop} {v : Value} {xs : List α} (h : IsS56 w0 W g f0 f1) (ho : d.Q e W base ok v xs) (ht : e ≠ 56) : some g ≠ v.ownBlock := by
 obtain ⟨A0,c0,hb,hg,hr0⟩:=h
 exact Kd.Q_ne ho hb ht
theorem IsS56.apartS {w0 W : World} {g : Nat} {f0 : List Int} {f1 : Int} {α : Type} {d : Kd α} {e : Nat} {base : Nat} {ok : Nat → Prop} {v : Value} {xs : List α} (h : IsS56 w0 W g f0 f1) (ho : d.S e W base ok v xs) (ht : ∀ q, q ∈ e :: d.E → q ≠ 56) : d.S e W base (fun k => ok k ∧ k ≠ g) v xs := by
 obtain ⟨A0,c0,hb,hg,hr0⟩:=h
 exact Kd.S_types ho hb ht
theorem IsS56.own_neS {w0 W : World} {g : Nat} {f0 : List Int} {f1 : Int} {α : Type} {d : Kd α} {e : Nat} {base : Nat} {ok : Nat → Prop} {v : Value} {xs : List α} (h : IsS56 w0 W g f0 f1) (ho : d.S e W base ok v xs) (ht : e ≠ 56) : some g ≠ v.ownBlock := by
 obtain ⟨A0,c0,hb,hg,hr0⟩:=h
 exact Kd.S_ne ho hb ht
theorem IsS56.lt {w0 W : World} {g : Nat} {f0 : List Int} {f1 : Int} (h : IsS56 w0 W g f0 f1) : g < W.heap.size := by
 obtain ⟨A0,c0,hb,hg,hr0⟩:=h
 exact blk_lt hb
theorem IsS56.ge {w0 W : World} {g : Nat} {f0 : List Int} {f1 : Int} (h : IsS56 w0 W g f0 f1) : w0.heap.size ≤ g := by
 obtain ⟨A0,c0,hb,hg,hr0⟩:=h
 exact hg
theorem IsS56.ne_blk {w0 W : World} {g : Nat} {f0 : List Int} {f1 : Int} {a : Nat} {cs : Array Value} {t : TypeId} {fr : Nat × Nat} (h : IsS56 w0 W g f0 f1) (hb2 : W.heap[a]? = some (.cells cs t fr)) (ht : t ≠ 56) : g ≠ a := by
 obtain ⟨A0,c0,hb,hg,hr0⟩:=h
 rintro rfl
 rw [hb] at hb2
 injection hb2 with hb2
 injection hb2 with _ ht2
 exact ht ht2.symm
theorem IsS56.far {w0 W : World} {g : Nat} {f0 : List Int} {f1 : Int} {p : Addr} (h : IsS56 w0 W g f0 f1) (hne : g ≠ p.block) (u : Value) : IsS56 w0 (W.setCell p u) g f0 f1 := by
 obtain ⟨A0,c0,hb,hg,hr0⟩:=h
 exact ⟨A0,c0,b4_ hb hne u,hg,hr0⟩
theorem cellS56_0 {W : World} {g : Nat} {A0 : Option Addr} {c0 : Nat} {f0 : List Int} {f1 : Int} (h : W.heap[g]? = some (.cells #[.slice A0 f0.length c0, .int .i64 f1] 56 (0, 0))) : W.cell? ⟨g, 0, none⟩ = some (.slice A0 f0.length c0) := (blk_cell h 0).trans rfl
theorem cellS56_1 {W : World} {g : Nat} {A0 : Option Addr} {c0 : Nat} {f0 : List Int} {f1 : Int} (h : W.heap[g]? = some (.cells #[.slice A0 f0.length c0, .int .i64 f1] 56 (0, 0))) : W.cell? ⟨g, 1, none⟩ = some (.int .i64 f1) := (blk_cell h 1).trans rfl
theorem IsS56.set_1 {w0 W : World} {g : Nat} {f0 : List Int} {f1 : Int} (h : IsS56 w0 W g f0 f1) (x : Int) : IsS56 w0 (W.setCell ⟨g, 1, none⟩ (.int .i64 x)) g f0 x := by
 obtain ⟨A0,c0,hb,hg,hr0⟩:=h
 exact ⟨A0,c0,by simpa using blk_set hb 1 (.int .i64 x),hg,hr0⟩
theorem IsS56.new (w0 W : World) (A0 : Option Addr) (c0 : Nat) (f0 : List Int) (f1 : Int) (hB : Below w0.heap.size w0 W) (hr0 : Kd.C (Kd.int .u8) w0 A0 f0.length f0) : IsS56 w0 (W.alloc (.cells #[.slice A0 f0.length c0, .int .i64 f1] 56)) W.heap.size f0 f1 := ⟨A0, c0, by simpa using heap_alloc_new W _, hB.size, hr0⟩

/-! ### spec_l6Open: function 22 -/
def spec_l6Open.f (l0 : List Int) : Option (List Int × Int) := if (l0.length : Int) > 2000 then (if 2000 ≤ (l0.length : Int) then (some (l0.take 2000, 0)) else (none)) else (some (l0, 0))
theorem spec_l6Open.calls (A0 : Option Addr) (c0 : Nat) (l0 : List Int) (r1 : List Int) (r2 : Int) (w0 w : World) (hB : Below w0.heap.size w0 w) (hr0 : Kd.C (Kd.int .u8) w0 A0 l0.length l0) (hc0 : l0.length ≤ c0) (h : spec_l6Open.f l0 = some (r1, r2)) :
  Calls Tryz.prog 22 #[.slice A0 l0.length c0] w fun e w'=>∃ g_ : Nat,e = .returned (.pointer (some ⟨g_,0,none⟩)) ∧ IsS56 w0 w' g_ r1 r2 ∧ Below w0.heap.size w0 w' ∧ Below w.heap.size w w':=by
 have hu56:=Tryz.underlying56
 have HR0:=m_ hr0
 have HC0:=m_ hc0
 clear hr0 hc0
 have HBW:=m_ (Below.refl w.heap.size w)
 have HW0:=m_ hB.size
 have HB:=m_ hB
 clear hB
 have H : (if (l0.length : Int) > 2000 then (if 2000 ≤ (l0.length : Int) then (some (l0.take 2000,0)) else (none)) else (some (l0,0))) = some (r1,r2):=h
 clear h
 by_cases c2 : (l0.length : Int) > 2000
 ·rw [if_pos c2] at H
  have c2b0 : decide (2000 < (l0.length : Int)) = true:=decide_eq_true c2
  have c2b1 : decide (2000 < l0.length) = true:=decide_eq_true (by omega)
  clear c2
  by_cases c3 : 2000 ≤ (l0.length : Int)
  ·rw [if_pos c3] at H
   have c3b0:=eq_true c3
   have c3b1:=decide_eq_true c3
   clear c3
   simp only [Option.some.injEq,Prod.mk.injEq] at H
   obtain ⟨rfl,rfl⟩:=H
   obtain ⟨i04,hi04,_,hsz4,_⟩:=info_parts info5
   obtain ⟨hcut4,hA4,hC4⟩:=print_take_of (P:=Tryz.prog) (Value.int .u8) 0 22 5 .i64 Tryz.underlying22 hi04 hsz4 A0 c0 l0 2000 (by omega) (of_decide_eq_true asm) HC0.out
   have HR101:=m_ (Kd.C_of_reads (h1:=fun _=>rfl) (hA4 _ (Kd.reads_of_C HR0.out)))
   have HC101:=m_ hC4
   clear hA4 hC4 hi04 hsz4
   go_enter Tryz.func22,Tryz.ntmps22
   go_wp2_with (first|((with_reducible refine gate_dst (N:=10) rfl ?_);refine box_event ?hg (N:=10) ?hd (cs:=#[.slice A0 (l0.take 2000).length c0,.int .i64 0]) (t:=56) ?hr ?_;(case hd=>rfl);(case hg=>rfl);(case hr=>first|(go_simp;done)|(go_simp;rfl));intro gb102 hg w5 hbox hb;have n0_:=m_ (l5_ HBW.out hb);have n1_:=m_ (l5_ (puL HB.out) hb);have n2_:=m_ (hbox);have n3_:=m_ ((by rw [hg];exact (l6_ (by repeat (first|(with_reducible first|exact HBW.out|apply l1_|apply l2_|apply l3_)|exact HBW.out))) : w.heap.size ≤ gb102));have n4_:=m_ ((Nat.le_trans HW0.out (by rw [hg];exact (l6_ (by repeat (first|(with_reducible first|exact HBW.out|apply l1_|apply l2_|apply l3_)|exact HBW.out))) : w.heap.size ≤ gb102) : w0.heap.size ≤ gb102));revert n0_ n1_ n2_ n3_ n4_;clear HBW HB;intro HBW HB BK102 GW102 GE102;clear hb hbox hg))
   go_ret
   exact ⟨_,rfl,(show IsS56 w0 _ gb102 (l0.take 2000) 0 from ⟨_,_,by (with_reducible repeat first|apply b1_|apply b2_|apply b3_);exact BK102.out,GE102.out,HR101.out⟩),puM HB.out GE102.out,by repeat (first|(with_reducible first|exact HBW.out|apply l1_|apply l2_|apply l3_|refine l4_ ?_ GW102.out)|exact HBW.out)⟩
  ·rw [if_neg c3] at H
   exact absurd H (by simp)
 ·rw [if_neg c2] at H
  have c2b0 : decide (2000 < (l0.length : Int)) = false:=decide_eq_false c2
  have c2b1 : decide (2000 < l0.length) = false:=decide_eq_false (by omega)
  clear c2
  simp only [Option.some.injEq,Prod.mk.injEq] at H
  obtain ⟨rfl,rfl⟩:=H
  go_enter Tryz.func22,Tryz.ntmps22
  go_wp2_with (first|((with_reducible refine gate_dst (N:=10) rfl ?_);refine box_event ?hg (N:=10) ?hd (cs:=#[.slice A0 l0.length c0,.int .i64 0]) (t:=56) ?hr ?_;(case hd=>rfl);(case hg=>rfl);(case hr=>first|(go_simp;done)|(go_simp;rfl));intro gb103 hg w6 hbox hb;have n0_:=m_ (l5_ HBW.out hb);have n1_:=m_ (l5_ (puL HB.out) hb);have n2_:=m_ (hbox);have n3_:=m_ ((by rw [hg];exact (l6_ (by repeat (first|(with_reducible first|exact HBW.out|apply l1_|apply l2_|apply l3_)|exact HBW.out))) : w.heap.size ≤ gb103));have n4_:=m_ ((Nat.le_trans HW0.out (by rw [hg];exact (l6_ (by repeat (first|(with_reducible first|exact HBW.out|apply l1_|apply l2_|apply l3_)|exact HBW.out))) : w.heap.size ≤ gb103) : w0.heap.size ≤ gb103));revert n0_ n1_ n2_ n3_ n4_;clear HBW HB;intro HBW HB BK103 GW103 GE103;clear hb hbox hg))
  go_ret
  exact ⟨_,rfl,(show IsS56 w0 _ gb103 l0 0 from ⟨_,_,by (with_reducible repeat first|apply b1_|apply b2_|apply b3_);exact BK103.out,GE103.out,HR0.out⟩),puM HB.out GE103.out,by repeat (first|(with_reducible first|exact HBW.out|apply l1_|apply l2_|apply l3_|refine l4_ ?_ GW103.out)|exact HBW.out)⟩

/-! ### spec_l6Rd_pick: function 24 -/
def spec_l6Rd_pick.j0 : Nat → Int → Bool → List Int → Int → Option (Int × Int)
 | 0, _, _, _, _ => none
 | k + 1, x1, x24, x1000, x1001 => if x24 = true then (some (0, x1001)) else (if (wrap64 (x1001 - 1)) < (x1000.length : Int) then (if 0 ≤ (wrap64 (x1001 - 1)) then (if x1 = 0 then (none) else (some (Int.tmod (wrap64 (rd x1000 (wrap64 (x1001 - 1)))) x1, x1001))) else (none)) else (if (x1000.length : Int) = 0 then (none) else (if 0 ≤ (Int.tmod (wrap64 (x1001 - 1)) (x1000.length : Int)) then (if (Int.tmod (wrap64 (x1001 - 1)) (x1000.length : Int)) < (x1000.length : Int) then (if 0 ≤ (Int.tmod (wrap64 ((wrap64 ((wrap64 (x1001 - 1)) * 7)) + 3)) (x1000.length : Int)) then (if (Int.tmod (wrap64 ((wrap64 ((wrap64 (x1001 - 1)) * 7)) + 3)) (x1000.length : Int)) < (x1000.length : Int) then (if x1 = 0 then (none) else (some (Int.tmod (Go.bits .xor .i64 (wrap64 ((wrap64 ((wrap64 ((wrap64 ((wrap64 (rd x1000 (Int.tmod (wrap64 (x1001 - 1)) (x1000.length : Int)))) * 131)) + (wrap64 ((wrap64 (rd x1000 (Int.tmod (wrap64 ((wrap64 ((wrap64 (x1001 - 1)) * 7)) + 3)) (x1000.length : Int)))) * 1117)))) + (wrap64 ((wrap64 (x1001 - 1)) * 29)))) + (wrap64 ((wrap64 (Int.tdiv (wrap64 (x1001 - 1)) (x1000.length : Int))) * 53)))) (wrap64 (Int.tdiv (wrap64 ((wrap64 ((wrap64 ((wrap64 ((wrap64 (rd x1000 (Int.tmod (wrap64 (x1001 - 1)) (x1000.length : Int)))) * 131)) + (wrap64 ((wrap64 (rd x1000 (Int.tmod (wrap64 ((wrap64 ((wrap64 (x1001 - 1)) * 7)) + 3)) (x1000.length : Int)))) * 1117)))) + (wrap64 ((wrap64 (x1001 - 1)) * 29)))) + (wrap64 ((wrap64 (Int.tdiv (wrap64 (x1001 - 1)) (x1000.length : Int))) * 53)))) 64))) x1, x1001))) else (none)) else (none)) else (none)) else (none))))
def spec_l6Rd_pick.f (k : Nat) (s0_0 : List Int) (s0_1 : Int) (a1 : Int) : Option (Int × Int) := if a1 < 1 then (spec_l6Rd_pick.j0 k a1 true s0_0 (wrap64 (s0_1 + 1))) else (spec_l6Rd_pick.j0 k a1 ((s0_0.length : Int) == 0) s0_0 (wrap64 (s0_1 + 1)))
theorem spec_l6Rd_pick.mono_l : ∀ k, (∀ y0 y1 y2 y3, LeO (spec_l6Rd_pick.j0 k y0 y1 y2 y3) (spec_l6Rd_pick.j0 (k + 1) y0 y1 y2 y3))
 | 0 => fun _ _ _ _ r h => by simp [spec_l6Rd_pick.j0] at h
 | k + 1 => by
  have ih0:=spec_l6Rd_pick.mono_l k
  ·intro y0 y1 y2 y3
   unfold spec_l6Rd_pick.j0
   exact leo1 ih0
theorem spec_l6Rd_pick.mono : ∀ a0 a1 a2 k, LeO (spec_l6Rd_pick.f k a0 a1 a2) (spec_l6Rd_pick.f (k + 1) a0 a1 a2) := by
 intro a0 a1 a2 k
 have ih0:=spec_l6Rd_pick.mono_l k
 unfold spec_l6Rd_pick.f
 exact leo1 ih0
theorem spec_l6Rd_pick.calls (k : Nat) (g : Nat) (s0_0 : List Int) (s0_1 : Int) (a1 : Int) (r1 : Int) (r2 : Int) (w0 w : World) (hI : IsS56 w0 w g s0_0 s0_1) (hB : Below w0.heap.size w0 w) (h : spec_l6Rd_pick.f k s0_0 s0_1 a1 = some (r1, r2)) :
  Calls Tryz.prog 24 #[.pointer (some ⟨g,0,none⟩),.int .i64 a1] w fun e w'=>e = .returned (.int .i64 r1) ∧ IsS56 w0 w' g s0_0 r2 ∧ Below w0.heap.size w0 w' ∧ KeepBut w w' g none:=by
 have HI0:=m_ hI
 have HK:=m_ (KeepBut.refl w g none)
 have HL:=m_ hB.size
 clear hI
 have HW0:=m_ hB.size
 have HB:=m_ hB
 clear hB
 have H : (if a1 < 1 then (spec_l6Rd_pick.j0 k a1 true s0_0 (wrap64 (s0_1 + 1))) else (spec_l6Rd_pick.j0 k a1 ((s0_0.length : Int) == 0) s0_0 (wrap64 (s0_1 + 1)))) = some (r1,r2):=h
 clear h
 have HC3:=m_ H
 clear H
 obtain ⟨ASz4_0,cSz4_0,HGz4,hgz4,HSz4_0⟩:=HI0.out
 have hcz4_0:=cellS56_0 HGz4
 have hcz4_1:=cellS56_1 HGz4
 have hfz4_1:=f_ HGz4 1
 clear HGz4 hgz4
 go_enter Tryz.func24,Tryz.ntmps24
 go_upto_region 2 with (fail)
 repeat (go_quiet (fail);go_upto_region 2 with (fail))
 go_cut [24] (fun v24 wc=>∃ (kq : Nat) (x24_2 : Bool),v24 = .bool x24_2 ∧ Aside0 (spec_l6Rd_pick.j0 kq a1 x24_2 s0_0 (wrap64 (s0_1 + 1)) = some (r1,r2)) ∧ Aside0 (kq ≤ k) ∧ Aside0 (IsS56 w0 wc g s0_0 (wrap64 (s0_1 + 1))) ∧ Aside0 (KeepBut w wc g none) ∧ Aside0 (Below w0.heap.size w0 wc))
 case first =>
  have H:=HC3.out
  clear HC3
  by_cases c5 : a1 < 1
  ·rw [if_pos c5] at H
   have c5b0 : decide (a1 < 1) = true:=decide_eq_true c5
   clear c5
   (first|rw [c5b0]|(simp only [i64_w,i32_w];rw [c5b0])|skip)
   have H':=m_ H
   clear H
   go_wp2
   repeat (go_quiet (fail);try go_wp2)
   go_meet
   case rel=>exact ⟨_,(true),(by first|rfl|(simp;done)|(simp [*];done)),H',⟨by first|omega|exact Nat.le_refl _⟩,⟨by repeat (first|(with_reducible first|exact HI0.out|apply IsS56.alloc|apply IsS56.drewN|apply IsS56.drew|apply IsS56.set_1)|exact HI0.out)⟩,⟨puK HK.out⟩,⟨puM HB.out (IsS56.ge HI0.out)⟩⟩
  ·rw [if_neg c5] at H
   have c5b0 : decide (a1 < 1) = false:=decide_eq_false c5
   clear c5
   (first|rw [c5b0]|(simp only [i64_w,i32_w];rw [c5b0])|skip)
   have H':=m_ H
   clear H
   obtain ⟨ASz6_0,cSz6_0,HGz6,hgz6,HSz6_0⟩:=HI0.out
   have hcz6_0:=cellS56_0 HGz6
   have hcz6_1:=cellS56_1 HGz6
   have hfz6_1:=f_ HGz6 1
   clear HGz6 hgz6
   go_wp2
   repeat (go_quiet (fail);try go_wp2)
   go_meet
   case rel=>exact ⟨_,(((s0_0.length : Int) == 0)),(by first|rfl|(simp;done)|(simp [*];done)),H',⟨by first|omega|exact Nat.le_refl _⟩,⟨by repeat (first|(with_reducible first|exact HI0.out|apply IsS56.alloc|apply IsS56.drewN|apply IsS56.drew|apply IsS56.set_1)|exact HI0.out)⟩,⟨puK HK.out⟩,⟨puM HB.out (IsS56.ge HI0.out)⟩⟩
 case rest =>
  clear HC3
  try clear c2
  try clear p2
  try clear c5
  try clear c5b0
  try clear p6
  try clear hcz4_0
  try clear hcz4_1
  try clear hcz6_0
  try clear hcz6_1
  try clear hfz4_1
  try clear hfz6_1
  obtain ⟨kq,x24_2,rfl,HA,HJ2,HI0,HK,HB⟩:=hcut
  cases kq with
  | zero => exact absurd HA.out (by simp [spec_l6Rd_pick.j0])
  | succ kj2 =>
   have H:=HA.out
   clear HA
   simp only [spec_l6Rd_pick.j0] at H
   by_cases c7 : x24_2 = true
   ·subst c7
    replace H:=ifp H rfl
    simp only [Option.some.injEq,Prod.mk.injEq] at H
    obtain ⟨rfl,rfl⟩:=H
    go_wp2
    repeat (go_quiet (fail);try go_wp2)
    go_ret
    exact ⟨eqs,by repeat (first|(with_reducible first|exact HI0.out|apply IsS56.alloc|apply IsS56.drewN|apply IsS56.drew|apply IsS56.set_1)|exact HI0.out),puM HB.out (IsS56.ge HI0.out),puK HK.out⟩
   ·replace c7:=Bool.eq_false_iff.mpr c7
    subst c7
    replace H:=ifn H
    by_cases c8 : (wrap64 ((wrap64 (s0_1 + 1)) - 1)) < (s0_0.length : Int)
    ·rw [if_pos c8] at H
     have c8b0 : decide ((wrap64 ((wrap64 (s0_1 + 1)) - 1)) < (s0_0.length : Int)) = true:=decide_eq_true c8
     clear c8
     obtain ⟨ji9,hji9⟩ : ∃ j_ : Int,(wrap64 ((wrap64 (s0_1 + 1)) - 1)) = j_:=⟨_,rfl⟩
     replace H : (if 0 ≤ (ji9) then (if a1 = 0 then (none) else (some (Int.tmod (wrap64 (rd s0_0 (ji9))) a1,(wrap64 (s0_1 + 1))))) else (none)) = some (r1,r2):=by first|(rw [hji9] at H;exact H)|(simp only [hji9] at H ⊢;exact H)
     (try rw [hji9] at c8b0)
     have hji9w : (IntKind.i64.wrap ((wrap64 (s0_1 + 1)) - 1)) = ji9:=(i64_w _).trans hji9
     by_cases c10 : 0 ≤ (ji9)
     rotate_left
     ·rw [if_neg c10] at H
      exact absurd H (by simp)
     rw [if_pos c10] at H
     have c10b0 : decide (0 ≤ (ji9)) = true:=decide_eq_true c10
     clear c10
     by_cases c11 : a1 = 0
     ·rw [if_pos c11] at H
      exact absurd H (by simp)
     ·rw [if_neg c11] at H
      have c11b0 : (a1 == 0) = false:=beq_eq_false_iff_ne.mpr c11
      have c11b1 : (a1 != 0) = true:=bne_iff_ne.mpr c11
      simp only [Option.some.injEq,Prod.mk.injEq] at H
      obtain ⟨rfl,rfl⟩:=H
      obtain ⟨ASz12_0,cSz12_0,HGz12,hgz12,HSz12_0⟩:=HI0.out
      have hcz12_0:=cellS56_0 HGz12
      have hcz12_1:=cellS56_1 HGz12
      have hfz12_1:=f_ HGz12 1
      clear HGz12 hgz12
      have p104 : 0 ≤ ((ji9) : Int):=of_decide_eq_true asm
      have q104 : (ji9) < (s0_0.length : Int):=of_decide_eq_true asm
      obtain ⟨ad104,e104,hx104_0⟩:=Kd.at_int HSz12_0 (ji9) p104 q104
      cases e104
      replace hx104_0:=pw_cell_below HB.out hx104_0
      replace p104:=eq_true p104
      replace q104:=eq_true q104
      go_wp2
      repeat (go_quiet (fail);try go_wp2)
      go_ret
      exact ⟨by first|rfl|(simp [e1_,e2_] <;> rfl)|(simp only [← hji9];first|rfl|(simp [e1_,e2_] <;> rfl))|(simp [*,e1_,e2_] <;> rfl)|(simp [e1_,e2_,pk_empty1,pk_empty2];done)|(simp [*,e1_,e2_,pk_empty1,pk_empty2];done),by repeat (first|(with_reducible first|exact HI0.out|apply IsS56.alloc|apply IsS56.drewN|apply IsS56.drew|apply IsS56.set_1)|exact HI0.out),puM HB.out (IsS56.ge HI0.out),puK HK.out⟩
    ·rw [if_neg c8] at H
     have c8b0 : decide ((wrap64 ((wrap64 (s0_1 + 1)) - 1)) < (s0_0.length : Int)) = false:=decide_eq_false c8
     clear c8
     by_cases c13 : (s0_0.length : Int) = 0
     ·rw [if_pos c13] at H
      exact absurd H (by simp)
     ·rw [if_neg c13] at H
      have c13b0 : ((s0_0.length : Int) == 0) = false:=beq_eq_false_iff_ne.mpr c13
      have c13b1 : ((s0_0.length : Int) != 0) = true:=bne_iff_ne.mpr c13
      have c13b2 : ¬ (s0_0 = []):=fun h_=>c13 (by rw [h_];rfl)
      obtain ⟨ji14,hji14⟩ : ∃ j_ : Int,(Int.tmod (wrap64 ((wrap64 (s0_1 + 1)) - 1)) (s0_0.length : Int)) = j_:=⟨_,rfl⟩
      replace H : (if 0 ≤ (ji14) then (if (ji14) < (s0_0.length : Int) then (if 0 ≤ (Int.tmod (wrap64 ((wrap64 ((wrap64 ((wrap64 (s0_1 + 1)) - 1)) * 7)) + 3)) (s0_0.length : Int)) then (if (Int.tmod (wrap64 ((wrap64 ((wrap64 ((wrap64 (s0_1 + 1)) - 1)) * 7)) + 3)) (s0_0.length : Int)) < (s0_0.length : Int) then (if a1 = 0 then (none) else (some (Int.tmod (Go.bits .xor .i64 (wrap64 ((wrap64 ((wrap64 ((wrap64 ((wrap64 (rd s0_0 (ji14))) * 131)) + (wrap64 ((wrap64 (rd s0_0 (Int.tmod (wrap64 ((wrap64 ((wrap64 ((wrap64 (s0_1 + 1)) - 1)) * 7)) + 3)) (s0_0.length : Int)))) * 1117)))) + (wrap64 ((wrap64 ((wrap64 (s0_1 + 1)) - 1)) * 29)))) + (wrap64 ((wrap64 (Int.tdiv (wrap64 ((wrap64 (s0_1 + 1)) - 1)) (s0_0.length : Int))) * 53)))) (wrap64 (Int.tdiv (wrap64 ((wrap64 ((wrap64 ((wrap64 ((wrap64 (rd s0_0 (ji14))) * 131)) + (wrap64 ((wrap64 (rd s0_0 (Int.tmod (wrap64 ((wrap64 ((wrap64 ((wrap64 (s0_1 + 1)) - 1)) * 7)) + 3)) (s0_0.length : Int)))) * 1117)))) + (wrap64 ((wrap64 ((wrap64 (s0_1 + 1)) - 1)) * 29)))) + (wrap64 ((wrap64 (Int.tdiv (wrap64 ((wrap64 (s0_1 + 1)) - 1)) (s0_0.length : Int))) * 53)))) 64))) a1,(wrap64 (s0_1 + 1))))) else (none)) else (none)) else (none)) else (none)) = some (r1,r2):=by first|(rw [hji14] at H;exact H)|(simp only [hji14] at H ⊢;exact H)
      by_cases c15 : 0 ≤ (ji14)
      rotate_left
      ·rw [if_neg c15] at H
       exact absurd H (by simp)
      rw [if_pos c15] at H
      have c15b0 : decide (0 ≤ (ji14)) = true:=decide_eq_true c15
      clear c15
      by_cases c16 : (ji14) < (s0_0.length : Int)
      rotate_left
      ·rw [if_neg c16] at H
       exact absurd H (by simp)
      rw [if_pos c16] at H
      have c16b0 : decide ((ji14) < (s0_0.length : Int)) = true:=decide_eq_true c16
      clear c16
      obtain ⟨ji17,hji17⟩ : ∃ j_ : Int,(Int.tmod (wrap64 ((wrap64 ((wrap64 ((wrap64 (s0_1 + 1)) - 1)) * 7)) + 3)) (s0_0.length : Int)) = j_:=⟨_,rfl⟩
      replace H : (if 0 ≤ (ji17) then (if (ji17) < (s0_0.length : Int) then (if a1 = 0 then (none) else (some (Int.tmod (Go.bits .xor .i64 (wrap64 ((wrap64 ((wrap64 ((wrap64 ((wrap64 (rd s0_0 (ji14))) * 131)) + (wrap64 ((wrap64 (rd s0_0 (ji17))) * 1117)))) + (wrap64 ((wrap64 ((wrap64 (s0_1 + 1)) - 1)) * 29)))) + (wrap64 ((wrap64 (Int.tdiv (wrap64 ((wrap64 (s0_1 + 1)) - 1)) (s0_0.length : Int))) * 53)))) (wrap64 (Int.tdiv (wrap64 ((wrap64 ((wrap64 ((wrap64 ((wrap64 (rd s0_0 (ji14))) * 131)) + (wrap64 ((wrap64 (rd s0_0 (ji17))) * 1117)))) + (wrap64 ((wrap64 ((wrap64 (s0_1 + 1)) - 1)) * 29)))) + (wrap64 ((wrap64 (Int.tdiv (wrap64 ((wrap64 (s0_1 + 1)) - 1)) (s0_0.length : Int))) * 53)))) 64))) a1,(wrap64 (s0_1 + 1))))) else (none)) else (none)) = some (r1,r2):=by first|(rw [hji17] at H;exact H)|(simp only [hji17] at H ⊢;exact H)
      by_cases c18 : 0 ≤ (ji17)
      rotate_left
      ·rw [if_neg c18] at H
       exact absurd H (by simp)
      rw [if_pos c18] at H
      have c18b0 : decide (0 ≤ (ji17)) = true:=decide_eq_true c18
      clear c18
      by_cases c19 : (ji17) < (s0_0.length : Int)
      rotate_left
      ·rw [if_neg c19] at H
       exact absurd H (by simp)
      rw [if_pos c19] at H
      have c19b0 : decide ((ji17) < (s0_0.length : Int)) = true:=decide_eq_true c19
      clear c19
      by_cases c20 : a1 = 0
      ·rw [if_pos c20] at H
       exact absurd H (by simp)
      ·rw [if_neg c20] at H
       have c20b0 : (a1 == 0) = false:=beq_eq_false_iff_ne.mpr c20
       have c20b1 : (a1 != 0) = true:=bne_iff_ne.mpr c20
       simp only [Option.some.injEq,Prod.mk.injEq] at H
       obtain ⟨rfl,rfl⟩:=H
       obtain ⟨ASz21_0,cSz21_0,HGz21,hgz21,HSz21_0⟩:=HI0.out
       have hcz21_0:=cellS56_0 HGz21
       have hcz21_1:=cellS56_1 HGz21
       have hfz21_1:=f_ HGz21 1
       clear HGz21 hgz21
       have p105 : 0 ≤ ((ji14) : Int):=of_decide_eq_true asm
       have q105 : (ji14) < (s0_0.length : Int):=of_decide_eq_true asm
       obtain ⟨ad105,e105,hx105_0⟩:=Kd.at_int HSz21_0 (ji14) p105 q105
       cases e105
       replace hx105_0:=pw_cell_below HB.out hx105_0
       replace p105:=eq_true p105
       replace q105:=eq_true q105
       have p106 : 0 ≤ ((ji17) : Int):=of_decide_eq_true asm
       have q106 : (ji17) < (s0_0.length : Int):=of_decide_eq_true asm
       obtain ⟨ad106,e106,hx106_0⟩:=Kd.at_int HSz21_0 (ji17) p106 q106
       obtain rfl : ad105 = ad106:=(by injection e106)
       replace hx106_0:=pw_cell_below HB.out hx106_0
       replace p106:=eq_true p106
       replace q106:=eq_true q106
       go_wp2
       repeat (go_quiet (fail);try go_wp2)
       go_ret
       exact ⟨by first|rfl|(simp [e1_,e2_] <;> rfl)|(simp only [← hji14,← hji17];first|rfl|(simp [e1_,e2_] <;> rfl))|(simp [*,e1_,e2_] <;> rfl)|(simp [e1_,e2_,pk_empty1,pk_empty2];done)|(simp [*,e1_,e2_,pk_empty1,pk_empty2];done),by repeat (first|(with_reducible first|exact HI0.out|apply IsS56.alloc|apply IsS56.drewN|apply IsS56.drew|apply IsS56.set_1)|exact HI0.out),puM HB.out (IsS56.ge HI0.out),puK HK.out⟩

/-! ### spec_l3Out: function 54 -/
def spec_l3Out.l0 : Nat → List (S79) → Int → Int → Int → Option ((List (S79)) × Int × Bool)
 | 0, _, _, _, _ => none
 | k + 1, x0, x7, x108000, x108001 => if x7 < (x0.length : Int) then (if 0 ≤ x7 then (if (((rd_T79 x0 x7).f1.f0) == x108000 && (((rd_T79 x0 x7).f1.f1) == x108001)) = true then (some (x0, (rd_T79 x0 x7).f0, true)) else (spec_l3Out.l0 k x0 (wrap64 (x7 + 1)) x108000 x108001)) else (none)) else (if (x0.length : Int) > 7 then (some (x0, 0, false)) else (if x0.length < 5864062014805 then (some ((x0 ++ [(⟨wrap64 (10 + (x0.length : Int)), (⟨x108000, x108001⟩ : S49)⟩ : S79)]), wrap64 (10 + (x0.length : Int)), true)) else (none)))
def spec_l3Out.f (k : Nat) (l0 : List (S79)) (a1_0 : Int) (a1_1 : Int) : Option ((List (S79)) × Int × Bool) := spec_l3Out.l0 k l0 0 a1_0 a1_1
theorem spec_l3Out.mono_l : ∀ k, (∀ y0 y1 y2 y3, LeO (spec_l3Out.l0 k y0 y1 y2 y3) (spec_l3Out.l0 (k + 1) y0 y1 y2 y3))
 | 0 => fun _ _ _ _ r h => by simp [spec_l3Out.l0] at h
 | k + 1 => by
  have ih0:=spec_l3Out.mono_l k
  ·intro y0 y1 y2 y3
   unfold spec_l3Out.l0
   exact leo1 ih0
theorem spec_l3Out.mono : ∀ a0 a1 a2 k, LeO (spec_l3Out.f k a0 a1 a2) (spec_l3Out.f (k + 1) a0 a1 a2) := by
 intro a0 a1 a2 k
 have ih0:=spec_l3Out.mono_l k
 unfold spec_l3Out.f
 exact leo1 ih0
theorem spec_l3Out.calls2 (k : Nat) (P0_ : Nat → Prop) (u9000_ : Value) (l0 : List (S79)) (a1_0 : Int) (a1_1 : Int) (r1 : List (S79)) (r2 : Int) (r3 : Bool) (w0 w : World) (hB : Below w0.heap.size w0 w) (ho0 : Kd.Q k79 79 w w0.heap.size P0_ u9000_ l0) (h : spec_l3Out.f k l0 a1_0 a1_1 = some (r1, r2, r3)) :
  Calls Tryz.prog 54 #[u9000_,.agg #[.int .i64 a1_0,.int .i64 a1_1]] w fun e w'=>∃ v0_ : Value,e = .returned (.tuple #[v0_,.int .i64 r2,.bool r3]) ∧ Kd.Q k79 79 w' w0.heap.size (fun k_=>(P0_ k_ ∨ w.heap.size ≤ k_)) v0_ r1 ∧ Below w0.heap.size w0 w' ∧ Kept w w' (fun k_=>P0_ k_) ∧ (r3 = false → v0_ = u9000_):=by
 have hu49:=Tryz.underlying49
 have hu79:=Tryz.underlying79
 have HO0:=m_ (show Kd.Q k79 79 w w0.heap.size (fun k_=>(P0_ k_ ∨ w.heap.size ≤ k_)) u9000_ l0 from Kd.Q_mono ho0 (fun k_ hk=>(.inl hk)))
 have HK:=m_ (Kept.refl w (fun k_=>P0_ k_))
 have HW0:=m_ hB.size
 have HB:=m_ hB
 clear hB
 have H : (spec_l3Out.l0 k l0 0 a1_0 a1_1) = some (r1,r2,r3):=h
 clear h
 have H':=m_ H
 clear H
 go_enter Tryz.func54,Tryz.ntmps54
 go_wp2_with (first|((with_reducible refine gate_dst (N:=3) rfl ?_);refine box_event ?hg (N:=3) ?hd (cs:=#[.int .i64 a1_0,.int .i64 a1_1]) (t:=49) ?hr ?_;(case hd=>rfl);(case hg=>rfl);(case hr=>first|(go_simp;done)|(go_simp;rfl));intro gb107 hg w3 hbox hb;have n0_:=m_ (Kd.Q_below (puQ HO0.out) hb);have n1_:=m_ (Kept.below (S:=(fun k_=>P0_ k_)) (by repeat (first|(with_reducible first|exact HK.out|apply Kept.alloc|apply Kept.drewN|apply Kept.drew)|exact HK.out)) hb);have n2_:=m_ (l5_ (puL HB.out) hb);have n3_:=m_ (hbox);have n4_:=m_ ((by rw [hg];exact (by first|exact HK.out.1|exact (show Kept w _ (fun k_=>P0_ k_) from by repeat (first|(with_reducible first|exact HK.out|apply Kept.alloc|apply Kept.drewN|apply Kept.drew)|exact HK.out)).1) : w.heap.size ≤ gb107));have n5_:=m_ ((by rw [hg];exact (l6_ (puL HB.out)) : w0.heap.size ≤ gb107));revert n0_ n1_ n2_ n3_ n4_ n5_;clear HO0 HK HB;intro HO0 HK HB BK107 GW107 GE107;clear hb hbox hg))
 repeat (go_quiet (first|((with_reducible refine gate_dst (N:=3) rfl ?_);refine box_event ?hg (N:=3) ?hd (cs:=#[.int .i64 a1_0,.int .i64 a1_1]) (t:=49) ?hr ?_;(case hd=>rfl);(case hg=>rfl);(case hr=>first|(go_simp;done)|(go_simp;rfl));intro gb107 hg w3 hbox hb;have n0_:=m_ (Kd.Q_below (puQ HO0.out) hb);have n1_:=m_ (Kept.below (S:=(fun k_=>P0_ k_)) (by repeat (first|(with_reducible first|exact HK.out|apply Kept.alloc|apply Kept.drewN|apply Kept.drew)|exact HK.out)) hb);have n2_:=m_ (l5_ (puL HB.out) hb);have n3_:=m_ (hbox);have n4_:=m_ ((by rw [hg];exact (by first|exact HK.out.1|exact (show Kept w _ (fun k_=>P0_ k_) from by repeat (first|(with_reducible first|exact HK.out|apply Kept.alloc|apply Kept.drewN|apply Kept.drew)|exact HK.out)).1) : w.heap.size ≤ gb107));have n5_:=m_ ((by rw [hg];exact (l6_ (puL HB.out)) : w0.heap.size ≤ gb107));revert n0_ n1_ n2_ n3_ n4_ n5_;clear HO0 HK HB;intro HO0 HK HB BK107 GW107 GE107;clear hb hbox hg));try go_wp2_with (first|((with_reducible refine gate_dst (N:=3) rfl ?_);refine box_event ?hg (N:=3) ?hd (cs:=#[.int .i64 a1_0,.int .i64 a1_1]) (t:=49) ?hr ?_;(case hd=>rfl);(case hg=>rfl);(case hr=>first|(go_simp;done)|(go_simp;rfl));intro gb107 hg w3 hbox hb;have n0_:=m_ (Kd.Q_below (puQ HO0.out) hb);have n1_:=m_ (Kept.below (S:=(fun k_=>P0_ k_)) (by repeat (first|(with_reducible first|exact HK.out|apply Kept.alloc|apply Kept.drewN|apply Kept.drew)|exact HK.out)) hb);have n2_:=m_ (l5_ (puL HB.out) hb);have n3_:=m_ (hbox);have n4_:=m_ ((by rw [hg];exact (by first|exact HK.out.1|exact (show Kept w _ (fun k_=>P0_ k_) from by repeat (first|(with_reducible first|exact HK.out|apply Kept.alloc|apply Kept.drewN|apply Kept.drew)|exact HK.out)).1) : w.heap.size ≤ gb107));have n5_:=m_ ((by rw [hg];exact (l6_ (puL HB.out)) : w0.heap.size ≤ gb107));revert n0_ n1_ n2_ n3_ n4_ n5_;clear HO0 HK HB;intro HO0 HK HB BK107 GW107 GE107;clear hb hbox hg)))
 go_loopg [7] k (fun kq v7 w'=>∃ (x7_1 : Int),v7 = .int .i64 x7_1 ∧ Aside0 (spec_l3Out.l0 kq l0 x7_1 a1_0 a1_1 = some (r1,r2,r3)) ∧ Aside0 (kq ≤ k) ∧ Aside0 (Kd.Q k79 79 w' w0.heap.size (fun k_=>(P0_ k_ ∨ w.heap.size ≤ k_)) u9000_ l0) ∧ Aside0 (w'.heap[gb107]? = some (.cells #[.int .i64 a1_0,.int .i64 a1_1] 49 (0,0))) ∧ Aside0 (Kept w w' (fun k_=>P0_ k_)) ∧ Aside0 (Below w0.heap.size w0 w'))
 case atStart=>exact ⟨(0),(by first|rfl|(simp;done)|(simp [*];done)),H',⟨Nat.le_refl _⟩,⟨by (with_reducible repeat (first|apply Kd.Q_alloc|apply Kd.Q_drewN|apply Kd.Q_drew));exact HO0.out⟩,⟨by (with_reducible repeat first|apply b1_|apply b2_|apply b3_);exact BK107.out⟩,⟨by repeat (first|(with_reducible first|exact HK.out|apply Kept.alloc|apply Kept.drewN|apply Kept.drew|refine Kept.setCell ?_ (.inr GW107.out) _)|exact HK.out)⟩,⟨puM HB.out GE107.out⟩⟩
 case round =>
  clear H'
  try clear p2
  obtain ⟨x7_1,rfl,HA,HK1,HO_0,BK107,HK,HB⟩:=hrel
  cases gk with
  | zero => exact absurd HA.out (by simp [spec_l3Out.l0])
  | succ k1 =>
   have H:=HA.out
   clear HA
   simp only [spec_l3Out.l0] at H
   by_cases c4 : x7_1 < (l0.length : Int)
   ·rw [if_pos c4] at H
    have c4b0 : decide (x7_1 < (l0.length : Int)) = true:=decide_eq_true c4
    clear c4
    by_cases c5 : 0 ≤ x7_1
    rotate_left
    ·rw [if_neg c5] at H
     exact absurd H (by simp)
    rw [if_pos c5] at H
    have c5b0 : decide (0 ≤ x7_1) = true:=decide_eq_true c5
    clear c5
    by_cases c6 : (((rd_T79 l0 x7_1).f1.f0) == a1_0 && (((rd_T79 l0 x7_1).f1.f1) == a1_1)) = true
    ·rw [if_pos c6] at H
     have c6b0 : (((rd_T79 l0 x7_1).f1.f0) == a1_0 && (((rd_T79 l0 x7_1).f1.f1) == a1_1)) = true:=c6
     (try (have c6b1 : decide (((rd_T79 l0 x7_1).f1.f0) = a1_0 && (((rd_T79 l0 x7_1).f1.f1) == a1_1)) = true:=by simpa using c6))
     (try (have c6b2 : (((rd_T79 l0 x7_1).f1.f0) == a1_0 && (((rd_T79 l0 x7_1).f1.f1) == a1_1)) = true:=by simpa using c6))
     clear c6
     simp only [Option.some.injEq,Prod.mk.injEq] at H
     obtain ⟨rfl,rfl,rfl⟩:=H
     obtain ⟨Ao7,co7,eo7,_⟩:=Kd.Q_slice HO_0.out
     subst eo7
     have p108 : 0 ≤ (x7_1 : Int):=of_decide_eq_true asm
     have q108 : x7_1 < (l0.length : Int):=of_decide_eq_true asm
     obtain ⟨ad108,e108,hx108_0,hx108_1,hx108_2⟩:=at_T79 (Kd.Q_reads' HO_0.out).2.2 x7_1 p108 q108
     cases e108
     replace p108:=eq_true p108
     replace q108:=eq_true q108
     have hcz8_0 : wr.cell? ⟨gb107,0,none⟩ = some (.int .i64 a1_0):=(c_ BK107.out 0).trans rfl
     have hcz8_1 : wr.cell? ⟨gb107,1,none⟩ = some (.int .i64 a1_1):=(c_ BK107.out 1).trans rfl
     have p109 : 0 ≤ (x7_1 : Int):=of_decide_eq_true asm
     have q109 : x7_1 < (l0.length : Int):=of_decide_eq_true asm
     obtain ⟨ad109,e109,hx109_0,hx109_1,hx109_2⟩:=at_T79 (Kd.Q_reads' HO_0.out).2.2 x7_1 p109 q109
     obtain rfl : ad108 = ad109:=(by injection e109)
     replace p109:=eq_true p109
     replace q109:=eq_true q109
     go_wp2
     repeat (go_quiet (fail);try go_wp2)
     go_ret3
     exact ⟨_,eqs,puQ HO_0.out,puM HB.out GE107.out,by repeat (first|(with_reducible first|exact HK.out|apply Kept.alloc|apply Kept.drewN|apply Kept.drew|refine Kept.setCell ?_ (.inr GW107.out) _)|exact HK.out),by first|rfl|(intro h_;first|rfl|cases h_)⟩
    ·rw [if_neg c6] at H
     have c6b0 : (((rd_T79 l0 x7_1).f1.f0) == a1_0 && (((rd_T79 l0 x7_1).f1.f1) == a1_1)) = false:=by simpa using c6
     (try (have c6b1 : decide (((rd_T79 l0 x7_1).f1.f0) = a1_0 && (((rd_T79 l0 x7_1).f1.f1) == a1_1)) = false:=by simpa using c6))
     (try (have c6b2 : (((rd_T79 l0 x7_1).f1.f0) == a1_0 && (((rd_T79 l0 x7_1).f1.f1) == a1_1)) = false:=by simpa using c6))
     (try (have c6b3 : ¬ (((rd_T79 l0 x7_1).f1.f0) = a1_0 && (((rd_T79 l0 x7_1).f1.f1) == a1_1)):=by simpa using c6))
     clear c6
     have H':=m_ H
     clear H
     obtain ⟨Ao9,co9,eo9,_⟩:=Kd.Q_slice HO_0.out
     subst eo9
     have p108 : 0 ≤ (x7_1 : Int):=of_decide_eq_true asm
     have q108 : x7_1 < (l0.length : Int):=of_decide_eq_true asm
     obtain ⟨ad108,e108,hx108_0,hx108_1,hx108_2⟩:=at_T79 (Kd.Q_reads' HO_0.out).2.2 x7_1 p108 q108
     cases e108
     replace p108:=eq_true p108
     replace q108:=eq_true q108
     have hcz10_0 : wr.cell? ⟨gb107,0,none⟩ = some (.int .i64 a1_0):=(c_ BK107.out 0).trans rfl
     have hcz10_1 : wr.cell? ⟨gb107,1,none⟩ = some (.int .i64 a1_1):=(c_ BK107.out 1).trans rfl
     go_wp2
     repeat (go_quiet (fail);try go_wp2)
     go_roundg k1
     case measure=>have:=HK1.out;omega
     case rel=>exact ⟨(wrap64 (x7_1 + 1)),(by first|rfl|(simp;done)|(simp [*];done)),H',⟨by have:=HK1.out;omega⟩,⟨by (with_reducible repeat (first|apply Kd.Q_alloc|apply Kd.Q_drewN|apply Kd.Q_drew));exact HO_0.out⟩,⟨by (with_reducible repeat first|apply b1_|apply b2_|apply b3_);exact BK107.out⟩,⟨by repeat (first|(with_reducible first|exact HK.out|apply Kept.alloc|apply Kept.drewN|apply Kept.drew|refine Kept.setCell ?_ (.inr GW107.out) _)|exact HK.out)⟩,⟨puM HB.out GE107.out⟩⟩
   ·rw [if_neg c4] at H
    have c4b0 : decide (x7_1 < (l0.length : Int)) = false:=decide_eq_false c4
    clear c4
    by_cases c11 : (l0.length : Int) > 7
    ·rw [if_pos c11] at H
     have c11b0 : decide (7 < (l0.length : Int)) = true:=decide_eq_true c11
     have c11b1 : decide (7 < l0.length) = true:=decide_eq_true (by omega)
     clear c11
     simp only [Option.some.injEq,Prod.mk.injEq] at H
     obtain ⟨rfl,rfl,rfl⟩:=H
     obtain ⟨Ao12,co12,eo12,_⟩:=Kd.Q_slice HO_0.out
     subst eo12
     go_wp2
     repeat (go_quiet (fail);try go_wp2)
     go_ret3
     exact ⟨_,eqs,puQ HO_0.out,puM HB.out GE107.out,by repeat (first|(with_reducible first|exact HK.out|apply Kept.alloc|apply Kept.drewN|apply Kept.drew|refine Kept.setCell ?_ (.inr GW107.out) _)|exact HK.out),by first|rfl|(intro h_;first|rfl|cases h_)⟩
    ·rw [if_neg c11] at H
     have c11b0 : decide (7 < (l0.length : Int)) = false:=decide_eq_false c11
     have c11b1 : decide (7 < l0.length) = false:=decide_eq_false (by omega)
     clear c11
     by_cases c13 : l0.length < 5864062014805
     rotate_left
     ·rw [if_neg c13] at H
      exact absurd H (by simp)
     rw [if_pos c13] at H
     have LMc13:=m_ c13
     clear c13
     obtain ⟨y110,hy110⟩ : ∃ y_ : List (S79),y_ = (l0 ++ [(⟨wrap64 (10 + (l0.length : Int)),(⟨a1_0,a1_1⟩ : S49)⟩ : S79)]):=⟨_,rfl⟩
     replace H : (some (y110,wrap64 (10 + (l0.length : Int)),true)) = some (r1,r2,r3):=by first|(rw [hy110];with_reducible exact H)|(have H2_:=(Option.bind_some _ _).symm.trans H;rw [hy110];with_reducible exact H2_)|(have H2_:=(Option.bind_some _ _).symm.trans H;with_reducible exact H2_)|with_reducible exact H|(rw [hy110];exact H)|exact H
     have Ny110:=m_ hy110
     clear hy110
     simp only [Option.some.injEq,Prod.mk.injEq] at H
     obtain ⟨rfl,rfl,rfl⟩:=H
     obtain ⟨Ao14,co14,eo14,_⟩:=Kd.Q_slice HO_0.out
     subst eo14
     have hcz15_0 : wr.cell? ⟨gb107,0,none⟩ = some (.int .i64 a1_0):=(c_ BK107.out 0).trans rfl
     have hcz15_1 : wr.cell? ⟨gb107,1,none⟩ = some (.int .i64 a1_1):=(c_ BK107.out 1).trans rfl
     go_wp2_with (first|((with_reducible refine gate_builtin (b:=.append) (xs:=#[.tmp 35,.tmp 39]) rfl ?_);at_builtin;refine Kd.Q_append k79 (w0:=w0) w0.heap.size rfl (.tmp 35) (.tmp 39) 42 79 (.agg #[(.int .i64 0),(.int .i64 0),(.int .i64 0)]) 24 rfl Tryz.underlying42 info79 rfl (by decide) (by omega) (.slice Ao14 l0.length co14) l0 (⟨wrap64 (10 + (l0.length : Int)),(⟨a1_0,a1_1⟩ : S49)⟩ : S79) [.int .i64 (wrap64 (10 + (l0.length : Int))),.int .i64 a1_0,.int .i64 a1_1] (fun k_=>(P0_ k_ ∨ w.heap.size ≤ k_)) (fun _=>False) rfl rfl ?aP (fun _ hk=>hk.elim) ?aF ?aO ?aB ?aS ?aL ?_;(case aP=>exact k79_mkM _ _ _ (⟨wrap64 (10 + (l0.length : Int)),(⟨a1_0,a1_1⟩ : S49)⟩ : S79));(case aB=>exact (puM HB.out GE107.out));(case aF=>exact (fun k_ hk=>(.inr (Nat.le_trans (by first|exact HK.out.1|exact (show Kept w _ (fun k_=>P0_ k_) from by repeat (first|(with_reducible first|exact HK.out|apply Kept.alloc|apply Kept.drewN|apply Kept.drew|refine Kept.setCell ?_ (.inr GW107.out) _)|exact HK.out)).1) hk))));(case aO=>exact (puQ HO_0.out));(case aS=>exact (l6_ (puM HB.out GE107.out)));(case aL=>have:=LMc13.out;omega);intro v111 w16 ho hb hg hat;rw [← Ny110.out] at ho;have n0_:=m_ (blk_grown (g:=gb107) (o:=.cells #[.int .i64 a1_0,.int .i64 a1_1] 49 (0,0)) (puB BK107.out) hg (Kd.Q_ne HO_0.out BK107.out (by decide)));have n1_:=m_ (hb);have n2_:=m_ (Kept.of_grown (S:=(fun k_=>P0_ k_)) hg (by repeat (first|(with_reducible first|exact HK.out|apply Kept.alloc|apply Kept.drewN|apply Kept.drew|refine Kept.setCell ?_ (.inr GW107.out) _)|exact HK.out)) (fun k_ e_=>(HO_0.out.1 k_ e_)));have n3_:=m_ (ho);revert n0_ n1_ n2_ n3_;clear BK107 HB HK HO_0;intro BK107 HB HK HO112;clear ho hb hg hat))
     repeat (go_quiet (first|((with_reducible refine gate_builtin (b:=.append) (xs:=#[.tmp 35,.tmp 39]) rfl ?_);at_builtin;refine Kd.Q_append k79 (w0:=w0) w0.heap.size rfl (.tmp 35) (.tmp 39) 42 79 (.agg #[(.int .i64 0),(.int .i64 0),(.int .i64 0)]) 24 rfl Tryz.underlying42 info79 rfl (by decide) (by omega) (.slice Ao14 l0.length co14) l0 (⟨wrap64 (10 + (l0.length : Int)),(⟨a1_0,a1_1⟩ : S49)⟩ : S79) [.int .i64 (wrap64 (10 + (l0.length : Int))),.int .i64 a1_0,.int .i64 a1_1] (fun k_=>(P0_ k_ ∨ w.heap.size ≤ k_)) (fun _=>False) rfl rfl ?aP (fun _ hk=>hk.elim) ?aF ?aO ?aB ?aS ?aL ?_;(case aP=>exact k79_mkM _ _ _ (⟨wrap64 (10 + (l0.length : Int)),(⟨a1_0,a1_1⟩ : S49)⟩ : S79));(case aB=>exact (puM HB.out GE107.out));(case aF=>exact (fun k_ hk=>(.inr (Nat.le_trans (by first|exact HK.out.1|exact (show Kept w _ (fun k_=>P0_ k_) from by repeat (first|(with_reducible first|exact HK.out|apply Kept.alloc|apply Kept.drewN|apply Kept.drew|refine Kept.setCell ?_ (.inr GW107.out) _)|exact HK.out)).1) hk))));(case aO=>exact (puQ HO_0.out));(case aS=>exact (l6_ (puM HB.out GE107.out)));(case aL=>have:=LMc13.out;omega);intro v111 w16 ho hb hg hat;rw [← Ny110.out] at ho;have n0_:=m_ (blk_grown (g:=gb107) (o:=.cells #[.int .i64 a1_0,.int .i64 a1_1] 49 (0,0)) (puB BK107.out) hg (Kd.Q_ne HO_0.out BK107.out (by decide)));have n1_:=m_ (hb);have n2_:=m_ (Kept.of_grown (S:=(fun k_=>P0_ k_)) hg (by repeat (first|(with_reducible first|exact HK.out|apply Kept.alloc|apply Kept.drewN|apply Kept.drew|refine Kept.setCell ?_ (.inr GW107.out) _)|exact HK.out)) (fun k_ e_=>(HO_0.out.1 k_ e_)));have n3_:=m_ (ho);revert n0_ n1_ n2_ n3_;clear BK107 HB HK HO_0;intro BK107 HB HK HO112;clear ho hb hg hat));try go_wp2_with (first|((with_reducible refine gate_builtin (b:=.append) (xs:=#[.tmp 35,.tmp 39]) rfl ?_);at_builtin;refine Kd.Q_append k79 (w0:=w0) w0.heap.size rfl (.tmp 35) (.tmp 39) 42 79 (.agg #[(.int .i64 0),(.int .i64 0),(.int .i64 0)]) 24 rfl Tryz.underlying42 info79 rfl (by decide) (by omega) (.slice Ao14 l0.length co14) l0 (⟨wrap64 (10 + (l0.length : Int)),(⟨a1_0,a1_1⟩ : S49)⟩ : S79) [.int .i64 (wrap64 (10 + (l0.length : Int))),.int .i64 a1_0,.int .i64 a1_1] (fun k_=>(P0_ k_ ∨ w.heap.size ≤ k_)) (fun _=>False) rfl rfl ?aP (fun _ hk=>hk.elim) ?aF ?aO ?aB ?aS ?aL ?_;(case aP=>exact k79_mkM _ _ _ (⟨wrap64 (10 + (l0.length : Int)),(⟨a1_0,a1_1⟩ : S49)⟩ : S79));(case aB=>exact (puM HB.out GE107.out));(case aF=>exact (fun k_ hk=>(.inr (Nat.le_trans (by first|exact HK.out.1|exact (show Kept w _ (fun k_=>P0_ k_) from by repeat (first|(with_reducible first|exact HK.out|apply Kept.alloc|apply Kept.drewN|apply Kept.drew|refine Kept.setCell ?_ (.inr GW107.out) _)|exact HK.out)).1) hk))));(case aO=>exact (puQ HO_0.out));(case aS=>exact (l6_ (puM HB.out GE107.out)));(case aL=>have:=LMc13.out;omega);intro v111 w16 ho hb hg hat;rw [← Ny110.out] at ho;have n0_:=m_ (blk_grown (g:=gb107) (o:=.cells #[.int .i64 a1_0,.int .i64 a1_1] 49 (0,0)) (puB BK107.out) hg (Kd.Q_ne HO_0.out BK107.out (by decide)));have n1_:=m_ (hb);have n2_:=m_ (Kept.of_grown (S:=(fun k_=>P0_ k_)) hg (by repeat (first|(with_reducible first|exact HK.out|apply Kept.alloc|apply Kept.drewN|apply Kept.drew|refine Kept.setCell ?_ (.inr GW107.out) _)|exact HK.out)) (fun k_ e_=>(HO_0.out.1 k_ e_)));have n3_:=m_ (ho);revert n0_ n1_ n2_ n3_;clear BK107 HB HK HO_0;intro BK107 HB HK HO112;clear ho hb hg hat)))
     go_ret3
     exact ⟨_,eqs,puQ HO112.out,puM HB.out GE107.out,by repeat (first|(with_reducible first|exact HK.out|apply Kept.alloc|apply Kept.drewN|apply Kept.drew|refine Kept.setCell ?_ (.inr GW107.out) _)|exact HK.out),by first|rfl|(intro h_;first|rfl|cases h_)⟩
theorem spec_l3Out.calls (k : Nat) (P0_ : Nat → Prop) (u9000_ : Value) (l0 : List (S79)) (a1_0 : Int) (a1_1 : Int) (r1 : List (S79)) (r2 : Int) (r3 : Bool) (w0 w : World) (hB : Below w0.heap.size w0 w) (ho0 : Kd.Q k79 79 w w0.heap.size P0_ u9000_ l0) (h : spec_l3Out.f k l0 a1_0 a1_1 = some (r1, r2, r3)) :
  Calls Tryz.prog 54 #[u9000_,.agg #[.int .i64 a1_0,.int .i64 a1_1]] w fun e w'=>∃ v0_ : Value,e = .returned (.tuple #[v0_,.int .i64 r2,.bool r3]) ∧ Kd.Q k79 79 w' w0.heap.size (fun k_=>(P0_ k_ ∨ w.heap.size ≤ k_)) v0_ r1 ∧ Below w0.heap.size w0 w' ∧ Kept w w' (fun k_=>P0_ k_) :=
 (spec_l3Out.calls2 k P0_ u9000_ l0 a1_0 a1_1 r1 r2 r3 w0 w hB ho0 h).mono (fun e w' ⟨v_,a_,b_,c_,d_,_⟩=>⟨v_,a_,b_,c_,d_⟩)

end Go.Proofs.YtkcjmmhleepjeaaGreatDoor.A
