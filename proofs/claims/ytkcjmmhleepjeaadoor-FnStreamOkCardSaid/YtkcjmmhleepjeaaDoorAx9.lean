-- Printed by myprint.py (wip/tools) out of the translation. Not trusted: Lean checks it.
import Derived.Test.YtkcjmmhleepjeaaDoorAx0
import Derived.Test.YtkcjmmhleepjeaaDoorAx1
namespace Go.Proofs.YtkcjmmhleepjeaaDoor.A
open Go.RowKit Go.Proofs.YtkcjmmhleepjeaaDoorW.PrintWords Go.Proofs.YtkcjmmhleepjeaaDoorW.PrintLast Go.Proofs.YtkcjmmhleepjeaaDoorW.PrintMore
attribute [local go_sem] max2_int min2_int max_two min_two max_three min_three max_four min_four
set_option linter.unusedVariables false
set_option maxHeartbeats 8000000
set_option maxRecDepth 100000
set_option linter.unusedSimpArgs false

attribute [local go_sem high] eqA43
/-- A state of type 85 at block g of W; what its slices lead to came in by w0. -/
def IsS85 (w0 W : World) (g : Nat) (f0 : List Int) (f1 : Int) : Prop := ∃ A0 c0, W.heap[g]? = some (.cells #[.slice A0 f0.length c0, .int .i64 f1] 85 (0, 0)) ∧ w0.heap.size ≤ g ∧ Kd.C (Kd.int .u8) w0 A0 f0.length f0
theorem IsS85.grown {w0 W : World} {g : Nat} {f0 : List Int} {f1 : Int} {W1 : World} {row : Option Nat} (h : IsS85 w0 W g f0 f1) (hw : W.grownBy W1 row) (hne : some g ≠ row) : IsS85 w0 W1 g f0 f1 := by
 obtain ⟨A0,c0,hb,hg,hr0⟩:=h
 exact ⟨A0,c0,blk_grown hb hw hne,hg,hr0⟩
theorem IsS85.own_neN {w0 W : World} {g : Nat} {f0 : List Int} {f1 : Int} {α : Type} {d : Kd α} {e : Nat} {base : Nat} {ok : Nat → Prop} {v : Value} {xs : List α} (h : IsS85 w0 W g f0 f1) (ho : Kd.N d e W base ok v xs) (ht : e ≠ 85) : some g ≠ v.ownBlock := by
 obtain ⟨A0,c0,hb,hg,hr0⟩:=h
 exact Kd.N_ne ho hb ht
theorem IsS85.fresh {w0 W : World} {g : Nat} {f0 : List Int} {f1 : Int} (h : IsS85 w0 W g f0 f1) : ∀ k, W.heap.size ≤ k → k ≠ g := by
 obtain ⟨A0,c0,hb,hg,hr0⟩:=h
 exact Kd.freshB hb
theorem IsS85.kept {w0 W : World} {g : Nat} {f0 : List Int} {f1 : Int} {W1 : World} {S : Nat → Prop} (h : IsS85 w0 W g f0 f1) (hk : Kept W W1 S) (hne : ¬ S g) : IsS85 w0 W1 g f0 f1 := by
 obtain ⟨A0,c0,hb,hg,hr0⟩:=h
 exact ⟨A0,c0,blk_kept hb hk hne,hg,hr0⟩
theorem IsS85.below {w0 W : World} {g : Nat} {f0 : List Int} {f1 : Int} {W1 : World} (h : IsS85 w0 W g f0 f1) (hw : Below W.heap.size W W1) : IsS85 w0 W1 g f0 f1 := h.grown (grown_of_below hw none) (by simp)
theorem IsS85.alloc {w0 W : World} {g : Nat} {f0 : List Int} {f1 : Int} (h : IsS85 w0 W g f0 f1) (o : Obj) : IsS85 w0 (W.alloc o) g f0 f1 := h.below (below_alloc (Below.refl _ _) o)
theorem IsS85.drewN {w0 W : World} {g : Nat} {f0 : List Int} {f1 : Int} (h : IsS85 w0 W g f0 f1) (m : Nat) : IsS85 w0 (W.drewN m) g f0 f1 := h
theorem IsS85.drew {w0 W : World} {g : Nat} {f0 : List Int} {f1 : Int} (h : IsS85 w0 W g f0 f1) : IsS85 w0 W.drew g f0 f1 := h
theorem IsS85.at_ {w0 W : World} {g : Nat} {f0 : List Int} {f1 : Int} {w' : World} {m : Nat} (hq : W.drewN m = w') (h : IsS85 w0 W g f0 f1) : IsS85 w0 w' g f0 f1 := by subst hq; exact IsS85.drewN h m
theorem IsS85.apart {w0 W : World} {g : Nat} {f0 : List Int} {f1 : Int} {α : Type} {d : Kd α} {e : Nat} {base : Nat} {ok : Nat → Prop} {v : Value} {xs : List α} (h : IsS85 w0 W g f0 f1) (ho : d.R e W base ok v xs) (ht : ∀ q, q ∈ e :: d.E → q ≠ 85) : d.R e W base (fun k => ok k ∧ k ≠ g) v xs := by
 obtain ⟨A0,c0,hb,hg,hr0⟩:=h
 exact Kd.R_types ho hb ht
theorem IsS85.own_ne {w0 W : World} {g : Nat} {f0 : List Int} {f1 : Int} {α : Type} {d : Kd α} {e : Nat} {base : Nat} {ok : Nat → Prop} {v : Value} {xs : List α} (h : IsS85 w0 W g f0 f1) (ho : d.R e W base ok v xs) (ht : e ≠ 85) : some g ≠ v.ownBlock := by
 obtain ⟨A0,c0,hb,hg,hr0⟩:=h
 exact Kd.R_ne ho hb ht
theorem IsS85.apartQ {w0 W : World} {g : Nat} {f0 : List Int} {f1 : Int} {α : Type} {d : Kd α} {e : Nat} {base : Nat} {ok : Nat → Prop} {v : Value} {xs : List α} (h : IsS85 w0 W g f0 f1) (ho : d.Q e W base ok v xs) (ht : ∀ q, q ∈ e :: d.E → q ≠ 85) : d.Q e W base (fun k => ok k ∧ k ≠ g) v xs := by
 obtain ⟨A0,c0,hb,hg,hr0⟩:=h
 exact Kd.Q_types ho hb ht
theorem IsS85.own_neQ {w0 W : World} {g : Nat} {f0 : List Int} {f1 : Int} {α : Type} {d : Kd α} {e : Nat} {base : Nat} {ok : Nat → Prop} {v : Value} {xs : List α} (h : IsS85 w0 W g f0 f1) (ho : d.Q e W base ok v xs) (ht : e ≠ 85) : some g ≠ v.ownBlock := by
 obtain ⟨A0,c0,hb,hg,hr0⟩:=h
 exact Kd.Q_ne ho hb ht
theorem IsS85.apartS {w0 W : World} {g : Nat} {f0 : List Int} {f1 : Int} {α : Type} {d : Kd α} {e : Nat} {base : Nat} {ok : Nat → Prop} {v : Value} {xs : List α} (h : IsS85 w0 W g f0 f1) (ho : d.S e W base ok v xs) (ht : ∀ q, q ∈ e :: d.E → q ≠ 85) : d.S e W base (fun k => ok k ∧ k ≠ g) v xs := by
 obtain ⟨A0,c0,hb,hg,hr0⟩:=h
 exact Kd.S_types ho hb ht
theorem IsS85.own_neS {w0 W : World} {g : Nat} {f0 : List Int} {f1 : Int} {α : Type} {d : Kd α} {e : Nat} {base : Nat} {ok : Nat → Prop} {v : Value} {xs : List α} (h : IsS85 w0 W g f0 f1) (ho : d.S e W base ok v xs) (ht : e ≠ 85) : some g ≠ v.ownBlock := by
 obtain ⟨A0,c0,hb,hg,hr0⟩:=h
 exact Kd.S_ne ho hb ht
theorem IsS85.lt {w0 W : World} {g : Nat} {f0 : List Int} {f1 : Int} (h : IsS85 w0 W g f0 f1) : g < W.heap.size := by
 obtain ⟨A0,c0,hb,hg,hr0⟩:=h
 exact blk_lt hb
theorem IsS85.ge {w0 W : World} {g : Nat} {f0 : List Int} {f1 : Int} (h : IsS85 w0 W g f0 f1) : w0.heap.size ≤ g := by
 obtain ⟨A0,c0,hb,hg,hr0⟩:=h
 exact hg
theorem IsS85.ne_blk {w0 W : World} {g : Nat} {f0 : List Int} {f1 : Int} {a : Nat} {cs : Array Value} {t : TypeId} {fr : Nat × Nat} (h : IsS85 w0 W g f0 f1) (hb2 : W.heap[a]? = some (.cells cs t fr)) (ht : t ≠ 85) : g ≠ a := by
 obtain ⟨A0,c0,hb,hg,hr0⟩:=h
 rintro rfl
 rw [hb] at hb2
 injection hb2 with hb2
 injection hb2 with _ ht2
 exact ht ht2.symm
theorem IsS85.far {w0 W : World} {g : Nat} {f0 : List Int} {f1 : Int} {p : Addr} (h : IsS85 w0 W g f0 f1) (hne : g ≠ p.block) (u : Value) : IsS85 w0 (W.setCell p u) g f0 f1 := by
 obtain ⟨A0,c0,hb,hg,hr0⟩:=h
 exact ⟨A0,c0,b4_ hb hne u,hg,hr0⟩
theorem cellS85_0 {W : World} {g : Nat} {A0 : Option Addr} {c0 : Nat} {f0 : List Int} {f1 : Int} (h : W.heap[g]? = some (.cells #[.slice A0 f0.length c0, .int .i64 f1] 85 (0, 0))) : W.cell? ⟨g, 0, none⟩ = some (.slice A0 f0.length c0) := (blk_cell h 0).trans rfl
theorem cellS85_1 {W : World} {g : Nat} {A0 : Option Addr} {c0 : Nat} {f0 : List Int} {f1 : Int} (h : W.heap[g]? = some (.cells #[.slice A0 f0.length c0, .int .i64 f1] 85 (0, 0))) : W.cell? ⟨g, 1, none⟩ = some (.int .i64 f1) := (blk_cell h 1).trans rfl
theorem IsS85.set_1 {w0 W : World} {g : Nat} {f0 : List Int} {f1 : Int} (h : IsS85 w0 W g f0 f1) (x : Int) : IsS85 w0 (W.setCell ⟨g, 1, none⟩ (.int .i64 x)) g f0 x := by
 obtain ⟨A0,c0,hb,hg,hr0⟩:=h
 exact ⟨A0,c0,by simpa using blk_set hb 1 (.int .i64 x),hg,hr0⟩
theorem IsS85.new (w0 W : World) (A0 : Option Addr) (c0 : Nat) (f0 : List Int) (f1 : Int) (hB : Below w0.heap.size w0 W) (hr0 : Kd.C (Kd.int .u8) w0 A0 f0.length f0) : IsS85 w0 (W.alloc (.cells #[.slice A0 f0.length c0, .int .i64 f1] 85)) W.heap.size f0 f1 := ⟨A0, c0, by simpa using heap_alloc_new W _, hB.size, hr0⟩

/-! ### spec_l6Rd_pick: function 53 -/
def spec_l6Rd_pick.j0 : Nat → Int → Bool → List Int → Int → Option (Int × Int)
 | 0, _, _, _, _ => none
 | k + 1, x1, x24, x1000, x1001 => if x24 = true then (some (0, x1001)) else (if (wrap64 (x1001 - 1)) < (x1000.length : Int) then (if 0 ≤ (wrap64 (x1001 - 1)) then (if x1 = 0 then (none) else (some (Int.tmod (wrap64 (rd x1000 (wrap64 (x1001 - 1)))) x1, x1001))) else (none)) else (if (x1000.length : Int) = 0 then (none) else (if 0 ≤ (Int.tmod (wrap64 (x1001 - 1)) (x1000.length : Int)) then (if (Int.tmod (wrap64 (x1001 - 1)) (x1000.length : Int)) < (x1000.length : Int) then (if 0 ≤ (Int.tmod (wrap64 ((wrap64 ((wrap64 (x1001 - 1)) * 7)) + 3)) (x1000.length : Int)) then (if (Int.tmod (wrap64 ((wrap64 ((wrap64 (x1001 - 1)) * 7)) + 3)) (x1000.length : Int)) < (x1000.length : Int) then (if x1 = 0 then (none) else (some (Int.tmod (Go.bits .xor .i64 (wrap64 ((wrap64 ((wrap64 ((wrap64 ((wrap64 (rd x1000 (Int.tmod (wrap64 (x1001 - 1)) (x1000.length : Int)))) * 131)) + (wrap64 ((wrap64 (rd x1000 (Int.tmod (wrap64 ((wrap64 ((wrap64 (x1001 - 1)) * 7)) + 3)) (x1000.length : Int)))) * 1117)))) + (wrap64 ((wrap64 (x1001 - 1)) * 29)))) + (wrap64 ((wrap64 (Int.tdiv (wrap64 (x1001 - 1)) (x1000.length : Int))) * 53)))) (wrap64 (Int.tdiv (wrap64 ((wrap64 ((wrap64 ((wrap64 ((wrap64 (rd x1000 (Int.tmod (wrap64 (x1001 - 1)) (x1000.length : Int)))) * 131)) + (wrap64 ((wrap64 (rd x1000 (Int.tmod (wrap64 ((wrap64 ((wrap64 (x1001 - 1)) * 7)) + 3)) (x1000.length : Int)))) * 1117)))) + (wrap64 ((wrap64 (x1001 - 1)) * 29)))) + (wrap64 ((wrap64 (Int.tdiv (wrap64 (x1001 - 1)) (x1000.length : Int))) * 53)))) 64))) x1, x1001))) else (none)) else (none)) else (none)) else (none))))
def spec_l6Rd_pick.f (k : Nat) (s0_0 : List Int) (s0_1 : Int) (a1 : Int) : Option (Int × Int) := if a1 < 1 then (spec_l6Rd_pick.j0 k a1 true s0_0 (wrap64 (s0_1 + 1))) else (spec_l6Rd_pick.j0 k a1 ((s0_0.length : Int) == 0) s0_0 (wrap64 (s0_1 + 1)))
theorem spec_l6Rd_pick.mono_l : ∀ k, (∀ y0 y1 y2 y3, LeO (spec_l6Rd_pick.j0 k y0 y1 y2 y3) (spec_l6Rd_pick.j0 (k + 1) y0 y1 y2 y3))
 | 0 => fun _ _ _ _ r h => by simp [spec_l6Rd_pick.j0] at h
 | k + 1 => by
  have ih0:=spec_l6Rd_pick.mono_l k
  ·intro y0 y1 y2 y3
   unfold spec_l6Rd_pick.j0
   repeat' first
   | (with_reducible exact ih0 _ _ _ _)
   | (with_reducible exact LeO.refl _)
   | (with_reducible exact LeO.none _)
   | (with_reducible refine LeO.ite ?_ ?_)
   | (with_reducible refine LeO.bind ?_ (fun _ => ?_))
   | exact ih0 _ _ _ _
   | exact LeO.none _
   | refine LeO.ite ?_ ?_
   | refine LeO.bind ?_ (fun _ => ?_)
theorem spec_l6Rd_pick.mono : ∀ a0 a1 a2 k, LeO (spec_l6Rd_pick.f k a0 a1 a2) (spec_l6Rd_pick.f (k + 1) a0 a1 a2) := by
 intro a0 a1 a2 k
 have ih0:=spec_l6Rd_pick.mono_l k
 unfold spec_l6Rd_pick.f
 repeat' first
   | (with_reducible exact ih0 _ _ _ _)
   | (with_reducible exact LeO.refl _)
   | (with_reducible exact LeO.none _)
   | (with_reducible refine LeO.ite ?_ ?_)
   | (with_reducible refine LeO.bind ?_ (fun _ => ?_))
   | exact ih0 _ _ _ _
   | exact LeO.none _
   | refine LeO.ite ?_ ?_
   | refine LeO.bind ?_ (fun _ => ?_)
theorem spec_l6Rd_pick.calls (k : Nat) (g : Nat) (s0_0 : List Int) (s0_1 : Int) (a1 : Int) (r1 : Int) (r2 : Int) (w0 w : World) (hI : IsS85 w0 w g s0_0 s0_1) (hB : Below w0.heap.size w0 w) (h : spec_l6Rd_pick.f k s0_0 s0_1 a1 = some (r1, r2)) :
  Calls Tryd.prog 53 #[.pointer (some ⟨g,0,none⟩),.int .i64 a1] w fun e w'=>e = .returned (.int .i64 r1) ∧ IsS85 w0 w' g s0_0 r2 ∧ Below w0.heap.size w0 w' ∧ KeepBut w w' g none:=by
 have HI0:=m_ hI
 have HK:=m_ (KeepBut.refl w g none)
 have HL:=m_ hB.size
 clear hI
 have HW0:=m_ hB.size
 have HB:=m_ hB
 clear hB
 have H : (if a1 < 1 then (spec_l6Rd_pick.j0 k a1 true s0_0 (wrap64 (s0_1 + 1))) else (spec_l6Rd_pick.j0 k a1 ((s0_0.length : Int) == 0) s0_0 (wrap64 (s0_1 + 1)))) = some (r1,r2):=h
 clear h
 have HC3:=m_ H
 clear H
 obtain ⟨ASz4_0,cSz4_0,HGz4,hgz4,HSz4_0⟩:=HI0.out
 have hcz4_0:=cellS85_0 HGz4
 have hcz4_1:=cellS85_1 HGz4
 have hfz4_1:=f_ HGz4 1
 clear HGz4 hgz4
 go_enter Tryd.func53,Tryd.ntmps53
 go_upto_region 2 with (fail)
 repeat (go_quiet (fail);go_upto_region 2 with (fail))
 go_cut [24] (fun v24 wc=>∃ (kq : Nat) (x24_2 : Bool),v24 = .bool x24_2 ∧ Aside0 (spec_l6Rd_pick.j0 kq a1 x24_2 s0_0 (wrap64 (s0_1 + 1)) = some (r1,r2)) ∧ Aside0 (kq ≤ k) ∧ Aside0 (IsS85 w0 wc g s0_0 (wrap64 (s0_1 + 1))) ∧ Aside0 (KeepBut w wc g none) ∧ Aside0 (Below w0.heap.size w0 wc))
 case first =>
  have H:=HC3.out
  clear HC3
  by_cases c5 : a1 < 1
  ·rw [if_pos c5] at H
   have c5b0 : decide (a1 < 1) = true:=decide_eq_true c5
   clear c5
   (first|rw [c5b0]|(simp only [i64_w,i32_w];rw [c5b0])|skip)
   have H':=m_ H
   clear H
   go_wp2
   repeat (go_quiet (fail);try go_wp2)
   go_meet
   case rel=>exact ⟨_,(true),(by first|rfl|(simp;done)|(simp [*];done)),H',⟨by first|omega|exact Nat.le_refl _⟩,⟨by repeat (first|(with_reducible first|exact HI0.out|apply IsS85.alloc|apply IsS85.drewN|apply IsS85.drew|apply IsS85.set_1)|exact HI0.out)⟩,⟨puK HK.out⟩,⟨puM HB.out (IsS85.ge HI0.out)⟩⟩
  ·rw [if_neg c5] at H
   have c5b0 : decide (a1 < 1) = false:=decide_eq_false c5
   clear c5
   (first|rw [c5b0]|(simp only [i64_w,i32_w];rw [c5b0])|skip)
   have H':=m_ H
   clear H
   obtain ⟨ASz6_0,cSz6_0,HGz6,hgz6,HSz6_0⟩:=HI0.out
   have hcz6_0:=cellS85_0 HGz6
   have hcz6_1:=cellS85_1 HGz6
   have hfz6_1:=f_ HGz6 1
   clear HGz6 hgz6
   go_wp2
   repeat (go_quiet (fail);try go_wp2)
   go_meet
   case rel=>exact ⟨_,(((s0_0.length : Int) == 0)),(by first|rfl|(simp;done)|(simp [*];done)),H',⟨by first|omega|exact Nat.le_refl _⟩,⟨by repeat (first|(with_reducible first|exact HI0.out|apply IsS85.alloc|apply IsS85.drewN|apply IsS85.drew|apply IsS85.set_1)|exact HI0.out)⟩,⟨puK HK.out⟩,⟨puM HB.out (IsS85.ge HI0.out)⟩⟩
 case rest =>
  clear HC3
  try clear p2
  try clear c5
  try clear c5b0
  try clear p6
  try clear hcz4_0
  try clear hcz4_1
  try clear hcz6_0
  try clear hcz6_1
  try clear hfz4_1
  try clear hfz6_1
  obtain ⟨kq,x24_2,rfl,HA,HJ2,HI0,HK,HB⟩:=hcut
  cases kq with
  | zero => exact absurd HA.out (by simp [spec_l6Rd_pick.j0])
  | succ kj2 =>
   have H:=HA.out
   clear HA
   simp only [spec_l6Rd_pick.j0] at H
   by_cases c7 : x24_2 = true
   ·subst c7
    have H1 : (some (0,(wrap64 (s0_1 + 1)))) = some (r1,r2):=by rw [if_pos rfl] at H;exact H
    clear H
    have H:=H1
    clear H1
    simp only [Option.some.injEq,Prod.mk.injEq] at H
    obtain ⟨rfl,rfl⟩:=H
    go_wp2
    repeat (go_quiet (fail);try go_wp2)
    go_ret
    exact ⟨eqs,by repeat (first|(with_reducible first|exact HI0.out|apply IsS85.alloc|apply IsS85.drewN|apply IsS85.drew|apply IsS85.set_1)|exact HI0.out),puM HB.out (IsS85.ge HI0.out),puK HK.out⟩
   ·replace c7:=Bool.eq_false_iff.mpr c7
    subst c7
    have H1 : (if (wrap64 ((wrap64 (s0_1 + 1)) - 1)) < (s0_0.length : Int) then (if 0 ≤ (wrap64 ((wrap64 (s0_1 + 1)) - 1)) then (if a1 = 0 then (none) else (some (Int.tmod (wrap64 (rd s0_0 (wrap64 ((wrap64 (s0_1 + 1)) - 1)))) a1,(wrap64 (s0_1 + 1))))) else (none)) else (if (s0_0.length : Int) = 0 then (none) else (if 0 ≤ (Int.tmod (wrap64 ((wrap64 (s0_1 + 1)) - 1)) (s0_0.length : Int)) then (if (Int.tmod (wrap64 ((wrap64 (s0_1 + 1)) - 1)) (s0_0.length : Int)) < (s0_0.length : Int) then (if 0 ≤ (Int.tmod (wrap64 ((wrap64 ((wrap64 ((wrap64 (s0_1 + 1)) - 1)) * 7)) + 3)) (s0_0.length : Int)) then (if (Int.tmod (wrap64 ((wrap64 ((wrap64 ((wrap64 (s0_1 + 1)) - 1)) * 7)) + 3)) (s0_0.length : Int)) < (s0_0.length : Int) then (if a1 = 0 then (none) else (some (Int.tmod (Go.bits .xor .i64 (wrap64 ((wrap64 ((wrap64 ((wrap64 ((wrap64 (rd s0_0 (Int.tmod (wrap64 ((wrap64 (s0_1 + 1)) - 1)) (s0_0.length : Int)))) * 131)) + (wrap64 ((wrap64 (rd s0_0 (Int.tmod (wrap64 ((wrap64 ((wrap64 ((wrap64 (s0_1 + 1)) - 1)) * 7)) + 3)) (s0_0.length : Int)))) * 1117)))) + (wrap64 ((wrap64 ((wrap64 (s0_1 + 1)) - 1)) * 29)))) + (wrap64 ((wrap64 (Int.tdiv (wrap64 ((wrap64 (s0_1 + 1)) - 1)) (s0_0.length : Int))) * 53)))) (wrap64 (Int.tdiv (wrap64 ((wrap64 ((wrap64 ((wrap64 ((wrap64 (rd s0_0 (Int.tmod (wrap64 ((wrap64 (s0_1 + 1)) - 1)) (s0_0.length : Int)))) * 131)) + (wrap64 ((wrap64 (rd s0_0 (Int.tmod (wrap64 ((wrap64 ((wrap64 ((wrap64 (s0_1 + 1)) - 1)) * 7)) + 3)) (s0_0.length : Int)))) * 1117)))) + (wrap64 ((wrap64 ((wrap64 (s0_1 + 1)) - 1)) * 29)))) + (wrap64 ((wrap64 (Int.tdiv (wrap64 ((wrap64 (s0_1 + 1)) - 1)) (s0_0.length : Int))) * 53)))) 64))) a1,(wrap64 (s0_1 + 1))))) else (none)) else (none)) else (none)) else (none)))) = some (r1,r2):=by rw [if_neg (show ¬ (false = true) by decide)] at H;exact H
    clear H
    have H:=H1
    clear H1
    by_cases c8 : (wrap64 ((wrap64 (s0_1 + 1)) - 1)) < (s0_0.length : Int)
    ·rw [if_pos c8] at H
     have c8b0 : decide ((wrap64 ((wrap64 (s0_1 + 1)) - 1)) < (s0_0.length : Int)) = true:=decide_eq_true c8
     clear c8
     obtain ⟨ji9,hji9⟩ : ∃ j_ : Int,(wrap64 ((wrap64 (s0_1 + 1)) - 1)) = j_:=⟨_,rfl⟩
     replace H : (if 0 ≤ (ji9) then (if a1 = 0 then (none) else (some (Int.tmod (wrap64 (rd s0_0 (ji9))) a1,(wrap64 (s0_1 + 1))))) else (none)) = some (r1,r2):=by first|(rw [hji9] at H;exact H)|(simp only [hji9] at H ⊢;exact H)
     (try rw [hji9] at c8b0)
     have hji9w : (IntKind.i64.wrap ((wrap64 (s0_1 + 1)) - 1)) = ji9:=(i64_w _).trans hji9
     by_cases c10 : 0 ≤ (ji9)
     rotate_left
     ·rw [if_neg c10] at H
      exact absurd H (by simp)
     rw [if_pos c10] at H
     have c10b0 : decide (0 ≤ (ji9)) = true:=decide_eq_true c10
     clear c10
     by_cases c11 : a1 = 0
     ·rw [if_pos c11] at H
      exact absurd H (by simp)
     ·rw [if_neg c11] at H
      have c11b0 : (a1 == 0) = false:=beq_eq_false_iff_ne.mpr c11
      have c11b1 : (a1 != 0) = true:=bne_iff_ne.mpr c11
      simp only [Option.some.injEq,Prod.mk.injEq] at H
      obtain ⟨rfl,rfl⟩:=H
      obtain ⟨ASz12_0,cSz12_0,HGz12,hgz12,HSz12_0⟩:=HI0.out
      have hcz12_0:=cellS85_0 HGz12
      have hcz12_1:=cellS85_1 HGz12
      have hfz12_1:=f_ HGz12 1
      clear HGz12 hgz12
      have p271 : 0 ≤ ((ji9) : Int):=of_decide_eq_true asm
      have q271 : (ji9) < (s0_0.length : Int):=of_decide_eq_true asm
      obtain ⟨ad271,e271,hx271_0⟩:=Kd.at_int HSz12_0 (ji9) p271 q271
      cases e271
      replace hx271_0:=pw_cell_below HB.out hx271_0
      replace p271:=eq_true p271
      replace q271:=eq_true q271
      go_wp2
      repeat (go_quiet (fail);try go_wp2)
      go_ret
      exact ⟨by first|rfl|(simp [e1_,e2_] <;> rfl)|(simp only [← hji9];first|rfl|(simp [e1_,e2_] <;> rfl))|(simp [*,e1_,e2_] <;> rfl)|(simp [e1_,e2_,pk_empty1,pk_empty2];done)|(simp [*,e1_,e2_,pk_empty1,pk_empty2];done),by repeat (first|(with_reducible first|exact HI0.out|apply IsS85.alloc|apply IsS85.drewN|apply IsS85.drew|apply IsS85.set_1)|exact HI0.out),puM HB.out (IsS85.ge HI0.out),puK HK.out⟩
    ·rw [if_neg c8] at H
     have c8b0 : decide ((wrap64 ((wrap64 (s0_1 + 1)) - 1)) < (s0_0.length : Int)) = false:=decide_eq_false c8
     clear c8
     by_cases c13 : (s0_0.length : Int) = 0
     ·rw [if_pos c13] at H
      exact absurd H (by simp)
     ·rw [if_neg c13] at H
      have c13b0 : ((s0_0.length : Int) == 0) = false:=beq_eq_false_iff_ne.mpr c13
      have c13b1 : ((s0_0.length : Int) != 0) = true:=bne_iff_ne.mpr c13
      have c13b2 : ¬ (s0_0 = []):=fun h_=>c13 (by rw [h_];rfl)
      obtain ⟨ji14,hji14⟩ : ∃ j_ : Int,(Int.tmod (wrap64 ((wrap64 (s0_1 + 1)) - 1)) (s0_0.length : Int)) = j_:=⟨_,rfl⟩
      replace H : (if 0 ≤ (ji14) then (if (ji14) < (s0_0.length : Int) then (if 0 ≤ (Int.tmod (wrap64 ((wrap64 ((wrap64 ((wrap64 (s0_1 + 1)) - 1)) * 7)) + 3)) (s0_0.length : Int)) then (if (Int.tmod (wrap64 ((wrap64 ((wrap64 ((wrap64 (s0_1 + 1)) - 1)) * 7)) + 3)) (s0_0.length : Int)) < (s0_0.length : Int) then (if a1 = 0 then (none) else (some (Int.tmod (Go.bits .xor .i64 (wrap64 ((wrap64 ((wrap64 ((wrap64 ((wrap64 (rd s0_0 (ji14))) * 131)) + (wrap64 ((wrap64 (rd s0_0 (Int.tmod (wrap64 ((wrap64 ((wrap64 ((wrap64 (s0_1 + 1)) - 1)) * 7)) + 3)) (s0_0.length : Int)))) * 1117)))) + (wrap64 ((wrap64 ((wrap64 (s0_1 + 1)) - 1)) * 29)))) + (wrap64 ((wrap64 (Int.tdiv (wrap64 ((wrap64 (s0_1 + 1)) - 1)) (s0_0.length : Int))) * 53)))) (wrap64 (Int.tdiv (wrap64 ((wrap64 ((wrap64 ((wrap64 ((wrap64 (rd s0_0 (ji14))) * 131)) + (wrap64 ((wrap64 (rd s0_0 (Int.tmod (wrap64 ((wrap64 ((wrap64 ((wrap64 (s0_1 + 1)) - 1)) * 7)) + 3)) (s0_0.length : Int)))) * 1117)))) + (wrap64 ((wrap64 ((wrap64 (s0_1 + 1)) - 1)) * 29)))) + (wrap64 ((wrap64 (Int.tdiv (wrap64 ((wrap64 (s0_1 + 1)) - 1)) (s0_0.length : Int))) * 53)))) 64))) a1,(wrap64 (s0_1 + 1))))) else (none)) else (none)) else (none)) else (none)) = some (r1,r2):=by first|(rw [hji14] at H;exact H)|(simp only [hji14] at H ⊢;exact H)
      by_cases c15 : 0 ≤ (ji14)
      rotate_left
      ·rw [if_neg c15] at H
       exact absurd H (by simp)
      rw [if_pos c15] at H
      have c15b0 : decide (0 ≤ (ji14)) = true:=decide_eq_true c15
      clear c15
      by_cases c16 : (ji14) < (s0_0.length : Int)
      rotate_left
      ·rw [if_neg c16] at H
       exact absurd H (by simp)
      rw [if_pos c16] at H
      have c16b0 : decide ((ji14) < (s0_0.length : Int)) = true:=decide_eq_true c16
      clear c16
      obtain ⟨ji17,hji17⟩ : ∃ j_ : Int,(Int.tmod (wrap64 ((wrap64 ((wrap64 ((wrap64 (s0_1 + 1)) - 1)) * 7)) + 3)) (s0_0.length : Int)) = j_:=⟨_,rfl⟩
      replace H : (if 0 ≤ (ji17) then (if (ji17) < (s0_0.length : Int) then (if a1 = 0 then (none) else (some (Int.tmod (Go.bits .xor .i64 (wrap64 ((wrap64 ((wrap64 ((wrap64 ((wrap64 (rd s0_0 (ji14))) * 131)) + (wrap64 ((wrap64 (rd s0_0 (ji17))) * 1117)))) + (wrap64 ((wrap64 ((wrap64 (s0_1 + 1)) - 1)) * 29)))) + (wrap64 ((wrap64 (Int.tdiv (wrap64 ((wrap64 (s0_1 + 1)) - 1)) (s0_0.length : Int))) * 53)))) (wrap64 (Int.tdiv (wrap64 ((wrap64 ((wrap64 ((wrap64 ((wrap64 (rd s0_0 (ji14))) * 131)) + (wrap64 ((wrap64 (rd s0_0 (ji17))) * 1117)))) + (wrap64 ((wrap64 ((wrap64 (s0_1 + 1)) - 1)) * 29)))) + (wrap64 ((wrap64 (Int.tdiv (wrap64 ((wrap64 (s0_1 + 1)) - 1)) (s0_0.length : Int))) * 53)))) 64))) a1,(wrap64 (s0_1 + 1))))) else (none)) else (none)) = some (r1,r2):=by first|(rw [hji17] at H;exact H)|(simp only [hji17] at H ⊢;exact H)
      by_cases c18 : 0 ≤ (ji17)
      rotate_left
      ·rw [if_neg c18] at H
       exact absurd H (by simp)
      rw [if_pos c18] at H
      have c18b0 : decide (0 ≤ (ji17)) = true:=decide_eq_true c18
      clear c18
      by_cases c19 : (ji17) < (s0_0.length : Int)
      rotate_left
      ·rw [if_neg c19] at H
       exact absurd H (by simp)
      rw [if_pos c19] at H
      have c19b0 : decide ((ji17) < (s0_0.length : Int)) = true:=decide_eq_true c19
      clear c19
      by_cases c20 : a1 = 0
      ·rw [if_pos c20] at H
       exact absurd H (by simp)
      ·rw [if_neg c20] at H
       have c20b0 : (a1 == 0) = false:=beq_eq_false_iff_ne.mpr c20
       have c20b1 : (a1 != 0) = true:=bne_iff_ne.mpr c20
       simp only [Option.some.injEq,Prod.mk.injEq] at H
       obtain ⟨rfl,rfl⟩:=H
       obtain ⟨ASz21_0,cSz21_0,HGz21,hgz21,HSz21_0⟩:=HI0.out
       have hcz21_0:=cellS85_0 HGz21
       have hcz21_1:=cellS85_1 HGz21
       have hfz21_1:=f_ HGz21 1
       clear HGz21 hgz21
       have p272 : 0 ≤ ((ji14) : Int):=of_decide_eq_true asm
       have q272 : (ji14) < (s0_0.length : Int):=of_decide_eq_true asm
       obtain ⟨ad272,e272,hx272_0⟩:=Kd.at_int HSz21_0 (ji14) p272 q272
       cases e272
       replace hx272_0:=pw_cell_below HB.out hx272_0
       replace p272:=eq_true p272
       replace q272:=eq_true q272
       have p273 : 0 ≤ ((ji17) : Int):=of_decide_eq_true asm
       have q273 : (ji17) < (s0_0.length : Int):=of_decide_eq_true asm
       obtain ⟨ad273,e273,hx273_0⟩:=Kd.at_int HSz21_0 (ji17) p273 q273
       obtain rfl : ad272 = ad273:=(by injection e273)
       replace hx273_0:=pw_cell_below HB.out hx273_0
       replace p273:=eq_true p273
       replace q273:=eq_true q273
       go_wp2
       repeat (go_quiet (fail);try go_wp2)
       go_ret
       exact ⟨by first|rfl|(simp [e1_,e2_] <;> rfl)|(simp only [← hji14,← hji17];first|rfl|(simp [e1_,e2_] <;> rfl))|(simp [*,e1_,e2_] <;> rfl)|(simp [e1_,e2_,pk_empty1,pk_empty2];done)|(simp [*,e1_,e2_,pk_empty1,pk_empty2];done),by repeat (first|(with_reducible first|exact HI0.out|apply IsS85.alloc|apply IsS85.drewN|apply IsS85.drew|apply IsS85.set_1)|exact HI0.out),puM HB.out (IsS85.ge HI0.out),puK HK.out⟩

/-! ### spec_l3Out: function 64 -/
def spec_l3Out.l0 : Nat → List (S98) → Int → Int → Int → Option ((List (S98)) × Int × Bool)
 | 0, _, _, _, _ => none
 | k + 1, x0, x7, x275000, x275001 => if x7 < (x0.length : Int) then (if 0 ≤ x7 then (if (((rd_T98 x0 x7).f1.f0) == x275000 && (((rd_T98 x0 x7).f1.f1) == x275001)) = true then (some (x0, (rd_T98 x0 x7).f0, true)) else (spec_l3Out.l0 k x0 (wrap64 (x7 + 1)) x275000 x275001)) else (none)) else (if (x0.length : Int) > 7 then (some (x0, 0, false)) else (if x0.length < 5864062014805 then (some ((x0 ++ [(⟨wrap64 (10 + (x0.length : Int)), (⟨x275000, x275001⟩ : S43)⟩ : S98)]), wrap64 (10 + (x0.length : Int)), true)) else (none)))
def spec_l3Out.f (k : Nat) (l0 : List (S98)) (a1_0 : Int) (a1_1 : Int) : Option ((List (S98)) × Int × Bool) := spec_l3Out.l0 k l0 0 a1_0 a1_1
theorem spec_l3Out.mono_l : ∀ k, (∀ y0 y1 y2 y3, LeO (spec_l3Out.l0 k y0 y1 y2 y3) (spec_l3Out.l0 (k + 1) y0 y1 y2 y3))
 | 0 => fun _ _ _ _ r h => by simp [spec_l3Out.l0] at h
 | k + 1 => by
  have ih0:=spec_l3Out.mono_l k
  ·intro y0 y1 y2 y3
   unfold spec_l3Out.l0
   repeat' first
   | (with_reducible exact ih0 _ _ _ _)
   | (with_reducible exact LeO.refl _)
   | (with_reducible exact LeO.none _)
   | (with_reducible refine LeO.ite ?_ ?_)
   | (with_reducible refine LeO.bind ?_ (fun _ => ?_))
   | exact ih0 _ _ _ _
   | exact LeO.none _
   | refine LeO.ite ?_ ?_
   | refine LeO.bind ?_ (fun _ => ?_)
theorem spec_l3Out.mono : ∀ a0 a1 a2 k, LeO (spec_l3Out.f k a0 a1 a2) (spec_l3Out.f (k + 1) a0 a1 a2) := by
 intro a0 a1 a2 k
 have ih0:=spec_l3Out.mono_l k
 unfold spec_l3Out.f
 repeat' first
   | (with_reducible exact ih0 _ _ _ _)
   | (with_reducible exact LeO.refl _)
   | (with_reducible exact LeO.none _)
   | (with_reducible refine LeO.ite ?_ ?_)
   | (with_reducible refine LeO.bind ?_ (fun _ => ?_))
   | exact ih0 _ _ _ _
   | exact LeO.none _
   | refine LeO.ite ?_ ?_
   | refine LeO.bind ?_ (fun _ => ?_)
theorem spec_l3Out.calls2 (k : Nat) (P0_ : Nat → Prop) (u9000_ : Value) (l0 : List (S98)) (a1_0 : Int) (a1_1 : Int) (r1 : List (S98)) (r2 : Int) (r3 : Bool) (w0 w : World) (hB : Below w0.heap.size w0 w) (ho0 : Kd.Q k98 98 w w0.heap.size P0_ u9000_ l0) (h : spec_l3Out.f k l0 a1_0 a1_1 = some (r1, r2, r3)) :
  Calls Tryd.prog 64 #[u9000_,.agg #[.int .i64 a1_0,.int .i64 a1_1]] w fun e w'=>∃ v0_ : Value,e = .returned (.tuple #[v0_,.int .i64 r2,.bool r3]) ∧ Kd.Q k98 98 w' w0.heap.size (fun k_=>(P0_ k_ ∨ w.heap.size ≤ k_)) v0_ r1 ∧ Below w0.heap.size w0 w' ∧ Kept w w' (fun k_=>P0_ k_) ∧ (r3 = false → v0_ = u9000_):=by
 have hu43:=Tryd.underlying43
 have hu98:=Tryd.underlying98
 have HO0:=m_ (show Kd.Q k98 98 w w0.heap.size (fun k_=>(P0_ k_ ∨ w.heap.size ≤ k_)) u9000_ l0 from Kd.Q_mono ho0 (fun k_ hk=>(.inl hk)))
 have HK:=m_ (Kept.refl w (fun k_=>P0_ k_))
 have HW0:=m_ hB.size
 have HB:=m_ hB
 clear hB
 have H : (spec_l3Out.l0 k l0 0 a1_0 a1_1) = some (r1,r2,r3):=h
 clear h
 have H':=m_ H
 clear H
 go_enter Tryd.func64,Tryd.ntmps64
 go_wp2_with (first|((with_reducible refine gate_dst (N:=3) rfl ?_);refine box_event ?hg (N:=3) ?hd (cs:=#[.int .i64 a1_0,.int .i64 a1_1]) (t:=43) ?hr ?_;(case hd=>rfl);(case hg=>rfl);(case hr=>first|(go_simp;done)|(go_simp;rfl));intro gb274 hg w3 hbox hb;have n0_:=m_ (Kd.Q_below (puQ HO0.out) hb);have n1_:=m_ (Kept.below (S:=(fun k_=>P0_ k_)) (by repeat (first|(with_reducible first|exact HK.out|apply Kept.alloc|apply Kept.drewN|apply Kept.drew)|exact HK.out)) hb);have n2_:=m_ (l5_ (puL HB.out) hb);have n3_:=m_ (hbox);have n4_:=m_ ((by rw [hg];exact (by first|exact HK.out.1|exact (show Kept w _ (fun k_=>P0_ k_) from by repeat (first|(with_reducible first|exact HK.out|apply Kept.alloc|apply Kept.drewN|apply Kept.drew)|exact HK.out)).1) : w.heap.size ≤ gb274));have n5_:=m_ ((by rw [hg];exact (l6_ (puL HB.out)) : w0.heap.size ≤ gb274));revert n0_ n1_ n2_ n3_ n4_ n5_;clear HO0 HK HB;intro HO0 HK HB BK274 GW274 GE274;clear hb hbox hg))
 repeat (go_quiet (first|((with_reducible refine gate_dst (N:=3) rfl ?_);refine box_event ?hg (N:=3) ?hd (cs:=#[.int .i64 a1_0,.int .i64 a1_1]) (t:=43) ?hr ?_;(case hd=>rfl);(case hg=>rfl);(case hr=>first|(go_simp;done)|(go_simp;rfl));intro gb274 hg w3 hbox hb;have n0_:=m_ (Kd.Q_below (puQ HO0.out) hb);have n1_:=m_ (Kept.below (S:=(fun k_=>P0_ k_)) (by repeat (first|(with_reducible first|exact HK.out|apply Kept.alloc|apply Kept.drewN|apply Kept.drew)|exact HK.out)) hb);have n2_:=m_ (l5_ (puL HB.out) hb);have n3_:=m_ (hbox);have n4_:=m_ ((by rw [hg];exact (by first|exact HK.out.1|exact (show Kept w _ (fun k_=>P0_ k_) from by repeat (first|(with_reducible first|exact HK.out|apply Kept.alloc|apply Kept.drewN|apply Kept.drew)|exact HK.out)).1) : w.heap.size ≤ gb274));have n5_:=m_ ((by rw [hg];exact (l6_ (puL HB.out)) : w0.heap.size ≤ gb274));revert n0_ n1_ n2_ n3_ n4_ n5_;clear HO0 HK HB;intro HO0 HK HB BK274 GW274 GE274;clear hb hbox hg));try go_wp2_with (first|((with_reducible refine gate_dst (N:=3) rfl ?_);refine box_event ?hg (N:=3) ?hd (cs:=#[.int .i64 a1_0,.int .i64 a1_1]) (t:=43) ?hr ?_;(case hd=>rfl);(case hg=>rfl);(case hr=>first|(go_simp;done)|(go_simp;rfl));intro gb274 hg w3 hbox hb;have n0_:=m_ (Kd.Q_below (puQ HO0.out) hb);have n1_:=m_ (Kept.below (S:=(fun k_=>P0_ k_)) (by repeat (first|(with_reducible first|exact HK.out|apply Kept.alloc|apply Kept.drewN|apply Kept.drew)|exact HK.out)) hb);have n2_:=m_ (l5_ (puL HB.out) hb);have n3_:=m_ (hbox);have n4_:=m_ ((by rw [hg];exact (by first|exact HK.out.1|exact (show Kept w _ (fun k_=>P0_ k_) from by repeat (first|(with_reducible first|exact HK.out|apply Kept.alloc|apply Kept.drewN|apply Kept.drew)|exact HK.out)).1) : w.heap.size ≤ gb274));have n5_:=m_ ((by rw [hg];exact (l6_ (puL HB.out)) : w0.heap.size ≤ gb274));revert n0_ n1_ n2_ n3_ n4_ n5_;clear HO0 HK HB;intro HO0 HK HB BK274 GW274 GE274;clear hb hbox hg)))
 go_loopg [7] k (fun kq v7 w'=>∃ (x7_1 : Int),v7 = .int .i64 x7_1 ∧ Aside0 (spec_l3Out.l0 kq l0 x7_1 a1_0 a1_1 = some (r1,r2,r3)) ∧ Aside0 (kq ≤ k) ∧ Aside0 (Kd.Q k98 98 w' w0.heap.size (fun k_=>(P0_ k_ ∨ w.heap.size ≤ k_)) u9000_ l0) ∧ Aside0 (w'.heap[gb274]? = some (.cells #[.int .i64 a1_0,.int .i64 a1_1] 43 (0,0))) ∧ Aside0 (Kept w w' (fun k_=>P0_ k_)) ∧ Aside0 (Below w0.heap.size w0 w'))
 case atStart=>exact ⟨(0),(by first|rfl|(simp;done)|(simp [*];done)),H',⟨Nat.le_refl _⟩,⟨by (with_reducible repeat (first|apply Kd.Q_alloc|apply Kd.Q_drewN|apply Kd.Q_drew));exact HO0.out⟩,⟨by (with_reducible repeat first|apply b1_|apply b2_|apply b3_);exact BK274.out⟩,⟨by repeat (first|(with_reducible first|exact HK.out|apply Kept.alloc|apply Kept.drewN|apply Kept.drew|refine Kept.setCell ?_ (.inr GW274.out) _)|exact HK.out)⟩,⟨puM HB.out GE274.out⟩⟩
 case round =>
  clear H'
  try clear p2
  obtain ⟨x7_1,rfl,HA,HK1,HO_0,BK274,HK,HB⟩:=hrel
  cases gk with
  | zero => exact absurd HA.out (by simp [spec_l3Out.l0])
  | succ k1 =>
   have H:=HA.out
   clear HA
   simp only [spec_l3Out.l0] at H
   by_cases c4 : x7_1 < (l0.length : Int)
   ·rw [if_pos c4] at H
    have c4b0 : decide (x7_1 < (l0.length : Int)) = true:=decide_eq_true c4
    clear c4
    by_cases c5 : 0 ≤ x7_1
    rotate_left
    ·rw [if_neg c5] at H
     exact absurd H (by simp)
    rw [if_pos c5] at H
    have c5b0 : decide (0 ≤ x7_1) = true:=decide_eq_true c5
    clear c5
    by_cases c6 : (((rd_T98 l0 x7_1).f1.f0) == a1_0 && (((rd_T98 l0 x7_1).f1.f1) == a1_1)) = true
    ·rw [if_pos c6] at H
     have c6b0 : (((rd_T98 l0 x7_1).f1.f0) == a1_0 && (((rd_T98 l0 x7_1).f1.f1) == a1_1)) = true:=c6
     (try (have c6b1 : decide (((rd_T98 l0 x7_1).f1.f0) = a1_0 && (((rd_T98 l0 x7_1).f1.f1) == a1_1)) = true:=by simpa using c6))
     (try (have c6b2 : (((rd_T98 l0 x7_1).f1.f0) == a1_0 && (((rd_T98 l0 x7_1).f1.f1) == a1_1)) = true:=by simpa using c6))
     clear c6
     simp only [Option.some.injEq,Prod.mk.injEq] at H
     obtain ⟨rfl,rfl,rfl⟩:=H
     obtain ⟨Ao7,co7,eo7,_⟩:=Kd.Q_slice HO_0.out
     subst eo7
     have p275 : 0 ≤ (x7_1 : Int):=of_decide_eq_true asm
     have q275 : x7_1 < (l0.length : Int):=of_decide_eq_true asm
     obtain ⟨ad275,e275,hx275_0,hx275_1,hx275_2⟩:=at_T98 (Kd.Q_reads' HO_0.out).2.2 x7_1 p275 q275
     cases e275
     replace p275:=eq_true p275
     replace q275:=eq_true q275
     have hcz8_0 : wr.cell? ⟨gb274,0,none⟩ = some (.int .i64 a1_0):=(c_ BK274.out 0).trans rfl
     have hcz8_1 : wr.cell? ⟨gb274,1,none⟩ = some (.int .i64 a1_1):=(c_ BK274.out 1).trans rfl
     have p276 : 0 ≤ (x7_1 : Int):=of_decide_eq_true asm
     have q276 : x7_1 < (l0.length : Int):=of_decide_eq_true asm
     obtain ⟨ad276,e276,hx276_0,hx276_1,hx276_2⟩:=at_T98 (Kd.Q_reads' HO_0.out).2.2 x7_1 p276 q276
     obtain rfl : ad275 = ad276:=(by injection e276)
     replace p276:=eq_true p276
     replace q276:=eq_true q276
     go_wp2
     repeat (go_quiet (fail);try go_wp2)
     go_ret3
     exact ⟨_,eqs,puQ HO_0.out,puM HB.out GE274.out,by repeat (first|(with_reducible first|exact HK.out|apply Kept.alloc|apply Kept.drewN|apply Kept.drew|refine Kept.setCell ?_ (.inr GW274.out) _)|exact HK.out),by first|rfl|(intro h_;first|rfl|cases h_)⟩
    ·rw [if_neg c6] at H
     have c6b0 : (((rd_T98 l0 x7_1).f1.f0) == a1_0 && (((rd_T98 l0 x7_1).f1.f1) == a1_1)) = false:=by simpa using c6
     (try (have c6b1 : decide (((rd_T98 l0 x7_1).f1.f0) = a1_0 && (((rd_T98 l0 x7_1).f1.f1) == a1_1)) = false:=by simpa using c6))
     (try (have c6b2 : (((rd_T98 l0 x7_1).f1.f0) == a1_0 && (((rd_T98 l0 x7_1).f1.f1) == a1_1)) = false:=by simpa using c6))
     (try (have c6b3 : ¬ (((rd_T98 l0 x7_1).f1.f0) = a1_0 && (((rd_T98 l0 x7_1).f1.f1) == a1_1)):=by simpa using c6))
     clear c6
     have H':=m_ H
     clear H
     obtain ⟨Ao9,co9,eo9,_⟩:=Kd.Q_slice HO_0.out
     subst eo9
     have p275 : 0 ≤ (x7_1 : Int):=of_decide_eq_true asm
     have q275 : x7_1 < (l0.length : Int):=of_decide_eq_true asm
     obtain ⟨ad275,e275,hx275_0,hx275_1,hx275_2⟩:=at_T98 (Kd.Q_reads' HO_0.out).2.2 x7_1 p275 q275
     cases e275
     replace p275:=eq_true p275
     replace q275:=eq_true q275
     have hcz10_0 : wr.cell? ⟨gb274,0,none⟩ = some (.int .i64 a1_0):=(c_ BK274.out 0).trans rfl
     have hcz10_1 : wr.cell? ⟨gb274,1,none⟩ = some (.int .i64 a1_1):=(c_ BK274.out 1).trans rfl
     go_wp2
     repeat (go_quiet (fail);try go_wp2)
     go_roundg k1
     case measure=>have:=HK1.out;omega
     case rel=>exact ⟨(wrap64 (x7_1 + 1)),(by first|rfl|(simp;done)|(simp [*];done)),H',⟨by have:=HK1.out;omega⟩,⟨by (with_reducible repeat (first|apply Kd.Q_alloc|apply Kd.Q_drewN|apply Kd.Q_drew));exact HO_0.out⟩,⟨by (with_reducible repeat first|apply b1_|apply b2_|apply b3_);exact BK274.out⟩,⟨by repeat (first|(with_reducible first|exact HK.out|apply Kept.alloc|apply Kept.drewN|apply Kept.drew|refine Kept.setCell ?_ (.inr GW274.out) _)|exact HK.out)⟩,⟨puM HB.out GE274.out⟩⟩
   ·rw [if_neg c4] at H
    have c4b0 : decide (x7_1 < (l0.length : Int)) = false:=decide_eq_false c4
    clear c4
    by_cases c11 : (l0.length : Int) > 7
    ·rw [if_pos c11] at H
     have c11b0 : decide (7 < (l0.length : Int)) = true:=decide_eq_true c11
     have c11b1 : decide (7 < l0.length) = true:=decide_eq_true (by omega)
     clear c11
     simp only [Option.some.injEq,Prod.mk.injEq] at H
     obtain ⟨rfl,rfl,rfl⟩:=H
     obtain ⟨Ao12,co12,eo12,_⟩:=Kd.Q_slice HO_0.out
     subst eo12
     go_wp2
     repeat (go_quiet (fail);try go_wp2)
     go_ret3
     exact ⟨_,eqs,puQ HO_0.out,puM HB.out GE274.out,by repeat (first|(with_reducible first|exact HK.out|apply Kept.alloc|apply Kept.drewN|apply Kept.drew|refine Kept.setCell ?_ (.inr GW274.out) _)|exact HK.out),by first|rfl|(intro h_;first|rfl|cases h_)⟩
    ·rw [if_neg c11] at H
     have c11b0 : decide (7 < (l0.length : Int)) = false:=decide_eq_false c11
     have c11b1 : decide (7 < l0.length) = false:=decide_eq_false (by omega)
     clear c11
     by_cases c13 : l0.length < 5864062014805
     rotate_left
     ·rw [if_neg c13] at H
      exact absurd H (by simp)
     rw [if_pos c13] at H
     have LMc13:=m_ c13
     clear c13
     obtain ⟨y277,hy277⟩ : ∃ y_ : List (S98),y_ = (l0 ++ [(⟨wrap64 (10 + (l0.length : Int)),(⟨a1_0,a1_1⟩ : S43)⟩ : S98)]):=⟨_,rfl⟩
     replace H : (some (y277,wrap64 (10 + (l0.length : Int)),true)) = some (r1,r2,r3):=by first|(rw [hy277];with_reducible exact H)|(have H2_:=(Option.bind_some _ _).symm.trans H;rw [hy277];with_reducible exact H2_)|(have H2_:=(Option.bind_some _ _).symm.trans H;with_reducible exact H2_)|with_reducible exact H|(rw [hy277];exact H)|exact H
     have Ny277:=m_ hy277
     clear hy277
     simp only [Option.some.injEq,Prod.mk.injEq] at H
     obtain ⟨rfl,rfl,rfl⟩:=H
     obtain ⟨Ao14,co14,eo14,_⟩:=Kd.Q_slice HO_0.out
     subst eo14
     have hcz15_0 : wr.cell? ⟨gb274,0,none⟩ = some (.int .i64 a1_0):=(c_ BK274.out 0).trans rfl
     have hcz15_1 : wr.cell? ⟨gb274,1,none⟩ = some (.int .i64 a1_1):=(c_ BK274.out 1).trans rfl
     go_wp2_with (first|((with_reducible refine gate_builtin (b:=.append) (xs:=#[.tmp 35,.tmp 39]) rfl ?_);at_builtin;refine Kd.Q_append k98 (w0:=w0) w0.heap.size rfl (.tmp 35) (.tmp 39) 56 98 (.agg #[(.int .i64 0),(.int .i64 0),(.int .i64 0)]) 24 rfl Tryd.underlying56 info98 rfl (by decide) (by omega) (.slice Ao14 l0.length co14) l0 (⟨wrap64 (10 + (l0.length : Int)),(⟨a1_0,a1_1⟩ : S43)⟩ : S98) [.int .i64 (wrap64 (10 + (l0.length : Int))),.int .i64 a1_0,.int .i64 a1_1] (fun k_=>(P0_ k_ ∨ w.heap.size ≤ k_)) (fun _=>False) rfl rfl ?aP (fun _ hk=>hk.elim) ?aF ?aO ?aB ?aS ?aL ?_;(case aP=>exact k98_mkM _ _ _ (⟨wrap64 (10 + (l0.length : Int)),(⟨a1_0,a1_1⟩ : S43)⟩ : S98));(case aB=>exact (puM HB.out GE274.out));(case aF=>exact (fun k_ hk=>(.inr (Nat.le_trans (by first|exact HK.out.1|exact (show Kept w _ (fun k_=>P0_ k_) from by repeat (first|(with_reducible first|exact HK.out|apply Kept.alloc|apply Kept.drewN|apply Kept.drew|refine Kept.setCell ?_ (.inr GW274.out) _)|exact HK.out)).1) hk))));(case aO=>exact (puQ HO_0.out));(case aS=>exact (l6_ (puM HB.out GE274.out)));(case aL=>have:=LMc13.out;omega);intro v278 w16 ho hb hg hat;rw [← Ny277.out] at ho;have n0_:=m_ (blk_grown (g:=gb274) (o:=.cells #[.int .i64 a1_0,.int .i64 a1_1] 43 (0,0)) (puB BK274.out) hg (Kd.Q_ne HO_0.out BK274.out (by decide)));have n1_:=m_ (hb);have n2_:=m_ (Kept.of_grown (S:=(fun k_=>P0_ k_)) hg (by repeat (first|(with_reducible first|exact HK.out|apply Kept.alloc|apply Kept.drewN|apply Kept.drew|refine Kept.setCell ?_ (.inr GW274.out) _)|exact HK.out)) (fun k_ e_=>(HO_0.out.1 k_ e_)));have n3_:=m_ (ho);revert n0_ n1_ n2_ n3_;clear BK274 HB HK HO_0;intro BK274 HB HK HO279;clear ho hb hg hat))
     repeat (go_quiet (first|((with_reducible refine gate_builtin (b:=.append) (xs:=#[.tmp 35,.tmp 39]) rfl ?_);at_builtin;refine Kd.Q_append k98 (w0:=w0) w0.heap.size rfl (.tmp 35) (.tmp 39) 56 98 (.agg #[(.int .i64 0),(.int .i64 0),(.int .i64 0)]) 24 rfl Tryd.underlying56 info98 rfl (by decide) (by omega) (.slice Ao14 l0.length co14) l0 (⟨wrap64 (10 + (l0.length : Int)),(⟨a1_0,a1_1⟩ : S43)⟩ : S98) [.int .i64 (wrap64 (10 + (l0.length : Int))),.int .i64 a1_0,.int .i64 a1_1] (fun k_=>(P0_ k_ ∨ w.heap.size ≤ k_)) (fun _=>False) rfl rfl ?aP (fun _ hk=>hk.elim) ?aF ?aO ?aB ?aS ?aL ?_;(case aP=>exact k98_mkM _ _ _ (⟨wrap64 (10 + (l0.length : Int)),(⟨a1_0,a1_1⟩ : S43)⟩ : S98));(case aB=>exact (puM HB.out GE274.out));(case aF=>exact (fun k_ hk=>(.inr (Nat.le_trans (by first|exact HK.out.1|exact (show Kept w _ (fun k_=>P0_ k_) from by repeat (first|(with_reducible first|exact HK.out|apply Kept.alloc|apply Kept.drewN|apply Kept.drew|refine Kept.setCell ?_ (.inr GW274.out) _)|exact HK.out)).1) hk))));(case aO=>exact (puQ HO_0.out));(case aS=>exact (l6_ (puM HB.out GE274.out)));(case aL=>have:=LMc13.out;omega);intro v278 w16 ho hb hg hat;rw [← Ny277.out] at ho;have n0_:=m_ (blk_grown (g:=gb274) (o:=.cells #[.int .i64 a1_0,.int .i64 a1_1] 43 (0,0)) (puB BK274.out) hg (Kd.Q_ne HO_0.out BK274.out (by decide)));have n1_:=m_ (hb);have n2_:=m_ (Kept.of_grown (S:=(fun k_=>P0_ k_)) hg (by repeat (first|(with_reducible first|exact HK.out|apply Kept.alloc|apply Kept.drewN|apply Kept.drew|refine Kept.setCell ?_ (.inr GW274.out) _)|exact HK.out)) (fun k_ e_=>(HO_0.out.1 k_ e_)));have n3_:=m_ (ho);revert n0_ n1_ n2_ n3_;clear BK274 HB HK HO_0;intro BK274 HB HK HO279;clear ho hb hg hat));try go_wp2_with (first|((with_reducible refine gate_builtin (b:=.append) (xs:=#[.tmp 35,.tmp 39]) rfl ?_);at_builtin;refine Kd.Q_append k98 (w0:=w0) w0.heap.size rfl (.tmp 35) (.tmp 39) 56 98 (.agg #[(.int .i64 0),(.int .i64 0),(.int .i64 0)]) 24 rfl Tryd.underlying56 info98 rfl (by decide) (by omega) (.slice Ao14 l0.length co14) l0 (⟨wrap64 (10 + (l0.length : Int)),(⟨a1_0,a1_1⟩ : S43)⟩ : S98) [.int .i64 (wrap64 (10 + (l0.length : Int))),.int .i64 a1_0,.int .i64 a1_1] (fun k_=>(P0_ k_ ∨ w.heap.size ≤ k_)) (fun _=>False) rfl rfl ?aP (fun _ hk=>hk.elim) ?aF ?aO ?aB ?aS ?aL ?_;(case aP=>exact k98_mkM _ _ _ (⟨wrap64 (10 + (l0.length : Int)),(⟨a1_0,a1_1⟩ : S43)⟩ : S98));(case aB=>exact (puM HB.out GE274.out));(case aF=>exact (fun k_ hk=>(.inr (Nat.le_trans (by first|exact HK.out.1|exact (show Kept w _ (fun k_=>P0_ k_) from by repeat (first|(with_reducible first|exact HK.out|apply Kept.alloc|apply Kept.drewN|apply Kept.drew|refine Kept.setCell ?_ (.inr GW274.out) _)|exact HK.out)).1) hk))));(case aO=>exact (puQ HO_0.out));(case aS=>exact (l6_ (puM HB.out GE274.out)));(case aL=>have:=LMc13.out;omega);intro v278 w16 ho hb hg hat;rw [← Ny277.out] at ho;have n0_:=m_ (blk_grown (g:=gb274) (o:=.cells #[.int .i64 a1_0,.int .i64 a1_1] 43 (0,0)) (puB BK274.out) hg (Kd.Q_ne HO_0.out BK274.out (by decide)));have n1_:=m_ (hb);have n2_:=m_ (Kept.of_grown (S:=(fun k_=>P0_ k_)) hg (by repeat (first|(with_reducible first|exact HK.out|apply Kept.alloc|apply Kept.drewN|apply Kept.drew|refine Kept.setCell ?_ (.inr GW274.out) _)|exact HK.out)) (fun k_ e_=>(HO_0.out.1 k_ e_)));have n3_:=m_ (ho);revert n0_ n1_ n2_ n3_;clear BK274 HB HK HO_0;intro BK274 HB HK HO279;clear ho hb hg hat)))
     go_ret3
     exact ⟨_,eqs,puQ HO279.out,puM HB.out GE274.out,by repeat (first|(with_reducible first|exact HK.out|apply Kept.alloc|apply Kept.drewN|apply Kept.drew|refine Kept.setCell ?_ (.inr GW274.out) _)|exact HK.out),by first|rfl|(intro h_;first|rfl|cases h_)⟩
theorem spec_l3Out.calls (k : Nat) (P0_ : Nat → Prop) (u9000_ : Value) (l0 : List (S98)) (a1_0 : Int) (a1_1 : Int) (r1 : List (S98)) (r2 : Int) (r3 : Bool) (w0 w : World) (hB : Below w0.heap.size w0 w) (ho0 : Kd.Q k98 98 w w0.heap.size P0_ u9000_ l0) (h : spec_l3Out.f k l0 a1_0 a1_1 = some (r1, r2, r3)) :
  Calls Tryd.prog 64 #[u9000_,.agg #[.int .i64 a1_0,.int .i64 a1_1]] w fun e w'=>∃ v0_ : Value,e = .returned (.tuple #[v0_,.int .i64 r2,.bool r3]) ∧ Kd.Q k98 98 w' w0.heap.size (fun k_=>(P0_ k_ ∨ w.heap.size ≤ k_)) v0_ r1 ∧ Below w0.heap.size w0 w' ∧ Kept w w' (fun k_=>P0_ k_) :=
 (spec_l3Out.calls2 k P0_ u9000_ l0 a1_0 a1_1 r1 r2 r3 w0 w hB ho0 h).mono (fun e w' ⟨v_,a_,b_,c_,d_,_⟩=>⟨v_,a_,b_,c_,d_⟩)
/-! ### spec_l71End: function 65 -/
mutual
def spec_l71End.j0 : Nat → Int → Bool → List Int → Int → Option (Int × Int × Int)
 | 0, _, _, _, _ => none
 | k + 1, x4, x5, x1000, x1001 => if x5 = true then ((spec_l6Rd_pick.f k x1000 x1001 3).bind fun bt283 => ((spec_l6Rd_pick.f k x1000 bt283.2 9).bind fun bt285 => (some (wrap64 (1 + bt283.1), wrap64 (1 + bt285.1), bt285.2)))) else (if x4 = 4 then (spec_l71End.j1 k x4 (x4 == 4) x1000 x1001) else (if x4 = 5 then (spec_l71End.j1 k x4 (x4 == 5) x1000 x1001) else (spec_l71End.j1 k x4 (x4 == 6) x1000 x1001)))
def spec_l71End.j1 : Nat → Int → Bool → List Int → Int → Option (Int × Int × Int)
 | 0, _, _, _, _ => none
 | k + 1, x4, x17, x1000, x1001 => if x17 = true then ((spec_l6Rd_pick.f k x1000 x1001 3).bind fun bt287 => ((spec_l6Rd_pick.f k x1000 bt287.2 9).bind fun bt289 => (some (wrap64 (4 + bt287.1), wrap64 (1 + bt289.1), bt289.2)))) else (if x4 = 7 then (spec_l71End.j2 k (x4 == 7) x1000 x1001) else (if x4 = 8 then (spec_l71End.j2 k (x4 == 8) x1000 x1001) else (if x4 = 9 then (spec_l71End.j2 k (x4 == 9) x1000 x1001) else (spec_l71End.j2 k (x4 == 10) x1000 x1001))))
def spec_l71End.j2 : Nat → Bool → List Int → Int → Option (Int × Int × Int)
 | 0, _, _, _ => none
 | k + 1, x28, x1000, x1001 => if x28 = true then ((spec_l6Rd_pick.f k x1000 x1001 8).bind fun bt291 => (some (9, wrap64 (10 + bt291.1), bt291.2))) else ((spec_l6Rd_pick.f k x1000 x1001 12).bind fun bt293 => ((spec_l6Rd_pick.f k x1000 bt293.2 20).bind fun bt295 => (some (bt293.1, bt295.1, bt295.2))))
end
def spec_l71End.f (k : Nat) (s0_0 : List Int) (s0_1 : Int) : Option (Int × Int × Int) := (spec_l6Rd_pick.f k s0_0 s0_1 12).bind fun bt281 => (if bt281.1 = 0 then (spec_l71End.j0 k bt281.1 (bt281.1 == 0) s0_0 bt281.2) else (if bt281.1 = 1 then (spec_l71End.j0 k bt281.1 (bt281.1 == 1) s0_0 bt281.2) else (if bt281.1 = 2 then (spec_l71End.j0 k bt281.1 (bt281.1 == 2) s0_0 bt281.2) else (spec_l71End.j0 k bt281.1 (bt281.1 == 3) s0_0 bt281.2))))
theorem spec_l71End.mono_l : ∀ k, (∀ y0 y1 y2 y3, LeO (spec_l71End.j0 k y0 y1 y2 y3) (spec_l71End.j0 (k + 1) y0 y1 y2 y3)) ∧ (∀ y0 y1 y2 y3, LeO (spec_l71End.j1 k y0 y1 y2 y3) (spec_l71End.j1 (k + 1) y0 y1 y2 y3)) ∧ (∀ y0 y1 y2, LeO (spec_l71End.j2 k y0 y1 y2) (spec_l71End.j2 (k + 1) y0 y1 y2))
 | 0 => ⟨fun _ _ _ _ r h => by simp [spec_l71End.j0] at h, fun _ _ _ _ r h => by simp [spec_l71End.j1] at h, fun _ _ _ r h => by simp [spec_l71End.j2] at h⟩
 | k + 1 => by
  obtain ⟨ih0,ih1,ih2⟩:=spec_l71End.mono_l k
  refine ⟨?_,?_,?_⟩
  ·intro y0 y1 y2 y3
   unfold spec_l71End.j0
   repeat' first
   | (with_reducible exact ih0 _ _ _ _)
   | (with_reducible exact ih1 _ _ _ _)
   | (with_reducible exact ih2 _ _ _)
   | (with_reducible exact spec_l6Rd_pick.mono _ _ _ _)
   | (with_reducible exact LeO.refl _)
   | (with_reducible exact LeO.none _)
   | (with_reducible refine LeO.ite ?_ ?_)
   | (with_reducible refine LeO.bind ?_ (fun _ => ?_))
   | exact ih0 _ _ _ _
   | exact ih1 _ _ _ _
   | exact ih2 _ _ _
   | exact spec_l6Rd_pick.mono _ _ _ _
   | exact LeO.none _
   | refine LeO.ite ?_ ?_
   | refine LeO.bind ?_ (fun _ => ?_)
  ·intro y0 y1 y2 y3
   unfold spec_l71End.j1
   repeat' first
   | (with_reducible exact ih0 _ _ _ _)
   | (with_reducible exact ih1 _ _ _ _)
   | (with_reducible exact ih2 _ _ _)
   | (with_reducible exact spec_l6Rd_pick.mono _ _ _ _)
   | (with_reducible exact LeO.refl _)
   | (with_reducible exact LeO.none _)
   | (with_reducible refine LeO.ite ?_ ?_)
   | (with_reducible refine LeO.bind ?_ (fun _ => ?_))
   | exact ih0 _ _ _ _
   | exact ih1 _ _ _ _
   | exact ih2 _ _ _
   | exact spec_l6Rd_pick.mono _ _ _ _
   | exact LeO.none _
   | refine LeO.ite ?_ ?_
   | refine LeO.bind ?_ (fun _ => ?_)
  ·intro y0 y1 y2
   unfold spec_l71End.j2
   repeat' first
   | (with_reducible exact ih0 _ _ _ _)
   | (with_reducible exact ih1 _ _ _ _)
   | (with_reducible exact ih2 _ _ _)
   | (with_reducible exact spec_l6Rd_pick.mono _ _ _ _)
   | (with_reducible exact LeO.refl _)
   | (with_reducible exact LeO.none _)
   | (with_reducible refine LeO.ite ?_ ?_)
   | (with_reducible refine LeO.bind ?_ (fun _ => ?_))
   | exact ih0 _ _ _ _
   | exact ih1 _ _ _ _
   | exact ih2 _ _ _
   | exact spec_l6Rd_pick.mono _ _ _ _
   | exact LeO.none _
   | refine LeO.ite ?_ ?_
   | refine LeO.bind ?_ (fun _ => ?_)
theorem spec_l71End.mono : ∀ a0 a1 k, LeO (spec_l71End.f k a0 a1) (spec_l71End.f (k + 1) a0 a1) := by
 intro a0 a1 k
 obtain ⟨ih0,ih1,ih2⟩:=spec_l71End.mono_l k
 unfold spec_l71End.f
 repeat' first
   | (with_reducible exact ih0 _ _ _ _)
   | (with_reducible exact ih1 _ _ _ _)
   | (with_reducible exact ih2 _ _ _)
   | (with_reducible exact spec_l6Rd_pick.mono _ _ _ _)
   | (with_reducible exact LeO.refl _)
   | (with_reducible exact LeO.none _)
   | (with_reducible refine LeO.ite ?_ ?_)
   | (with_reducible refine LeO.bind ?_ (fun _ => ?_))
   | exact ih0 _ _ _ _
   | exact ih1 _ _ _ _
   | exact ih2 _ _ _
   | exact spec_l6Rd_pick.mono _ _ _ _
   | exact LeO.none _
   | refine LeO.ite ?_ ?_
   | refine LeO.bind ?_ (fun _ => ?_)
theorem spec_l71End.calls (k : Nat) (g : Nat) (s0_0 : List Int) (s0_1 : Int) (r1 : Int) (r2 : Int) (r3 : Int) (w0 w : World) (hI : IsS85 w0 w g s0_0 s0_1) (hB : Below w0.heap.size w0 w) (h : spec_l71End.f k s0_0 s0_1 = some (r1, r2, r3)) :
  Calls Tryd.prog 65 #[.pointer (some ⟨g,0,none⟩)] w fun e w'=>e = .returned (.agg #[.int .i64 r1,.int .i64 r2]) ∧ IsS85 w0 w' g s0_0 r3 ∧ Below w0.heap.size w0 w' ∧ KeepBut w w' g none:=by
 have hu43:=Tryd.underlying43
 have HI0:=m_ hI
 have HK:=m_ (KeepBut.refl w g none)
 have HL:=m_ hB.size
 clear hI
 have HW0:=m_ hB.size
 have HB:=m_ hB
 clear hB
 have H : ((spec_l6Rd_pick.f k s0_0 s0_1 12).bind fun bt281=>(if bt281.1 = 0 then (spec_l71End.j0 k bt281.1 (bt281.1 == 0) s0_0 bt281.2) else (if bt281.1 = 1 then (spec_l71End.j0 k bt281.1 (bt281.1 == 1) s0_0 bt281.2) else (if bt281.1 = 2 then (spec_l71End.j0 k bt281.1 (bt281.1 == 2) s0_0 bt281.2) else (spec_l71End.j0 k bt281.1 (bt281.1 == 3) s0_0 bt281.2))))) = some (r1,r2,r3):=h
 clear h
 replace H:=Option.bind_eq_some_iff.mp H
 obtain ⟨⟨t281,t282⟩,A20,H⟩:=H
 replace H : (if t281 = 0 then (spec_l71End.j0 k t281 (t281 == 0) s0_0 t282) else (if t281 = 1 then (spec_l71End.j0 k t281 (t281 == 1) s0_0 t282) else (if t281 = 2 then (spec_l71End.j0 k t281 (t281 == 2) s0_0 t282) else (spec_l71End.j0 k t281 (t281 == 3) s0_0 t282)))) = some (r1,r2,r3):=H
 have A2:=m_ A20
 clear A20
 have HC3:=m_ H
 clear H
 go_enter Tryd.func65,Tryd.ntmps65
 go_upto_if 5 with (first|((with_reducible refine gate_dst (N:=2) rfl ?_);refine box_event ?hg (N:=2) ?hd (cs:=#[.int .i64 0,.int .i64 0]) (t:=43) ?hr ?_;(case hd=>rfl);(case hg=>rfl);(case hr=>first|(go_simp;done)|(go_simp;rfl));intro gb280 hg w4 hbox hb;have n0_:=m_ (IsS85.below (by repeat (first|(with_reducible first|exact HI0.out|apply IsS85.alloc|apply IsS85.drewN|apply IsS85.drew|apply IsS85.set_1)|exact HI0.out)) hb);have n1_:=m_ (KeepBut.trans (puK HK.out) (KeepBut.of_below hb g none) (.inl rfl));have n2_:=m_ (l5_ (puM HB.out (IsS85.ge HI0.out)) hb);have n3_:=m_ (hbox);have n4_:=m_ ((by rw [hg];exact (keep_size (w:=w) (g:=g) (row:=none) (puK HK.out)) : w.heap.size ≤ gb280));have n5_:=m_ ((Nat.le_trans HW0.out (by rw [hg];exact (keep_size (w:=w) (g:=g) (row:=none) (puK HK.out)) : w.heap.size ≤ gb280) : w0.heap.size ≤ gb280));have n6_:=m_ ((by rw [hg];exact Nat.ne_of_lt (IsS85.lt (show IsS85 w0 _ g s0_0 s0_1 from by repeat (first|(with_reducible first|exact HI0.out|apply IsS85.alloc|apply IsS85.drewN|apply IsS85.drew|apply IsS85.set_1)|exact HI0.out))) : g ≠ gb280));have n7_:=m_ ((by rw [hg];exact Nat.ne_of_gt (IsS85.lt (show IsS85 w0 _ g s0_0 s0_1 from by repeat (first|(with_reducible first|exact HI0.out|apply IsS85.alloc|apply IsS85.drewN|apply IsS85.drew|apply IsS85.set_1)|exact HI0.out))) : gb280 ≠ g));revert n0_ n1_ n2_ n3_ n4_ n5_ n6_ n7_;clear HI0 HK HB;intro HI0 HK HB BK280 GW280 GE280 NB0_280 NB280_0;clear hb hbox hg)|((with_reducible refine gate_callee (f:=53) rfl ?_);refine goesL_ (some 4) rfl rfl Tryd.func53 (by kernel_rfl) rfl #[.pointer (some ⟨g,0,none⟩),.int .i64 12] rfl lens ?_;(with_reducible refine (spec_l6Rd_pick.calls k g s0_0 s0_1 12 t281 t282 w0 _ ?side1 ?side2 A2.out).mono ?_);(case side1=>repeat (first|(with_reducible first|exact HI0.out|apply IsS85.alloc|apply IsS85.drewN|apply IsS85.drew|apply IsS85.set_1|refine IsS85.far ?_ NB0_280.out _)|exact HI0.out));(case side2=>repeat (first|(with_reducible first|exact HB.out|apply l1_|apply l2_|apply l3_|refine l4_ ?_ (IsS85.ge HI0.out)|refine l4_ ?_ GE280.out)|exact HB.out));rintro e w5 ⟨rfl,hi,hb,hk⟩;refine ⟨_,rfl,?_⟩;have n0_:=m_ (KeepBut.blk hk (g':=gb280) (o:=.cells #[.int .i64 0,.int .i64 0] 43 (0,0)) (puB BK280.out) NB280_0.out (by simp));have n1_:=m_ (KeepBut.trans (by repeat (first|(with_reducible first|exact HK.out|apply KeepBut.set_|apply keep_drewN|apply keep_drew|apply keep_alloc|refine keep_far ?_ GW280.out _)|exact HK.out)) hk (.inl rfl));have n2_:=m_ (hb);have n3_:=m_ (hi);revert n0_ n1_ n2_ n3_;clear BK280 HK HB HI0;intro BK280 HK HB HI0;(try clear hb);(try clear hb2);(try clear hk);(try clear hi)))
 (try simp only [Act.put,s1_,s2_,s3_])
 go_cut [5] (fun v5 wc=>∃ (kq : Nat) (x5_2 : Bool),v5 = .bool x5_2 ∧ Aside0 (spec_l71End.j0 kq t281 x5_2 s0_0 t282 = some (r1,r2,r3)) ∧ Aside0 (kq ≤ k) ∧ Aside0 (wc.heap[gb280]? = some (.cells #[.int .i64 0,.int .i64 0] 43 (0,0))) ∧ Aside0 (IsS85 w0 wc g s0_0 t282) ∧ Aside0 (KeepBut w wc g none) ∧ Aside0 (Below w0.heap.size w0 wc))
 case first =>
  have H:=HC3.out
  clear HC3
  by_cases c6 : t281 = 0
  ·rw [if_pos c6] at H
   have c6b0 : (t281 == 0) = true:=beq_iff_eq.mpr c6
   have c6b1 : (t281 != 0) = false:=bne_eq_false_iff_eq.mpr c6
   clear c6
   (first|rw [c6b0]|(simp only [i64_w,i32_w];rw [c6b0])|skip)
   have H':=m_ H
   clear H
   go_wp2
   go_meet
   case rel=>exact ⟨_,((t281 == 0)),(by first|rfl|(simp;done)|(simp [*];done)),H',⟨by first|omega|exact Nat.le_refl _⟩,⟨by (with_reducible repeat first|apply b1_|apply b2_|apply b3_);exact BK280.out⟩,⟨by repeat (first|(with_reducible first|exact HI0.out|apply IsS85.alloc|apply IsS85.drewN|apply IsS85.drew|apply IsS85.set_1|refine IsS85.far ?_ NB0_280.out _)|exact HI0.out)⟩,⟨by repeat (first|(with_reducible first|exact HK.out|apply KeepBut.set_|apply keep_drewN|apply keep_drew|apply keep_alloc|refine keep_far ?_ GW280.out _)|exact HK.out)⟩,⟨by repeat (first|(with_reducible first|exact HB.out|apply l1_|apply l2_|apply l3_|refine l4_ ?_ (IsS85.ge HI0.out)|refine l4_ ?_ GE280.out)|exact HB.out)⟩⟩
  ·rw [if_neg c6] at H
   have c6b0 : (t281 == 0) = false:=beq_eq_false_iff_ne.mpr c6
   have c6b1 : (t281 != 0) = true:=bne_iff_ne.mpr c6
   (first|rw [c6b0]|(simp only [i64_w,i32_w];rw [c6b0])|skip)
   by_cases c7 : t281 = 1
   ·rw [if_pos c7] at H
    have c7b0 : (t281 == 1) = true:=beq_iff_eq.mpr c7
    have c7b1 : (t281 != 1) = false:=bne_eq_false_iff_eq.mpr c7
    clear c7
    have H':=m_ H
    clear H
    go_wp2
    go_meet
    case rel=>exact ⟨_,((t281 == 1)),(by first|rfl|(simp;done)|(simp [*];done)),H',⟨by first|omega|exact Nat.le_refl _⟩,⟨by (with_reducible repeat first|apply b1_|apply b2_|apply b3_);exact BK280.out⟩,⟨by repeat (first|(with_reducible first|exact HI0.out|apply IsS85.alloc|apply IsS85.drewN|apply IsS85.drew|apply IsS85.set_1|refine IsS85.far ?_ NB0_280.out _)|exact HI0.out)⟩,⟨by repeat (first|(with_reducible first|exact HK.out|apply KeepBut.set_|apply keep_drewN|apply keep_drew|apply keep_alloc|refine keep_far ?_ GW280.out _)|exact HK.out)⟩,⟨by repeat (first|(with_reducible first|exact HB.out|apply l1_|apply l2_|apply l3_|refine l4_ ?_ (IsS85.ge HI0.out)|refine l4_ ?_ GE280.out)|exact HB.out)⟩⟩
   ·rw [if_neg c7] at H
    have c7b0 : (t281 == 1) = false:=beq_eq_false_iff_ne.mpr c7
    have c7b1 : (t281 != 1) = true:=bne_iff_ne.mpr c7
    by_cases c8 : t281 = 2
    ·rw [if_pos c8] at H
     have c8b0 : (t281 == 2) = true:=beq_iff_eq.mpr c8
     have c8b1 : (t281 != 2) = false:=bne_eq_false_iff_eq.mpr c8
     clear c8
     have H':=m_ H
     clear H
     go_wp2
     go_meet
     case rel=>exact ⟨_,((t281 == 2)),(by first|rfl|(simp;done)|(simp [*];done)),H',⟨by first|omega|exact Nat.le_refl _⟩,⟨by (with_reducible repeat first|apply b1_|apply b2_|apply b3_);exact BK280.out⟩,⟨by repeat (first|(with_reducible first|exact HI0.out|apply IsS85.alloc|apply IsS85.drewN|apply IsS85.drew|apply IsS85.set_1|refine IsS85.far ?_ NB0_280.out _)|exact HI0.out)⟩,⟨by repeat (first|(with_reducible first|exact HK.out|apply KeepBut.set_|apply keep_drewN|apply keep_drew|apply keep_alloc|refine keep_far ?_ GW280.out _)|exact HK.out)⟩,⟨by repeat (first|(with_reducible first|exact HB.out|apply l1_|apply l2_|apply l3_|refine l4_ ?_ (IsS85.ge HI0.out)|refine l4_ ?_ GE280.out)|exact HB.out)⟩⟩
    ·rw [if_neg c8] at H
     have c8b0 : (t281 == 2) = false:=beq_eq_false_iff_ne.mpr c8
     have c8b1 : (t281 != 2) = true:=bne_iff_ne.mpr c8
     have H':=m_ H
     clear H
     go_wp2
     go_meet
     case rel=>exact ⟨_,((t281 == 3)),(by first|rfl|(simp;done)|(simp [*];done)),H',⟨by first|omega|exact Nat.le_refl _⟩,⟨by (with_reducible repeat first|apply b1_|apply b2_|apply b3_);exact BK280.out⟩,⟨by repeat (first|(with_reducible first|exact HI0.out|apply IsS85.alloc|apply IsS85.drewN|apply IsS85.drew|apply IsS85.set_1|refine IsS85.far ?_ NB0_280.out _)|exact HI0.out)⟩,⟨by repeat (first|(with_reducible first|exact HK.out|apply KeepBut.set_|apply keep_drewN|apply keep_drew|apply keep_alloc|refine keep_far ?_ GW280.out _)|exact HK.out)⟩,⟨by repeat (first|(with_reducible first|exact HB.out|apply l1_|apply l2_|apply l3_|refine l4_ ?_ (IsS85.ge HI0.out)|refine l4_ ?_ GE280.out)|exact HB.out)⟩⟩
 case rest =>
  clear HC3
  try clear p2
  try clear c5
  try clear c6
  try clear c6b0
  try clear c6b1
  try clear c7
  try clear c7b0
  try clear c7b1
  try clear c8
  try clear c8b0
  try clear c8b1
  obtain ⟨kq,x5_2,rfl,HA,HJ2,BK280,HI0,HK,HB⟩:=hcut
  cases kq with
  | zero => exact absurd HA.out (by simp [spec_l71End.j0])
  | succ kj2 =>
   have H:=HA.out
   clear HA
   simp only [spec_l71End.j0] at H
   by_cases c9 : x5_2 = true
   ·subst c9
    have H1 : ((spec_l6Rd_pick.f kj2 s0_0 t282 3).bind fun bt283=>((spec_l6Rd_pick.f kj2 s0_0 bt283.2 9).bind fun bt285=>(some (wrap64 (1 + bt283.1),wrap64 (1 + bt285.1),bt285.2)))) = some (r1,r2,r3):=by rw [if_pos rfl] at H;exact H
    clear H
    have H:=H1
    clear H1
    replace H:=Option.bind_eq_some_iff.mp H
    obtain ⟨⟨t283,t284⟩,A100,H⟩:=H
    replace H : ((spec_l6Rd_pick.f kj2 s0_0 t284 9).bind fun bt285=>(some (wrap64 (1 + t283),wrap64 (1 + bt285.1),bt285.2))) = some (r1,r2,r3):=H
    have A10:=m_ A100
    clear A100
    replace H:=Option.bind_eq_some_iff.mp H
    obtain ⟨⟨t285,t286⟩,A110,H⟩:=H
    replace H : (some (wrap64 (1 + t283),wrap64 (1 + t285),t286)) = some (r1,r2,r3):=H
    have A11:=m_ A110
    clear A110
    simp only [Option.some.injEq,Prod.mk.injEq] at H
    obtain ⟨rfl,rfl,rfl⟩:=H
    go_wp2_with (first|((with_reducible refine gate_callee (f:=53) rfl ?_);refine goesL_ (some 11) rfl rfl Tryd.func53 (by kernel_rfl) rfl #[.pointer (some ⟨g,0,none⟩),.int .i64 3] rfl lens ?_;(with_reducible refine (spec_l6Rd_pick.calls kj2 g s0_0 t282 3 t283 t284 w0 _ ?side1 ?side2 A10.out).mono ?_);(case side1=>repeat (first|(with_reducible first|exact HI0.out|apply IsS85.alloc|apply IsS85.drewN|apply IsS85.drew|apply IsS85.set_1|refine IsS85.far ?_ NB0_280.out _)|exact HI0.out));(case side2=>repeat (first|(with_reducible first|exact HB.out|apply l1_|apply l2_|apply l3_|refine l4_ ?_ (IsS85.ge HI0.out)|refine l4_ ?_ GE280.out)|exact HB.out));rintro e w12 ⟨rfl,hi,hb,hk⟩;refine ⟨_,rfl,?_⟩;have n0_:=m_ (KeepBut.blk hk (g':=gb280) (o:=.cells #[.int .i64 0,.int .i64 0] 43 (0,0)) (puB BK280.out) NB280_0.out (by simp));have n1_:=m_ (KeepBut.trans (by repeat (first|(with_reducible first|exact HK.out|apply KeepBut.set_|apply keep_drewN|apply keep_drew|apply keep_alloc|refine keep_far ?_ GW280.out _)|exact HK.out)) hk (.inl rfl));have n2_:=m_ (hb);have n3_:=m_ (hi);revert n0_ n1_ n2_ n3_;clear BK280 HK HB HI0;intro BK280 HK HB HI0;(try clear hb);(try clear hb2);(try clear hk);(try clear hi))|((with_reducible refine gate_callee (f:=53) rfl ?_);refine goesL_ (some 14) rfl rfl Tryd.func53 (by kernel_rfl) rfl #[.pointer (some ⟨g,0,none⟩),.int .i64 9] rfl lens ?_;(with_reducible refine (spec_l6Rd_pick.calls kj2 g s0_0 t284 9 t285 t286 w0 _ ?side1 ?side2 A11.out).mono ?_);(case side1=>repeat (first|(with_reducible first|exact HI0.out|apply IsS85.alloc|apply IsS85.drewN|apply IsS85.drew|apply IsS85.set_1|refine IsS85.far ?_ NB0_280.out _)|exact HI0.out));(case side2=>repeat (first|(with_reducible first|exact HB.out|apply l1_|apply l2_|apply l3_|refine l4_ ?_ (IsS85.ge HI0.out)|refine l4_ ?_ GE280.out)|exact HB.out));rintro e w13 ⟨rfl,hi,hb,hk⟩;refine ⟨_,rfl,?_⟩;have n0_:=m_ (KeepBut.blk hk (g':=gb280) (o:=.cells #[.int .i64 0,.int .i64 0] 43 (0,0)) (puB BK280.out) NB280_0.out (by simp));have n1_:=m_ (KeepBut.trans (by repeat (first|(with_reducible first|exact HK.out|apply KeepBut.set_|apply keep_drewN|apply keep_drew|apply keep_alloc|refine keep_far ?_ GW280.out _)|exact HK.out)) hk (.inl rfl));have n2_:=m_ (hb);have n3_:=m_ (hi);revert n0_ n1_ n2_ n3_;clear BK280 HK HB HI0;intro BK280 HK HB HI0;(try clear hb);(try clear hb2);(try clear hk);(try clear hi);have hnb14:=NB280_0.out;have hnc14:=NB0_280.out;have hcz15_0 : w13.cell? ⟨gb280,0,none⟩ = some (.int .i64 0):=(c_ BK280.out 0).trans rfl;have hcz15_1 : w13.cell? ⟨gb280,1,none⟩ = some (.int .i64 0):=(c_ BK280.out 1).trans rfl;have hfz15_0:=f_ BK280.out 0;have hfz15_1:=f_ BK280.out 1))
    refine bodyPost_ret (results_cell_row rfl _ _ gb280 43 #[.int .i64 (wrap64 (1 + t283)),.int .i64 (wrap64 (1 + t285))] (0,0) _ rfl (by (with_reducible repeat first|apply b1_|apply b2_|apply b3_);refine blk_put (cs:=#[.int .i64 (wrap64 (1 + t283)),.int .i64 0]) ?_ 1 _ rfl;(with_reducible repeat first|apply b1_|apply b2_|apply b3_);refine blk_put (cs:=#[.int .i64 0,.int .i64 0]) ?_ 0 _ rfl;(with_reducible repeat first|apply b1_|apply b2_|apply b3_);exact BK280.out) Tryd.underlying43 rfl (by kernel_rfl)) rfl ?_
    exact ⟨eqs,by repeat (first|(with_reducible first|exact HI0.out|apply IsS85.alloc|apply IsS85.drewN|apply IsS85.drew|apply IsS85.set_1|refine IsS85.far ?_ NB0_280.out _)|exact HI0.out),by repeat (first|(with_reducible first|exact HB.out|apply l1_|apply l2_|apply l3_|refine l4_ ?_ (IsS85.ge HI0.out)|refine l4_ ?_ GE280.out)|exact HB.out),by repeat (first|(with_reducible first|exact HK.out|apply KeepBut.set_|apply keep_drewN|apply keep_drew|apply keep_alloc|refine keep_far ?_ GW280.out _)|exact HK.out)⟩
   ·replace c9:=Bool.eq_false_iff.mpr c9
    subst c9
    have H1 : (if t281 = 4 then (spec_l71End.j1 kj2 t281 (t281 == 4) s0_0 t282) else (if t281 = 5 then (spec_l71End.j1 kj2 t281 (t281 == 5) s0_0 t282) else (spec_l71End.j1 kj2 t281 (t281 == 6) s0_0 t282))) = some (r1,r2,r3):=by rw [if_neg (show ¬ (false = true) by decide)] at H;exact H
    clear H
    have H:=H1
    clear H1
    have HC16:=m_ H
    clear H
    go_upto_if 17 with (fail)
    go_cut [17] (fun v17 wc=>∃ (kq : Nat) (x17_15 : Bool),v17 = .bool x17_15 ∧ Aside0 (spec_l71End.j1 kq t281 x17_15 s0_0 t282 = some (r1,r2,r3)) ∧ Aside0 (kq ≤ kj2) ∧ Aside0 (wc.heap[gb280]? = some (.cells #[.int .i64 0,.int .i64 0] 43 (0,0))) ∧ Aside0 (IsS85 w0 wc g s0_0 t282) ∧ Aside0 (KeepBut w wc g none) ∧ Aside0 (Below w0.heap.size w0 wc))
    case first =>
     have H:=HC16.out
     clear HC16
     by_cases c17 : t281 = 4
     ·rw [if_pos c17] at H
      have c17b0 : (t281 == 4) = true:=beq_iff_eq.mpr c17
      have c17b1 : (t281 != 4) = false:=bne_eq_false_iff_eq.mpr c17
      clear c17
      (first|rw [c17b0]|(simp only [i64_w,i32_w];rw [c17b0])|skip)
      have H':=m_ H
      clear H
      go_wp2
      go_meet
      case rel=>exact ⟨_,((t281 == 4)),(by first|rfl|(simp;done)|(simp [*];done)),H',⟨by have:=HJ2.out;first|omega|exact Nat.le_refl _⟩,⟨by (with_reducible repeat first|apply b1_|apply b2_|apply b3_);exact BK280.out⟩,⟨by repeat (first|(with_reducible first|exact HI0.out|apply IsS85.alloc|apply IsS85.drewN|apply IsS85.drew|apply IsS85.set_1|refine IsS85.far ?_ NB0_280.out _)|exact HI0.out)⟩,⟨by repeat (first|(with_reducible first|exact HK.out|apply KeepBut.set_|apply keep_drewN|apply keep_drew|apply keep_alloc|refine keep_far ?_ GW280.out _)|exact HK.out)⟩,⟨by repeat (first|(with_reducible first|exact HB.out|apply l1_|apply l2_|apply l3_|refine l4_ ?_ (IsS85.ge HI0.out)|refine l4_ ?_ GE280.out)|exact HB.out)⟩⟩
     ·rw [if_neg c17] at H
      have c17b0 : (t281 == 4) = false:=beq_eq_false_iff_ne.mpr c17
      have c17b1 : (t281 != 4) = true:=bne_iff_ne.mpr c17
      (first|rw [c17b0]|(simp only [i64_w,i32_w];rw [c17b0])|skip)
      by_cases c18 : t281 = 5
      ·rw [if_pos c18] at H
       have c18b0 : (t281 == 5) = true:=beq_iff_eq.mpr c18
       have c18b1 : (t281 != 5) = false:=bne_eq_false_iff_eq.mpr c18
       clear c18
       have H':=m_ H
       clear H
       go_wp2
       go_meet
       case rel=>exact ⟨_,((t281 == 5)),(by first|rfl|(simp;done)|(simp [*];done)),H',⟨by have:=HJ2.out;first|omega|exact Nat.le_refl _⟩,⟨by (with_reducible repeat first|apply b1_|apply b2_|apply b3_);exact BK280.out⟩,⟨by repeat (first|(with_reducible first|exact HI0.out|apply IsS85.alloc|apply IsS85.drewN|apply IsS85.drew|apply IsS85.set_1|refine IsS85.far ?_ NB0_280.out _)|exact HI0.out)⟩,⟨by repeat (first|(with_reducible first|exact HK.out|apply KeepBut.set_|apply keep_drewN|apply keep_drew|apply keep_alloc|refine keep_far ?_ GW280.out _)|exact HK.out)⟩,⟨by repeat (first|(with_reducible first|exact HB.out|apply l1_|apply l2_|apply l3_|refine l4_ ?_ (IsS85.ge HI0.out)|refine l4_ ?_ GE280.out)|exact HB.out)⟩⟩
      ·rw [if_neg c18] at H
       have c18b0 : (t281 == 5) = false:=beq_eq_false_iff_ne.mpr c18
       have c18b1 : (t281 != 5) = true:=bne_iff_ne.mpr c18
       have H':=m_ H
       clear H
       go_wp2
       go_meet
       case rel=>exact ⟨_,((t281 == 6)),(by first|rfl|(simp;done)|(simp [*];done)),H',⟨by have:=HJ2.out;first|omega|exact Nat.le_refl _⟩,⟨by (with_reducible repeat first|apply b1_|apply b2_|apply b3_);exact BK280.out⟩,⟨by repeat (first|(with_reducible first|exact HI0.out|apply IsS85.alloc|apply IsS85.drewN|apply IsS85.drew|apply IsS85.set_1|refine IsS85.far ?_ NB0_280.out _)|exact HI0.out)⟩,⟨by repeat (first|(with_reducible first|exact HK.out|apply KeepBut.set_|apply keep_drewN|apply keep_drew|apply keep_alloc|refine keep_far ?_ GW280.out _)|exact HK.out)⟩,⟨by repeat (first|(with_reducible first|exact HB.out|apply l1_|apply l2_|apply l3_|refine l4_ ?_ (IsS85.ge HI0.out)|refine l4_ ?_ GE280.out)|exact HB.out)⟩⟩
    case rest =>
     clear HC16
     try clear c1
     try clear p2
     try clear c5
     try clear c6
     try clear c6b0
     try clear c6b1
     try clear p6
     try clear c7
     try clear c7b0
     try clear c7b1
     try clear c8
     try clear c8b0
     try clear c8b1
     try clear c9
     try clear c14
     try clear c17
     try clear c17b0
     try clear c17b1
     try clear c18
     try clear c18b0
     try clear c18b1
     try clear hcz15_0
     try clear hcz15_1
     try clear hfz15_0
     try clear hfz15_1
     try clear p2
     obtain ⟨kq,x17_15,rfl,HA,HJ15,BK280,HI0,HK,HB⟩:=hcut
     cases kq with
     | zero => exact absurd HA.out (by simp [spec_l71End.j1])
     | succ kj15 =>
      have H:=HA.out
      clear HA
      simp only [spec_l71End.j1] at H
      by_cases c19 : x17_15 = true
      ·subst c19
       have H1 : ((spec_l6Rd_pick.f kj15 s0_0 t282 3).bind fun bt287=>((spec_l6Rd_pick.f kj15 s0_0 bt287.2 9).bind fun bt289=>(some (wrap64 (4 + bt287.1),wrap64 (1 + bt289.1),bt289.2)))) = some (r1,r2,r3):=by rw [if_pos rfl] at H;exact H
       clear H
       have H:=H1
       clear H1
       replace H:=Option.bind_eq_some_iff.mp H
       obtain ⟨⟨t287,t288⟩,A200,H⟩:=H
       replace H : ((spec_l6Rd_pick.f kj15 s0_0 t288 9).bind fun bt289=>(some (wrap64 (4 + t287),wrap64 (1 + bt289.1),bt289.2))) = some (r1,r2,r3):=H
       have A20:=m_ A200
       clear A200
       replace H:=Option.bind_eq_some_iff.mp H
       obtain ⟨⟨t289,t290⟩,A210,H⟩:=H
       replace H : (some (wrap64 (4 + t287),wrap64 (1 + t289),t290)) = some (r1,r2,r3):=H
       have A21:=m_ A210
       clear A210
       simp only [Option.some.injEq,Prod.mk.injEq] at H
       obtain ⟨rfl,rfl,rfl⟩:=H
       go_wp2_with (first|((with_reducible refine gate_callee (f:=53) rfl ?_);refine goesL_ (some 22) rfl rfl Tryd.func53 (by kernel_rfl) rfl #[.pointer (some ⟨g,0,none⟩),.int .i64 3] rfl lens ?_;(with_reducible refine (spec_l6Rd_pick.calls kj15 g s0_0 t282 3 t287 t288 w0 _ ?side1 ?side2 A20.out).mono ?_);(case side1=>repeat (first|(with_reducible first|exact HI0.out|apply IsS85.alloc|apply IsS85.drewN|apply IsS85.drew|apply IsS85.set_1|refine IsS85.far ?_ NB0_280.out _)|exact HI0.out));(case side2=>repeat (first|(with_reducible first|exact HB.out|apply l1_|apply l2_|apply l3_|refine l4_ ?_ (IsS85.ge HI0.out)|refine l4_ ?_ GE280.out)|exact HB.out));rintro e w22 ⟨rfl,hi,hb,hk⟩;refine ⟨_,rfl,?_⟩;have n0_:=m_ (KeepBut.blk hk (g':=gb280) (o:=.cells #[.int .i64 0,.int .i64 0] 43 (0,0)) (puB BK280.out) NB280_0.out (by simp));have n1_:=m_ (KeepBut.trans (by repeat (first|(with_reducible first|exact HK.out|apply KeepBut.set_|apply keep_drewN|apply keep_drew|apply keep_alloc|refine keep_far ?_ GW280.out _)|exact HK.out)) hk (.inl rfl));have n2_:=m_ (hb);have n3_:=m_ (hi);revert n0_ n1_ n2_ n3_;clear BK280 HK HB HI0;intro BK280 HK HB HI0;(try clear hb);(try clear hb2);(try clear hk);(try clear hi))|((with_reducible refine gate_callee (f:=53) rfl ?_);refine goesL_ (some 25) rfl rfl Tryd.func53 (by kernel_rfl) rfl #[.pointer (some ⟨g,0,none⟩),.int .i64 9] rfl lens ?_;(with_reducible refine (spec_l6Rd_pick.calls kj15 g s0_0 t288 9 t289 t290 w0 _ ?side1 ?side2 A21.out).mono ?_);(case side1=>repeat (first|(with_reducible first|exact HI0.out|apply IsS85.alloc|apply IsS85.drewN|apply IsS85.drew|apply IsS85.set_1|refine IsS85.far ?_ NB0_280.out _)|exact HI0.out));(case side2=>repeat (first|(with_reducible first|exact HB.out|apply l1_|apply l2_|apply l3_|refine l4_ ?_ (IsS85.ge HI0.out)|refine l4_ ?_ GE280.out)|exact HB.out));rintro e w23 ⟨rfl,hi,hb,hk⟩;refine ⟨_,rfl,?_⟩;have n0_:=m_ (KeepBut.blk hk (g':=gb280) (o:=.cells #[.int .i64 0,.int .i64 0] 43 (0,0)) (puB BK280.out) NB280_0.out (by simp));have n1_:=m_ (KeepBut.trans (by repeat (first|(with_reducible first|exact HK.out|apply KeepBut.set_|apply keep_drewN|apply keep_drew|apply keep_alloc|refine keep_far ?_ GW280.out _)|exact HK.out)) hk (.inl rfl));have n2_:=m_ (hb);have n3_:=m_ (hi);revert n0_ n1_ n2_ n3_;clear BK280 HK HB HI0;intro BK280 HK HB HI0;(try clear hb);(try clear hb2);(try clear hk);(try clear hi);have hnb24:=NB280_0.out;have hnc24:=NB0_280.out;have hcz25_0 : w23.cell? ⟨gb280,0,none⟩ = some (.int .i64 0):=(c_ BK280.out 0).trans rfl;have hcz25_1 : w23.cell? ⟨gb280,1,none⟩ = some (.int .i64 0):=(c_ BK280.out 1).trans rfl;have hfz25_0:=f_ BK280.out 0;have hfz25_1:=f_ BK280.out 1))
       refine bodyPost_ret (results_cell_row rfl _ _ gb280 43 #[.int .i64 (wrap64 (4 + t287)),.int .i64 (wrap64 (1 + t289))] (0,0) _ rfl (by (with_reducible repeat first|apply b1_|apply b2_|apply b3_);refine blk_put (cs:=#[.int .i64 (wrap64 (4 + t287)),.int .i64 0]) ?_ 1 _ rfl;(with_reducible repeat first|apply b1_|apply b2_|apply b3_);refine blk_put (cs:=#[.int .i64 0,.int .i64 0]) ?_ 0 _ rfl;(with_reducible repeat first|apply b1_|apply b2_|apply b3_);exact BK280.out) Tryd.underlying43 rfl (by kernel_rfl)) rfl ?_
       exact ⟨eqs,by repeat (first|(with_reducible first|exact HI0.out|apply IsS85.alloc|apply IsS85.drewN|apply IsS85.drew|apply IsS85.set_1|refine IsS85.far ?_ NB0_280.out _)|exact HI0.out),by repeat (first|(with_reducible first|exact HB.out|apply l1_|apply l2_|apply l3_|refine l4_ ?_ (IsS85.ge HI0.out)|refine l4_ ?_ GE280.out)|exact HB.out),by repeat (first|(with_reducible first|exact HK.out|apply KeepBut.set_|apply keep_drewN|apply keep_drew|apply keep_alloc|refine keep_far ?_ GW280.out _)|exact HK.out)⟩
      ·replace c19:=Bool.eq_false_iff.mpr c19
       subst c19
       have H1 : (if t281 = 7 then (spec_l71End.j2 kj15 (t281 == 7) s0_0 t282) else (if t281 = 8 then (spec_l71End.j2 kj15 (t281 == 8) s0_0 t282) else (if t281 = 9 then (spec_l71End.j2 kj15 (t281 == 9) s0_0 t282) else (spec_l71End.j2 kj15 (t281 == 10) s0_0 t282)))) = some (r1,r2,r3):=by rw [if_neg (show ¬ (false = true) by decide)] at H;exact H
       clear H
       have H:=H1
       clear H1
       have HC26:=m_ H
       clear H
       go_upto_if 28 with (fail)
       go_cut [28] (fun v28 wc=>∃ (kq : Nat) (x28_25 : Bool),v28 = .bool x28_25 ∧ Aside0 (spec_l71End.j2 kq x28_25 s0_0 t282 = some (r1,r2,r3)) ∧ Aside0 (kq ≤ kj15) ∧ Aside0 (wc.heap[gb280]? = some (.cells #[.int .i64 0,.int .i64 0] 43 (0,0))) ∧ Aside0 (IsS85 w0 wc g s0_0 t282) ∧ Aside0 (KeepBut w wc g none) ∧ Aside0 (Below w0.heap.size w0 wc))
       case first =>
        have H:=HC26.out
        clear HC26
        by_cases c27 : t281 = 7
        ·rw [if_pos c27] at H
         have c27b0 : (t281 == 7) = true:=beq_iff_eq.mpr c27
         have c27b1 : (t281 != 7) = false:=bne_eq_false_iff_eq.mpr c27
         clear c27
         (first|rw [c27b0]|(simp only [i64_w,i32_w];rw [c27b0])|skip)
         have H':=m_ H
         clear H
         go_wp2
         go_meet
         case rel=>exact ⟨_,((t281 == 7)),(by first|rfl|(simp;done)|(simp [*];done)),H',⟨by have:=HJ2.out;have:=HJ15.out;first|omega|exact Nat.le_refl _⟩,⟨by (with_reducible repeat first|apply b1_|apply b2_|apply b3_);exact BK280.out⟩,⟨by repeat (first|(with_reducible first|exact HI0.out|apply IsS85.alloc|apply IsS85.drewN|apply IsS85.drew|apply IsS85.set_1|refine IsS85.far ?_ NB0_280.out _)|exact HI0.out)⟩,⟨by repeat (first|(with_reducible first|exact HK.out|apply KeepBut.set_|apply keep_drewN|apply keep_drew|apply keep_alloc|refine keep_far ?_ GW280.out _)|exact HK.out)⟩,⟨by repeat (first|(with_reducible first|exact HB.out|apply l1_|apply l2_|apply l3_|refine l4_ ?_ (IsS85.ge HI0.out)|refine l4_ ?_ GE280.out)|exact HB.out)⟩⟩
        ·rw [if_neg c27] at H
         have c27b0 : (t281 == 7) = false:=beq_eq_false_iff_ne.mpr c27
         have c27b1 : (t281 != 7) = true:=bne_iff_ne.mpr c27
         (first|rw [c27b0]|(simp only [i64_w,i32_w];rw [c27b0])|skip)
         by_cases c28 : t281 = 8
         ·rw [if_pos c28] at H
          have c28b0 : (t281 == 8) = true:=beq_iff_eq.mpr c28
          have c28b1 : (t281 != 8) = false:=bne_eq_false_iff_eq.mpr c28
          clear c28
          have H':=m_ H
          clear H
          go_wp2
          go_meet
          case rel=>exact ⟨_,((t281 == 8)),(by first|rfl|(simp;done)|(simp [*];done)),H',⟨by have:=HJ2.out;have:=HJ15.out;first|omega|exact Nat.le_refl _⟩,⟨by (with_reducible repeat first|apply b1_|apply b2_|apply b3_);exact BK280.out⟩,⟨by repeat (first|(with_reducible first|exact HI0.out|apply IsS85.alloc|apply IsS85.drewN|apply IsS85.drew|apply IsS85.set_1|refine IsS85.far ?_ NB0_280.out _)|exact HI0.out)⟩,⟨by repeat (first|(with_reducible first|exact HK.out|apply KeepBut.set_|apply keep_drewN|apply keep_drew|apply keep_alloc|refine keep_far ?_ GW280.out _)|exact HK.out)⟩,⟨by repeat (first|(with_reducible first|exact HB.out|apply l1_|apply l2_|apply l3_|refine l4_ ?_ (IsS85.ge HI0.out)|refine l4_ ?_ GE280.out)|exact HB.out)⟩⟩
         ·rw [if_neg c28] at H
          have c28b0 : (t281 == 8) = false:=beq_eq_false_iff_ne.mpr c28
          have c28b1 : (t281 != 8) = true:=bne_iff_ne.mpr c28
          by_cases c29 : t281 = 9
          ·rw [if_pos c29] at H
           have c29b0 : (t281 == 9) = true:=beq_iff_eq.mpr c29
           have c29b1 : (t281 != 9) = false:=bne_eq_false_iff_eq.mpr c29
           clear c29
           have H':=m_ H
           clear H
           go_wp2
           go_meet
           case rel=>exact ⟨_,((t281 == 9)),(by first|rfl|(simp;done)|(simp [*];done)),H',⟨by have:=HJ2.out;have:=HJ15.out;first|omega|exact Nat.le_refl _⟩,⟨by (with_reducible repeat first|apply b1_|apply b2_|apply b3_);exact BK280.out⟩,⟨by repeat (first|(with_reducible first|exact HI0.out|apply IsS85.alloc|apply IsS85.drewN|apply IsS85.drew|apply IsS85.set_1|refine IsS85.far ?_ NB0_280.out _)|exact HI0.out)⟩,⟨by repeat (first|(with_reducible first|exact HK.out|apply KeepBut.set_|apply keep_drewN|apply keep_drew|apply keep_alloc|refine keep_far ?_ GW280.out _)|exact HK.out)⟩,⟨by repeat (first|(with_reducible first|exact HB.out|apply l1_|apply l2_|apply l3_|refine l4_ ?_ (IsS85.ge HI0.out)|refine l4_ ?_ GE280.out)|exact HB.out)⟩⟩
          ·rw [if_neg c29] at H
           have c29b0 : (t281 == 9) = false:=beq_eq_false_iff_ne.mpr c29
           have c29b1 : (t281 != 9) = true:=bne_iff_ne.mpr c29
           have H':=m_ H
           clear H
           go_wp2
           go_meet
           case rel=>exact ⟨_,((t281 == 10)),(by first|rfl|(simp;done)|(simp [*];done)),H',⟨by have:=HJ2.out;have:=HJ15.out;first|omega|exact Nat.le_refl _⟩,⟨by (with_reducible repeat first|apply b1_|apply b2_|apply b3_);exact BK280.out⟩,⟨by repeat (first|(with_reducible first|exact HI0.out|apply IsS85.alloc|apply IsS85.drewN|apply IsS85.drew|apply IsS85.set_1|refine IsS85.far ?_ NB0_280.out _)|exact HI0.out)⟩,⟨by repeat (first|(with_reducible first|exact HK.out|apply KeepBut.set_|apply keep_drewN|apply keep_drew|apply keep_alloc|refine keep_far ?_ GW280.out _)|exact HK.out)⟩,⟨by repeat (first|(with_reducible first|exact HB.out|apply l1_|apply l2_|apply l3_|refine l4_ ?_ (IsS85.ge HI0.out)|refine l4_ ?_ GE280.out)|exact HB.out)⟩⟩
       case rest =>
        clear HC26
        try clear c1
        try clear c2
        try clear p2
        try clear c5
        try clear c6
        try clear c6b0
        try clear c6b1
        try clear p6
        try clear c7
        try clear c7b0
        try clear c7b1
        try clear c8
        try clear c8b0
        try clear c8b1
        try clear c9
        try clear c14
        try clear c17
        try clear c17b0
        try clear c17b1
        try clear c18
        try clear c18b0
        try clear c18b1
        try clear c19
        try clear c24
        try clear c27
        try clear c27b0
        try clear c27b1
        try clear c28
        try clear c28b0
        try clear c28b1
        try clear c29
        try clear c29b0
        try clear c29b1
        try clear hcz15_0
        try clear hcz15_1
        try clear hcz25_0
        try clear hcz25_1
        try clear hfz15_0
        try clear hfz15_1
        try clear hfz25_0
        try clear hfz25_1
        try clear p2
        try clear p6
        obtain ⟨kq,x28_25,rfl,HA,HJ25,BK280,HI0,HK,HB⟩:=hcut
        cases kq with
        | zero => exact absurd HA.out (by simp [spec_l71End.j2])
        | succ kj25 =>
         have H:=HA.out
         clear HA
         simp only [spec_l71End.j2] at H
         by_cases c30 : x28_25 = true
         ·subst c30
          have H1 : ((spec_l6Rd_pick.f kj25 s0_0 t282 8).bind fun bt291=>(some (9,wrap64 (10 + bt291.1),bt291.2))) = some (r1,r2,r3):=by rw [if_pos rfl] at H;exact H
          clear H
          have H:=H1
          clear H1
          replace H:=Option.bind_eq_some_iff.mp H
          obtain ⟨⟨t291,t292⟩,A310,H⟩:=H
          replace H : (some (9,wrap64 (10 + t291),t292)) = some (r1,r2,r3):=H
          have A31:=m_ A310
          clear A310
          simp only [Option.some.injEq,Prod.mk.injEq] at H
          obtain ⟨rfl,rfl,rfl⟩:=H
          go_wp2_with (first|((with_reducible refine gate_callee (f:=53) rfl ?_);refine goesL_ (some 34) rfl rfl Tryd.func53 (by kernel_rfl) rfl #[.pointer (some ⟨g,0,none⟩),.int .i64 8] rfl lens ?_;(with_reducible refine (spec_l6Rd_pick.calls kj25 g s0_0 t282 8 t291 t292 w0 _ ?side1 ?side2 A31.out).mono ?_);(case side1=>repeat (first|(with_reducible first|exact HI0.out|apply IsS85.alloc|apply IsS85.drewN|apply IsS85.drew|apply IsS85.set_1|refine IsS85.far ?_ NB0_280.out _)|exact HI0.out));(case side2=>repeat (first|(with_reducible first|exact HB.out|apply l1_|apply l2_|apply l3_|refine l4_ ?_ (IsS85.ge HI0.out)|refine l4_ ?_ GE280.out)|exact HB.out));rintro e w32 ⟨rfl,hi,hb,hk⟩;refine ⟨_,rfl,?_⟩;have n0_:=m_ (KeepBut.blk hk (g':=gb280) (o:=.cells #[.int .i64 0,.int .i64 0] 43 (0,0)) (puB BK280.out) NB280_0.out (by simp));have n1_:=m_ (KeepBut.trans (by repeat (first|(with_reducible first|exact HK.out|apply KeepBut.set_|apply keep_drewN|apply keep_drew|apply keep_alloc|refine keep_far ?_ GW280.out _)|exact HK.out)) hk (.inl rfl));have n2_:=m_ (hb);have n3_:=m_ (hi);revert n0_ n1_ n2_ n3_;clear BK280 HK HB HI0;intro BK280 HK HB HI0;(try clear hb);(try clear hb2);(try clear hk);(try clear hi);have hnb33:=NB280_0.out;have hnc33:=NB0_280.out;have hcz34_0 : w32.cell? ⟨gb280,0,none⟩ = some (.int .i64 0):=(c_ BK280.out 0).trans rfl;have hcz34_1 : w32.cell? ⟨gb280,1,none⟩ = some (.int .i64 0):=(c_ BK280.out 1).trans rfl;have hfz34_0:=f_ BK280.out 0;have hfz34_1:=f_ BK280.out 1))
          refine bodyPost_ret (results_cell_row rfl _ _ gb280 43 #[.int .i64 9,.int .i64 (wrap64 (10 + t291))] (0,0) _ rfl (by (with_reducible repeat first|apply b1_|apply b2_|apply b3_);refine blk_put (cs:=#[.int .i64 9,.int .i64 0]) ?_ 1 _ rfl;(with_reducible repeat first|apply b1_|apply b2_|apply b3_);refine blk_put (cs:=#[.int .i64 0,.int .i64 0]) ?_ 0 _ rfl;(with_reducible repeat first|apply b1_|apply b2_|apply b3_);exact BK280.out) Tryd.underlying43 rfl (by kernel_rfl)) rfl ?_
          exact ⟨eqs,by repeat (first|(with_reducible first|exact HI0.out|apply IsS85.alloc|apply IsS85.drewN|apply IsS85.drew|apply IsS85.set_1|refine IsS85.far ?_ NB0_280.out _)|exact HI0.out),by repeat (first|(with_reducible first|exact HB.out|apply l1_|apply l2_|apply l3_|refine l4_ ?_ (IsS85.ge HI0.out)|refine l4_ ?_ GE280.out)|exact HB.out),by repeat (first|(with_reducible first|exact HK.out|apply KeepBut.set_|apply keep_drewN|apply keep_drew|apply keep_alloc|refine keep_far ?_ GW280.out _)|exact HK.out)⟩
         ·replace c30:=Bool.eq_false_iff.mpr c30
          subst c30
          have H1 : ((spec_l6Rd_pick.f kj25 s0_0 t282 12).bind fun bt293=>((spec_l6Rd_pick.f kj25 s0_0 bt293.2 20).bind fun bt295=>(some (bt293.1,bt295.1,bt295.2)))) = some (r1,r2,r3):=by rw [if_neg (show ¬ (false = true) by decide)] at H;exact H
          clear H
          have H:=H1
          clear H1
          replace H:=Option.bind_eq_some_iff.mp H
          obtain ⟨⟨t293,t294⟩,A350,H⟩:=H
          replace H : ((spec_l6Rd_pick.f kj25 s0_0 t294 20).bind fun bt295=>(some (t293,bt295.1,bt295.2))) = some (r1,r2,r3):=H
          have A35:=m_ A350
          clear A350
          replace H:=Option.bind_eq_some_iff.mp H
          obtain ⟨⟨t295,t296⟩,A360,H⟩:=H
          replace H : (some (t293,t295,t296)) = some (r1,r2,r3):=H
          have A36:=m_ A360
          clear A360
          simp only [Option.some.injEq,Prod.mk.injEq] at H
          obtain ⟨rfl,rfl,rfl⟩:=H
          go_wp2_with (first|((with_reducible refine gate_callee (f:=53) rfl ?_);refine goesL_ (some 38) rfl rfl Tryd.func53 (by kernel_rfl) rfl #[.pointer (some ⟨g,0,none⟩),.int .i64 12] rfl lens ?_;(with_reducible refine (spec_l6Rd_pick.calls kj25 g s0_0 t282 12 t293 t294 w0 _ ?side1 ?side2 A35.out).mono ?_);(case side1=>repeat (first|(with_reducible first|exact HI0.out|apply IsS85.alloc|apply IsS85.drewN|apply IsS85.drew|apply IsS85.set_1|refine IsS85.far ?_ NB0_280.out _)|exact HI0.out));(case side2=>repeat (first|(with_reducible first|exact HB.out|apply l1_|apply l2_|apply l3_|refine l4_ ?_ (IsS85.ge HI0.out)|refine l4_ ?_ GE280.out)|exact HB.out));rintro e w37 ⟨rfl,hi,hb,hk⟩;refine ⟨_,rfl,?_⟩;have n0_:=m_ (KeepBut.blk hk (g':=gb280) (o:=.cells #[.int .i64 0,.int .i64 0] 43 (0,0)) (puB BK280.out) NB280_0.out (by simp));have n1_:=m_ (KeepBut.trans (by repeat (first|(with_reducible first|exact HK.out|apply KeepBut.set_|apply keep_drewN|apply keep_drew|apply keep_alloc|refine keep_far ?_ GW280.out _)|exact HK.out)) hk (.inl rfl));have n2_:=m_ (hb);have n3_:=m_ (hi);revert n0_ n1_ n2_ n3_;clear BK280 HK HB HI0;intro BK280 HK HB HI0;(try clear hb);(try clear hb2);(try clear hk);(try clear hi))|((with_reducible refine gate_callee (f:=53) rfl ?_);refine goesL_ (some 40) rfl rfl Tryd.func53 (by kernel_rfl) rfl #[.pointer (some ⟨g,0,none⟩),.int .i64 20] rfl lens ?_;(with_reducible refine (spec_l6Rd_pick.calls kj25 g s0_0 t294 20 t295 t296 w0 _ ?side1 ?side2 A36.out).mono ?_);(case side1=>repeat (first|(with_reducible first|exact HI0.out|apply IsS85.alloc|apply IsS85.drewN|apply IsS85.drew|apply IsS85.set_1|refine IsS85.far ?_ NB0_280.out _)|exact HI0.out));(case side2=>repeat (first|(with_reducible first|exact HB.out|apply l1_|apply l2_|apply l3_|refine l4_ ?_ (IsS85.ge HI0.out)|refine l4_ ?_ GE280.out)|exact HB.out));rintro e w38 ⟨rfl,hi,hb,hk⟩;refine ⟨_,rfl,?_⟩;have n0_:=m_ (KeepBut.blk hk (g':=gb280) (o:=.cells #[.int .i64 0,.int .i64 0] 43 (0,0)) (puB BK280.out) NB280_0.out (by simp));have n1_:=m_ (KeepBut.trans (by repeat (first|(with_reducible first|exact HK.out|apply KeepBut.set_|apply keep_drewN|apply keep_drew|apply keep_alloc|refine keep_far ?_ GW280.out _)|exact HK.out)) hk (.inl rfl));have n2_:=m_ (hb);have n3_:=m_ (hi);revert n0_ n1_ n2_ n3_;clear BK280 HK HB HI0;intro BK280 HK HB HI0;(try clear hb);(try clear hb2);(try clear hk);(try clear hi);have hnb39:=NB280_0.out;have hnc39:=NB0_280.out;have hcz40_0 : w38.cell? ⟨gb280,0,none⟩ = some (.int .i64 0):=(c_ BK280.out 0).trans rfl;have hcz40_1 : w38.cell? ⟨gb280,1,none⟩ = some (.int .i64 0):=(c_ BK280.out 1).trans rfl;have hfz40_0:=f_ BK280.out 0;have hfz40_1:=f_ BK280.out 1))
          refine bodyPost_ret (results_cell_row rfl _ _ gb280 43 #[.int .i64 t293,.int .i64 t295] (0,0) _ rfl (by (with_reducible repeat first|apply b1_|apply b2_|apply b3_);refine blk_put (cs:=#[.int .i64 t293,.int .i64 0]) ?_ 1 _ rfl;(with_reducible repeat first|apply b1_|apply b2_|apply b3_);refine blk_put (cs:=#[.int .i64 0,.int .i64 0]) ?_ 0 _ rfl;(with_reducible repeat first|apply b1_|apply b2_|apply b3_);exact BK280.out) Tryd.underlying43 rfl (by kernel_rfl)) rfl ?_
          exact ⟨eqs,by repeat (first|(with_reducible first|exact HI0.out|apply IsS85.alloc|apply IsS85.drewN|apply IsS85.drew|apply IsS85.set_1|refine IsS85.far ?_ NB0_280.out _)|exact HI0.out),by repeat (first|(with_reducible first|exact HB.out|apply l1_|apply l2_|apply l3_|refine l4_ ?_ (IsS85.ge HI0.out)|refine l4_ ?_ GE280.out)|exact HB.out),by repeat (first|(with_reducible first|exact HK.out|apply KeepBut.set_|apply keep_drewN|apply keep_drew|apply keep_alloc|refine keep_far ?_ GW280.out _)|exact HK.out)⟩

end Go.Proofs.YtkcjmmhleepjeaaDoor.A
