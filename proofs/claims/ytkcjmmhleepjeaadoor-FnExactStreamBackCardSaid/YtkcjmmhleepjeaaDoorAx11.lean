-- Printed by myprint.py (wip/tools) out of the translation. Not trusted: Lean checks it.
import Derived.Test.YtkcjmmhleepjeaaDoorAx0
namespace Go.Proofs.YtkcjmmhleepjeaaDoor.A
open Go.RowKit Go.Proofs.YtkcjmmhleepjeaaDoorW.PrintWords Go.Proofs.YtkcjmmhleepjeaaDoorW.PrintLast Go.Proofs.YtkcjmmhleepjeaaDoorW.PrintMore
attribute [local go_sem] max2_int min2_int max_two min_two max_three min_three max_four min_four   -- for this text's walks alone
set_option linter.unusedVariables false
set_option linter.unusedSimpArgs false

/-! ### spec_l11Out: function 34 -/
def spec_l11Out.l0 : Nat → ByteArray → Int → ByteArray → List (S41) → Option (ByteArray)
 | 0, _, _, _, _ => none
 | k + 1, x3, x4, x352000, x352001 => if x4 < (x352001.length : Int) then (if 0 ≤ x4 then (if x3.size + ((rd_T41 x352001 x4).f1).size ≤ 9223372036854775807 then (spec_l11Out.l0 k (x3 ++ ((rd_T41 x352001 x4).f1)) (wrap64 (x4 + 1)) x352000 x352001) else (none)) else (none)) else (some x3)
def spec_l11Out.f (k : Nat) (a0_0 : ByteArray) (l0_1 : List (S41)) : Option (ByteArray) := spec_l11Out.l0 k (⟨#[]⟩ : ByteArray) 0 a0_0 l0_1
theorem spec_l11Out.mono_l : ∀ k, (∀ y0 y1 y2 y3, LeO (spec_l11Out.l0 k y0 y1 y2 y3) (spec_l11Out.l0 (k + 1) y0 y1 y2 y3))
 | 0 => fun _ _ _ _ r h => by simp [spec_l11Out.l0] at h
 | k + 1 => by
  have ih0:=spec_l11Out.mono_l k
  ·intro y0 y1 y2 y3
   unfold spec_l11Out.l0
   repeat' first
   | (with_reducible exact ih0 _ _ _ _)
   | (with_reducible exact LeO.refl _)
   | (with_reducible exact LeO.none _)
   | (with_reducible refine LeO.ite ?_ ?_)
   | (with_reducible refine LeO.bind ?_ (fun _ => ?_))
   | exact ih0 _ _ _ _
   | exact LeO.none _
   | refine LeO.ite ?_ ?_
   | refine LeO.bind ?_ (fun _ => ?_)
theorem spec_l11Out.mono : ∀ a0 a1 k, LeO (spec_l11Out.f k a0 a1) (spec_l11Out.f (k + 1) a0 a1) := by
 intro a0 a1 k
 have ih0:=spec_l11Out.mono_l k
 unfold spec_l11Out.f
 repeat' first
   | (with_reducible exact ih0 _ _ _ _)
   | (with_reducible exact LeO.refl _)
   | (with_reducible exact LeO.none _)
   | (with_reducible refine LeO.ite ?_ ?_)
   | (with_reducible refine LeO.bind ?_ (fun _ => ?_))
   | exact ih0 _ _ _ _
   | exact LeO.none _
   | refine LeO.ite ?_ ?_
   | refine LeO.bind ?_ (fun _ => ?_)
set_option maxHeartbeats 8000000 in
set_option maxRecDepth 100000 in
theorem spec_l11Out.calls (k : Nat) (a0_0 : ByteArray) (A0_1 : Option Addr) (c0_1 : Nat) (l0_1 : List (S41)) (r : ByteArray) (w : World) (hr0_1 : Kd.C k41 w A0_1 l0_1.length l0_1) (hc0_1 : l0_1.length ≤ c0_1) (h : spec_l11Out.f k a0_0 l0_1 = some r) :
  Calls Tryd.prog 34 #[.agg #[.string a0_0,.slice A0_1 l0_1.length c0_1]] w fun e w'=>e = .returned (.string r) ∧ Below w.heap.size w w':=by
 have hu29:=Tryd.underlying29
 have HR0_1:=m_ hr0_1
 have HC0_1:=m_ hc0_1
 clear hr0_1 hc0_1
 have HB:=m_ (Below.refl w.heap.size w)
 have H : (spec_l11Out.l0 k (⟨#[]⟩ : ByteArray) 0 a0_0 l0_1) = some r:=h
 clear h
 have H':=m_ H
 clear H
 go_enter Tryd.func34,Tryd.ntmps34
 go_wp2_with (first|((with_reducible refine gate_dst (N:=1) rfl ?_);refine box_event ?hg (N:=1) ?hd (cs:=#[.string a0_0,.slice A0_1 l0_1.length c0_1]) (t:=29) ?hr ?_;(case hd=>rfl);(case hg=>rfl);(case hr=>first|(go_simp;done)|(go_simp;rfl));intro gb351 hg w2 hbox hb;have n0_:=m_ (l5_ (by repeat (first|(with_reducible first|exact HB.out|apply l1_|apply l2_|apply l3_)|exact HB.out)) hb);have n1_:=m_ (hbox);have n2_:=m_ ((by rw [hg];exact (l6_ (by repeat (first|(with_reducible first|exact HB.out|apply l1_|apply l2_|apply l3_)|exact HB.out))) : w.heap.size ≤ gb351));have n3_:=n2_;clear HB;have HB:=n0_;have BK351:=n1_;have GW351:=n2_;have GE351:=n3_;clear n0_ n1_ n2_ n3_;clear hb hbox hg))
 go_loopg [3,4] k (fun kq v3 v4 w'=>∃ (x3_1 : ByteArray) (x4_1 : Int),v3 = .string x3_1 ∧ v4 = .int .i64 x4_1 ∧ Aside0 (spec_l11Out.l0 kq x3_1 x4_1 a0_0 l0_1 = some r) ∧ Aside0 (kq ≤ k) ∧ Aside0 (w'.heap[gb351]? = some (.cells #[.string a0_0,(.slice A0_1 l0_1.length c0_1)] 29 (0,0))) ∧ Aside0 (Below w.heap.size w w'))
 case atStart=>exact ⟨((⟨#[]⟩ : ByteArray)),(0),(by first|rfl|(simp;done)|(simp [*];done)),(by first|rfl|(simp;done)|(simp [*];done)),H',⟨Nat.le_refl _⟩,⟨by (with_reducible repeat first|apply b1_|apply b2_|apply b3_);exact BK351.out⟩,⟨by repeat (first|(with_reducible first|exact HB.out|apply l1_|apply l2_|apply l3_|refine l4_ ?_ GE351.out)|exact HB.out)⟩⟩
 case round =>
  clear H'
  try clear p2
  obtain ⟨x3_1,x4_1,rfl,rfl,HA,HK1,BK351,HB⟩:=hrel
  cases gk with
  | zero => exact absurd HA.out (by simp [spec_l11Out.l0])
  | succ k1 =>
   have H:=HA.out
   clear HA
   simp only [spec_l11Out.l0] at H
   by_cases c3 : x4_1 < (l0_1.length : Int)
   ·rw [if_pos c3] at H
    have c3b0 : decide (x4_1 < (l0_1.length : Int)) = true:=decide_eq_true c3
    clear c3
    by_cases c4 : 0 ≤ x4_1
    ·rw [if_pos c4] at H
     have c4b0 : decide (0 ≤ x4_1) = true:=decide_eq_true c4
     clear c4
     by_cases c5 : x3_1.size + ((rd_T41 l0_1 x4_1).f1).size ≤ 9223372036854775807
     ·rw [if_pos c5] at H
      have c5b0:=eq_true c5
      have c5b1 : decide (x3_1.size + ((rd_T41 l0_1 x4_1).f1).size ≤ 9223372036854775807) = true:=decide_eq_true c5
      try have c5b2 : (9223372036854775807 < x3_1.size + ((rd_T41 l0_1 x4_1).f1).size) = False:=eq_false (Nat.not_lt.2 c5)
      have H':=m_ H
      clear H
      have hcz6_0 : wr.cell? ⟨gb351,0,none⟩ = some (.string a0_0):=(c_ BK351.out 0).trans rfl
      have hcz6_1 : wr.cell? ⟨gb351,1,none⟩ = some (.slice A0_1 l0_1.length c0_1):=(c_ BK351.out 1).trans rfl
      have p352 : 0 ≤ (x4_1 : Int):=of_decide_eq_true (by first|(with_reducible assumption)|assumption)
      have q352 : x4_1 < (l0_1.length : Int):=of_decide_eq_true (by first|(with_reducible assumption)|assumption)
      obtain ⟨ad352,e352,hx352_0,hx352_1⟩:=at_T41 HR0_1.out x4_1 p352 q352
      cases e352
      replace hx352_0:=(HB.out.cell (World.block_lt_of_cell? w _ hx352_0)).trans hx352_0
      replace hx352_1:=(HB.out.cell (World.block_lt_of_cell? w _ hx352_1)).trans hx352_1
      replace p352:=eq_true p352
      replace q352:=eq_true q352
      go_wp2
      go_roundg k1
      case measure=>have:=HK1.out;omega
      case rel=>exact ⟨(x3_1 ++ ((rd_T41 l0_1 x4_1).f1)),(wrap64 (x4_1 + 1)),(by first|rfl|(simp;done)|(simp [*];done)),(by first|rfl|(simp;done)|(simp [*];done)),H',⟨by have:=HK1.out;omega⟩,⟨by (with_reducible repeat first|apply b1_|apply b2_|apply b3_);exact BK351.out⟩,⟨by repeat (first|(with_reducible first|exact HB.out|apply l1_|apply l2_|apply l3_|refine l4_ ?_ GE351.out)|exact HB.out)⟩⟩
     ·rw [if_neg c5] at H
      exact absurd H (by simp)
    ·rw [if_neg c4] at H
     exact absurd H (by simp)
   ·rw [if_neg c3] at H
    have c3b0 : decide (x4_1 < (l0_1.length : Int)) = false:=decide_eq_false c3
    clear c3
    obtain rfl:=Option.some.inj H
    have hcz7_0 : wr.cell? ⟨gb351,0,none⟩ = some (.string a0_0):=(c_ BK351.out 0).trans rfl
    have hcz7_1 : wr.cell? ⟨gb351,1,none⟩ = some (.slice A0_1 l0_1.length c0_1):=(c_ BK351.out 1).trans rfl
    go_wp2
    go_ret
    exact ⟨by first|rfl|(simp [e1_,e2_] <;> rfl)|(simp [*,e1_,e2_] <;> rfl)|(simp [e1_,e2_,pk_empty1,pk_empty2];done)|(simp [*,e1_,e2_,pk_empty1,pk_empty2];done),by repeat (first|(with_reducible first|exact HB.out|apply l1_|apply l2_|apply l3_|refine l4_ ?_ GE351.out)|exact HB.out)⟩

/-! ### impl_Stream_out: function 35 -/
/-- The library's builder at this translation. -/
def impl_Stream_out.ren : Go.Shelf.Ren := ⟨fun | 166 => 49 | 240 => 63 | 276 => 77 | n => n, fun | 0 => 0 | 3 => 3 | 4 => 4 | 9 => 9 | 20 => 20 | 37 => 36 | 70 => 70 | 72 => 72 | 75 => 74 | 164 => 106 | 5 => 5 | 80 => 55 | n => n, fun | n => n⟩
theorem impl_Stream_out.lays : Go.Proofs.Lays.n166 Tryd.prog impl_Stream_out.ren := {
 mixed:=by kernel_rfl,
 f166:=Tryd.func49.trans (congrArg some (by kernel_rfl)),
 f240:=Tryd.func63.trans (congrArg some (by kernel_rfl)),
 f276:=Tryd.func77.trans (congrArg some (by kernel_rfl)),
 t0:=Tryd.underlying0,
 a0:=Tryd.isAgg0,
 z0:=Tryd.sizeOf0,
 v0:=Tryd.zeroValue0,
 t3:=Tryd.underlying3,
 a3:=Tryd.isAgg3,
 z3:=Tryd.sizeOf3,
 v3:=Tryd.zeroValue3,
 t4:=Tryd.underlying4,
 a4:=Tryd.isAgg4,
 z4:=Tryd.sizeOf4,
 v4:=Tryd.zeroValue4,
 t9:=Tryd.underlying9,
 a9:=Tryd.isAgg9,
 z9:=Tryd.sizeOf9,
 v9:=Tryd.zeroValue9,
 t20:=Tryd.underlying20,
 a20:=Tryd.isAgg20,
 z20:=Tryd.sizeOf20,
 v20:=Tryd.zeroValue20,
 t37:=Tryd.underlying36,
 a37:=Tryd.isAgg36,
 z37:=Tryd.sizeOf36,
 v37:=Tryd.zeroValue36,
 t70:=Tryd.underlying70,
 a70:=Tryd.isAgg70,
 z70:=Tryd.sizeOf70,
 v70:=Tryd.zeroValue70,
 t72:=Tryd.underlying72,
 a72:=Tryd.isAgg72,
 z72:=Tryd.sizeOf72,
 v72:=Tryd.zeroValue72,
 t75:=Tryd.underlying74,
 a75:=Tryd.isAgg74,
 z75:=Tryd.sizeOf74,
 v75:=Tryd.zeroValue74,
 t164:=Tryd.underlying106,
 a164:=Tryd.isAgg106,
 z164:=Tryd.sizeOf106,
 v164:=Tryd.zeroValue106 }
theorem impl_Stream_out.extra : Go.Proofs.Builder.Extra Tryd.prog impl_Stream_out.ren := {
 sizeBuilder:=by kernel_rfl,
 liesBuilder:=by kernel_rfl,
 t5:=Tryd.underlying5,
 a5:=Tryd.isAgg5,
 z5:=Tryd.sizeOf5,
 v5:=Tryd.zeroValue5,
 infoByte:=by kernel_rfl,
 cellsByte:=by kernel_rfl,
 sizeByte:=by kernel_rfl,
 neB5:=by decide }
theorem impl_Stream_out.ws (b : Nat) (l : List UInt8) (s : ByteArray) (w : World) (h : Lib.IsBuilder 72 5 b b (Lib.byteCells l) w) (hlen : l.length + s.size ≤ 140737488355328) (hBw : b ≤ w.heap.size) :
  Calls Tryd.prog 49 #[.pointer (some ⟨b,0,none⟩),.string s] w fun e w'=>e = .returned (.tuple #[.int .i64 s.size,.nilIface]) ∧ Lib.IsBuilder 72 5 b b (Lib.byteCells (l ++ s.data.toList)) w' ∧ Below b w w':=by
 refine (Go.Proofs.Any.Builder_WriteString impl_Stream_out.lays impl_Stream_out.extra b b (Lib.byteCells l) s w h (by rw [Lib.byteCells_length];exact hlen) hBw).mono ?_
 rintro e w' ⟨rfl,h1,h2⟩
 refine ⟨rfl,.inr ?_,h2⟩
 have e : Lib.byteCells (l ++ s.data.toList) = Lib.byteCells l ++ Lib.strCells s:=by
  simp [Lib.byteCells,Lib.strCells]
 rw [e];exact h1
theorem impl_Stream_out.keep {T e : TypeId} {B b : Nat} {bs : List Value} {w w' : World} (h : Lib.IsBuilder T e B b bs w) (hk : ∀ k, k < w.heap.size → w'.heap[k]? = w.heap[k]?) : Lib.IsBuilder T e B b bs w' := by
 have one : ∀ p,Lib.BuilderAt T e B b p bs w → Lib.BuilderAt T e B b p bs w':=by
  rintro p ⟨hB,v,hb,hown,hne⟩
  refine ⟨hB,v,(hk b (Array.getElem?_eq_some_iff.1 hb).1).trans hb,⟨hown.1,?_⟩,hne⟩
  rcases hown.2 with h0|⟨g,cap,cur,h1,h2,h3,h4⟩
  ·exact .inl h0
  ·exact .inr ⟨g,cap,cur,h1,h2,(hk g (Array.getElem?_eq_some_iff.1 h3).1).trans h3,h4⟩
 exact h.imp (one _) (one _)
theorem impl_Stream_out.fresh {b : Nat} {w : World} (h : w.heap[b]? = some (.cells #[.pointer none, .slice none 0 0] 72 (0, 0))) : Lib.IsBuilder 72 5 b b (Lib.byteCells []) w :=
 .inl ⟨Nat.le_refl _,_,h,⟨by simp [Lib.byteCells],.inl ⟨rfl,rfl⟩⟩,by simp [Value.ownBlock]⟩
theorem impl_Stream_out.lt {T e : TypeId} {B b : Nat} {bs : List Value} {w : World} (h : Lib.IsBuilder T e B b bs w) : b < w.heap.size := by
 rcases h with ⟨_,_,h,_⟩|⟨_,_,h,_⟩ <;> exact (Array.getElem?_eq_some_iff.1 h).1
/-- As what the parts went on, one behind the other. -/
def impl_Stream_out.cat (l : List (S41)) : List UInt8 := l.flatMap fun x => x.f1.data.toList
theorem impl_Stream_out.cat_step {l : List (S41)} {x : Nat} (hx : x < l.length) : impl_Stream_out.cat (l.take (x + 1)) = impl_Stream_out.cat (l.take x) ++ (rd_T41 l (x : Int)).f1.data.toList := by
 have e : rd_T41 l (x : Int) = l[x]:=by
  unfold rd_T41
  rw [List.getD_eq_getElem?_getD,show ((x : Int)).toNat = x from rfl,List.getElem?_eq_getElem hx];rfl
 rw [e,List.take_succ_eq_append_getElem hx]
 unfold impl_Stream_out.cat
 rw [List.flatMap_append]
 congr 1
 exact List.append_nil _
theorem impl_Stream_out.cat_le (l : List (S41)) (x : Nat) : (impl_Stream_out.cat (l.take x)).length ≤ (impl_Stream_out.cat l).length := by
 conv=>rhs;rw [← List.take_append_drop x l]
 unfold impl_Stream_out.cat
 rw [List.flatMap_append,List.length_append]
 omega
def impl_Stream_out.f (a0_0 : ByteArray) (l0_1 : List (S41)) : Option (ByteArray) := if (impl_Stream_out.cat l0_1).length ≤ 140737488355328 then some ⟨(impl_Stream_out.cat l0_1).toArray⟩ else none
set_option maxHeartbeats 4000000 in
set_option maxRecDepth 100000 in
theorem impl_Stream_out.calls (a0_0 : ByteArray) (A0_1 : Option Addr) (c0_1 : Nat) (l0_1 : List (S41)) (r : ByteArray) (w : World) (hr0_1 : Kd.C k41 w A0_1 l0_1.length l0_1) (hc0_1 : l0_1.length ≤ c0_1) (h : impl_Stream_out.f a0_0 l0_1 = some r) :
  Calls Tryd.prog 35 #[.agg #[.string a0_0,.slice A0_1 l0_1.length c0_1]] w fun e w'=>e = .returned (.string r) ∧ Below w.heap.size w w':=by
 have hu0:=Tryd.underlying29
 have hu1:=Tryd.underlying41
 have hu2:=Tryd.underlying72
 unfold impl_Stream_out.f at h
 by_cases hs : (impl_Stream_out.cat l0_1).length ≤ 140737488355328
 ·rw [if_pos hs] at h
  obtain rfl:=Option.some.inj h
  have HS:=m_ hs
  have HL:=m_ (Kd.C_max hr0_1)
  have HR:=m_ hr0_1
  have HC:=m_ hc0_1
  clear h hs hr0_1 hc0_1
  have HB:=m_ (Below.refl w.heap.size w)
  go_enter Tryd.func35,Tryd.ntmps35
  go_wp2_with (first
   | ((with_reducible refine gate_dst (N := 1) rfl ?_); refine box_event ?hg (N := 1) ?hd (cs := #[.string a0_0, .slice A0_1 l0_1.length c0_1]) (t := 29) ?hr ?_; (case hd => rfl); (case hg => rfl); (case hr => first | (go_simp; done) | (go_simp; rfl)); intro g0 hg w1 hbox hb; have HB1 := Aside0.mk (below_step HB.out hb); have BK0 := Aside0.mk hbox; have GE0 := Aside0.mk (by rw [hg]; exact Nat.le_refl _ : w.heap.size ≤ g0); clear HB; have HB := HB1; clear HB1 hb hbox hg; have hcz0 : w1.cell? ⟨g0, 0, none⟩ = some (.string a0_0) := (blk_cell BK0.out 0).trans rfl; have hcz1 : w1.cell? ⟨g0, 1, none⟩ = some (.slice A0_1 l0_1.length c0_1) := (blk_cell BK0.out 1).trans rfl)
   | ((with_reducible refine gate_dst (N := 3) rfl ?_); refine box_event ?hg (N := 3) ?hd (cs := #[.pointer none, .slice none 0 0]) (t := 72) ?hr ?_; (case hd => rfl); (case hg => rfl); (case hr => first | (go_simp; done) | (go_simp; rfl)); intro g1 hg w2 hbox hb; have HB1 := Aside0.mk (below_step HB.out hb); have BK1 := Aside0.mk (blk_below BK0.out hb); have BB := Aside0.mk (impl_Stream_out.fresh hbox); have GE1 := Aside0.mk (by rw [hg]; exact HB.out.size : w.heap.size ≤ g1); clear HB BK0; have HB := HB1; have BK0 := BK1; clear HB1 BK1 hb hbox hg hcz0 hcz1; have hcz0 : w2.cell? ⟨g0, 0, none⟩ = some (.string a0_0) := (blk_cell BK0.out 0).trans rfl; have hcz1 : w2.cell? ⟨g0, 1, none⟩ = some (.slice A0_1 l0_1.length c0_1) := (blk_cell BK0.out 1).trans rfl))
  go_loopg [9] l0_1.length (fun kq v9 w'=>∃ x : Nat,v9 = .int .i64 x ∧ Aside0 (x ≤ l0_1.length ∧ l0_1.length - x ≤ kq) ∧ Aside0 (Below w.heap.size w w') ∧ Aside0 (Lib.IsBuilder 72 5 g1 g1 (Lib.byteCells (impl_Stream_out.cat (l0_1.take x))) w'))
  case atStart=>exact ⟨0,rfl,⟨by omega⟩,HB,BB⟩
  case round =>
   clear HB BB BK0
   try clear hcz0 hcz1
   obtain ⟨x,rfl,HX,HB,BB⟩:=hrel
   by_cases hlt : x < l0_1.length
   ·have c1 : decide ((x : Int) < (l0_1.length : Int)) = true:=decide_eq_true (Int.ofNat_lt.2 hlt)
    have p1 : 0 ≤ (x : Int):=Int.natCast_nonneg _
    have q1 : (x : Int) < (l0_1.length : Int):=Int.ofNat_lt.2 hlt
    have HT:=m_ hlt
    have HN:=m_ (show (impl_Stream_out.cat (l0_1.take x)).length + (rd_T41 l0_1 (x : Int)).f1.size ≤ 140737488355328 by
     have h1:=impl_Stream_out.cat_step hlt
     have h2:=impl_Stream_out.cat_le l0_1 (x + 1)
     have h3:=HS.out
     rw [h1,List.length_append,Array.length_toList] at h2
     exact Nat.le_trans h2 h3)
    clear hlt
    obtain ⟨ad1,e1,hx0,hx1⟩:=at_T41 HR.out (x : Int) p1 q1
    cases e1
    replace hx0:=(HB.out.cell (World.block_lt_of_cell? w _ hx0)).trans hx0
    replace hx1:=(HB.out.cell (World.block_lt_of_cell? w _ hx1)).trans hx1
    replace hx0 : wr.cell? (ad1.add (x * 2)) = some (.int .i64 (rd_T41 l0_1 (x : Int)).f0):=hx0
    replace hx1 : wr.cell? ⟨(ad1.add (x * 2)).block,(ad1.add (x * 2)).off + 1,none⟩ = some (.string (rd_T41 l0_1 (x : Int)).f1):=hx1
    replace p1:=eq_true p1
    replace q1:=eq_true q1
    go_wp2_with (first
     | ((with_reducible refine gate_dst (N := 5) rfl ?_); refine box_event ?hg (N := 5) ?hd (cs := #[.int .i64 0, .string (⟨#[]⟩ : ByteArray)]) (t := 41) ?hr ?_; (case hd => rfl); (case hg => rfl); (case hr => first | (go_simp; done) | (go_simp; rfl)); intro g5 hg w5 hbox hb; have BK5 := Aside0.mk hbox; have HB5 := Aside0.mk hb; have GE5 := Aside0.mk (Nat.le_of_eq hg.symm : wr.heap.size ≤ g5); clear hb hbox hg; have hcz0 : w5.cell? ⟨g5, 0, none⟩ = some (.int .i64 0) := (blk_cell BK5.out 0).trans rfl; have hcz1 : w5.cell? ⟨g5, 1, none⟩ = some (.string (⟨#[]⟩ : ByteArray)) := (blk_cell BK5.out 1).trans rfl; have hfz0 := blk_frozen BK5.out 0; have hfz1 := blk_frozen BK5.out 1)
     | (go_at_call 49; refine (impl_Stream_out.ws g1 (impl_Stream_out.cat (l0_1.take x)) (rd_T41 l0_1 (x : Int)).f1 _ (impl_Stream_out.keep BB.out (below_set (below_set HB5.out GE5.out) GE5.out).block) HN.out (Nat.le_trans (Nat.le_of_lt (impl_Stream_out.lt BB.out)) (below_set (below_set HB5.out GE5.out) GE5.out).size)).mono ?_; rintro e w' ⟨rfl, hq, hb'⟩; have HB2 := Aside0.mk ((below_step HB.out (below_set (j := 1) (v := .string (rd_T41 l0_1 (x : Int)).f1) (below_set (j := 0) (v := .int .i64 (rd_T41 l0_1 (x : Int)).f0) HB5.out GE5.out) GE5.out)).trans (hb'.mono GE1.out)); have BB2 := Aside0.mk hq; clear hq hb'))
    go_roundg (l0_1.length - (x + 1))
    case measure=>have:=HX.out;have:=HT.out;omega
    case rel=>exact ⟨x + 1,congrArg (Value.int .i64) ((IntWalk.wrap64_in _ ⟨by omega,by have:=HT.out;have:=HL.out;omega⟩).trans rfl),⟨by have:=HT.out;omega⟩,HB2,⟨by rw [impl_Stream_out.cat_step HT.out];exact BB2.out⟩⟩
   ·have c1 : decide ((x : Int) < (l0_1.length : Int)) = false:=decide_eq_false (fun h=>hlt (Int.ofNat_lt.1 h))
    have c2 : ¬ (x : Int) < (l0_1.length : Int):=fun h=>hlt (Int.ofNat_lt.1 h)
    have ex : l0_1.take x = l0_1:=List.take_of_length_le (Nat.le_of_not_lt hlt)
    rw [ex] at BB
    go_wp2_with (go_at_call 50;refine (Go.Proofs.Tryd.Builder_String_any g1 g1 (impl_Stream_out.cat l0_1) _ BB.out (Nat.le_of_lt (impl_Stream_out.lt BB.out))).mono ?_;rintro e w' ⟨rfl,hb'⟩)
    go_ret
    exact ⟨rfl,HB.out.trans (hb'.mono GE1.out)⟩
 ·rw [if_neg hs] at h;cases h

end Go.Proofs.YtkcjmmhleepjeaaDoor.A
