-- Printed by myprint.py (wip/tools) out of the translation. Not trusted: Lean checks it.
import Derived.Test.YtkcjmmhleepjeaaGreatDoorAx0
namespace Go.Proofs.YtkcjmmhleepjeaaGreatDoor.A
open Go.RowKit Go.Proofs.YtkcjmmhleepjeaaGreatDoorW.PrintWords Go.Proofs.YtkcjmmhleepjeaaGreatDoorW.PrintLast Go.Proofs.YtkcjmmhleepjeaaGreatDoorW.PrintMore
attribute [local go_sem] max2_int min2_int max_two min_two max_three min_three max_four min_four
set_option linter.unusedVariables false
set_option linter.unusedSimpArgs false

/-! ### impl_Stream_out: function 31 -/
/-- The library's builder at this translation. -/
def impl_Stream_out.ren : Go.Shelf.Ren := ⟨fun | 166 => 48 | 240 => 63 | 276 => 74 | n => n, fun | 0 => 0 | 3 => 3 | 4 => 4 | 9 => 9 | 20 => 20 | 37 => 22 | 70 => 65 | 72 => 67 | 75 => 69 | 164 => 95 | 5 => 5 | 80 => 52 | n => n, fun | n => n⟩
theorem impl_Stream_out.lays : Go.Proofs.Lays.n166 Tryz.prog impl_Stream_out.ren := {
 mixed:=by kernel_rfl,
 f166:=Tryz.func48.trans (congrArg some (by kernel_rfl)),
 f240:=Tryz.func63.trans (congrArg some (by kernel_rfl)),
 f276:=Tryz.func74.trans (congrArg some (by kernel_rfl)),
 t0:=Tryz.underlying0,
 a0:=Tryz.isAgg0,
 z0:=Tryz.sizeOf0,
 v0:=Tryz.zeroValue0,
 t3:=Tryz.underlying3,
 a3:=Tryz.isAgg3,
 z3:=Tryz.sizeOf3,
 v3:=Tryz.zeroValue3,
 t4:=Tryz.underlying4,
 a4:=Tryz.isAgg4,
 z4:=Tryz.sizeOf4,
 v4:=Tryz.zeroValue4,
 t9:=Tryz.underlying9,
 a9:=Tryz.isAgg9,
 z9:=Tryz.sizeOf9,
 v9:=Tryz.zeroValue9,
 t20:=Tryz.underlying20,
 a20:=Tryz.isAgg20,
 z20:=Tryz.sizeOf20,
 v20:=Tryz.zeroValue20,
 t37:=Tryz.underlying22,
 a37:=Tryz.isAgg22,
 z37:=Tryz.sizeOf22,
 v37:=Tryz.zeroValue22,
 t70:=Tryz.underlying65,
 a70:=Tryz.isAgg65,
 z70:=Tryz.sizeOf65,
 v70:=Tryz.zeroValue65,
 t72:=Tryz.underlying67,
 a72:=Tryz.isAgg67,
 z72:=Tryz.sizeOf67,
 v72:=Tryz.zeroValue67,
 t75:=Tryz.underlying69,
 a75:=Tryz.isAgg69,
 z75:=Tryz.sizeOf69,
 v75:=Tryz.zeroValue69,
 t164:=Tryz.underlying95,
 a164:=Tryz.isAgg95,
 z164:=Tryz.sizeOf95,
 v164:=Tryz.zeroValue95 }
theorem impl_Stream_out.extra : Go.Proofs.Builder.Extra Tryz.prog impl_Stream_out.ren := {
 sizeBuilder:=by kernel_rfl,
 liesBuilder:=by kernel_rfl,
 t5:=Tryz.underlying5,
 a5:=Tryz.isAgg5,
 z5:=Tryz.sizeOf5,
 v5:=Tryz.zeroValue5,
 infoByte:=by kernel_rfl,
 cellsByte:=by kernel_rfl,
 sizeByte:=by kernel_rfl,
 neB5:=by decide }
theorem impl_Stream_out.ws (b : Nat) (l : List UInt8) (s : ByteArray) (w : World) (h : Lib.IsBuilder 67 5 b b (Lib.byteCells l) w) (hlen : l.length + s.size ≤ 140737488355328) (hBw : b ≤ w.heap.size) :
  Calls Tryz.prog 48 #[.pointer (some ⟨b,0,none⟩),.string s] w fun e w'=>e = .returned (.tuple #[.int .i64 s.size,.nilIface]) ∧ Lib.IsBuilder 67 5 b b (Lib.byteCells (l ++ s.data.toList)) w' ∧ Below b w w':=by
 refine (Go.Proofs.Any.Builder_WriteString impl_Stream_out.lays impl_Stream_out.extra b b (Lib.byteCells l) s w h (by rw [Lib.byteCells_length];exact hlen) hBw).mono ?_
 rintro e w' ⟨rfl,h1,h2⟩
 refine ⟨rfl,.inr ?_,h2⟩
 have e : Lib.byteCells (l ++ s.data.toList) = Lib.byteCells l ++ Lib.strCells s:=by
  simp [Lib.byteCells,Lib.strCells]
 rw [e];exact h1
theorem impl_Stream_out.keep {T e : TypeId} {B b : Nat} {bs : List Value} {w w' : World} (h : Lib.IsBuilder T e B b bs w) (hk : ∀ k, k < w.heap.size → w'.heap[k]? = w.heap[k]?) : Lib.IsBuilder T e B b bs w' := by
 have one : ∀ p,Lib.BuilderAt T e B b p bs w → Lib.BuilderAt T e B b p bs w':=by
  rintro p ⟨hB,v,hb,hown,hne⟩
  refine ⟨hB,v,(hk b (Array.getElem?_eq_some_iff.1 hb).1).trans hb,⟨hown.1,?_⟩,hne⟩
  rcases hown.2 with h0|⟨g,cap,cur,h1,h2,h3,h4⟩
  ·exact .inl h0
  ·exact .inr ⟨g,cap,cur,h1,h2,(hk g (Array.getElem?_eq_some_iff.1 h3).1).trans h3,h4⟩
 exact h.imp (one _) (one _)
theorem impl_Stream_out.fresh {b : Nat} {w : World} (h : w.heap[b]? = some (.cells #[.pointer none, .slice none 0 0] 67 (0, 0))) : Lib.IsBuilder 67 5 b b (Lib.byteCells []) w :=
 .inl ⟨Nat.le_refl _,_,h,⟨by simp [Lib.byteCells],.inl ⟨rfl,rfl⟩⟩,by simp [Value.ownBlock]⟩
theorem impl_Stream_out.lt {T e : TypeId} {B b : Nat} {bs : List Value} {w : World} (h : Lib.IsBuilder T e B b bs w) : b < w.heap.size := by
 rcases h with ⟨_,_,h,_⟩|⟨_,_,h,_⟩ <;> exact (Array.getElem?_eq_some_iff.1 h).1
/-- As what the parts went on, one behind the other. -/
def impl_Stream_out.cat (l : List (S31)) : List UInt8 := l.flatMap fun x => x.f1.data.toList
theorem impl_Stream_out.cat_step {l : List (S31)} {x : Nat} (hx : x < l.length) : impl_Stream_out.cat (l.take (x + 1)) = impl_Stream_out.cat (l.take x) ++ (rd_T31 l (x : Int)).f1.data.toList := by
 have e : rd_T31 l (x : Int) = l[x]:=by
  unfold rd_T31
  rw [List.getD_eq_getElem?_getD,show ((x : Int)).toNat = x from rfl,List.getElem?_eq_getElem hx];rfl
 rw [e,List.take_succ_eq_append_getElem hx]
 unfold impl_Stream_out.cat
 rw [List.flatMap_append]
 congr 1
 exact List.append_nil _
theorem impl_Stream_out.cat_le (l : List (S31)) (x : Nat) : (impl_Stream_out.cat (l.take x)).length ≤ (impl_Stream_out.cat l).length := by
 conv=>rhs;rw [← List.take_append_drop x l]
 unfold impl_Stream_out.cat
 rw [List.flatMap_append,List.length_append]
 omega
def impl_Stream_out.f (a0_0 : ByteArray) (l0_1 : List (S31)) : Option (ByteArray) := if (impl_Stream_out.cat l0_1).length ≤ 140737488355328 then some ⟨(impl_Stream_out.cat l0_1).toArray⟩ else none
set_option maxHeartbeats 4000000 in
set_option maxRecDepth 100000 in
theorem impl_Stream_out.calls (a0_0 : ByteArray) (A0_1 : Option Addr) (c0_1 : Nat) (l0_1 : List (S31)) (r : ByteArray) (w : World) (hr0_1 : Kd.C k31 w A0_1 l0_1.length l0_1) (hc0_1 : l0_1.length ≤ c0_1) (h : impl_Stream_out.f a0_0 l0_1 = some r) :
  Calls Tryz.prog 31 #[.agg #[.string a0_0,.slice A0_1 l0_1.length c0_1]] w fun e w'=>e = .returned (.string r) ∧ Below w.heap.size w w':=by
 have hu0:=Tryz.underlying25
 have hu1:=Tryz.underlying31
 have hu2:=Tryz.underlying67
 unfold impl_Stream_out.f at h
 by_cases hs : (impl_Stream_out.cat l0_1).length ≤ 140737488355328
 ·rw [if_pos hs] at h
  obtain rfl:=Option.some.inj h
  have HS:=m_ hs
  have HL:=m_ (Kd.C_max hr0_1)
  have HR:=m_ hr0_1
  have HC:=m_ hc0_1
  clear h hs hr0_1 hc0_1
  have HB:=m_ (Below.refl w.heap.size w)
  go_enter Tryz.func31,Tryz.ntmps31
  go_wp2_with (first
   | ((with_reducible refine gate_dst (N := 1) rfl ?_); refine box_event ?hg (N := 1) ?hd (cs := #[.string a0_0, .slice A0_1 l0_1.length c0_1]) (t := 25) ?hr ?_; (case hd => rfl); (case hg => rfl); (case hr => first | (go_simp; done) | (go_simp; rfl)); intro g0 hg w1 hbox hb; have HB1 := Aside0.mk (below_step HB.out hb); have BK0 := Aside0.mk hbox; have GE0 := Aside0.mk (by rw [hg]; exact Nat.le_refl _ : w.heap.size ≤ g0); clear HB; have HB := HB1; clear HB1 hb hbox hg; have hcz0 : w1.cell? ⟨g0, 0, none⟩ = some (.string a0_0) := (blk_cell BK0.out 0).trans rfl; have hcz1 : w1.cell? ⟨g0, 1, none⟩ = some (.slice A0_1 l0_1.length c0_1) := (blk_cell BK0.out 1).trans rfl)
   | ((with_reducible refine gate_dst (N := 3) rfl ?_); refine box_event ?hg (N := 3) ?hd (cs := #[.pointer none, .slice none 0 0]) (t := 67) ?hr ?_; (case hd => rfl); (case hg => rfl); (case hr => first | (go_simp; done) | (go_simp; rfl)); intro g1 hg w2 hbox hb; have HB1 := Aside0.mk (below_step HB.out hb); have BK1 := Aside0.mk (blk_below BK0.out hb); have BB := Aside0.mk (impl_Stream_out.fresh hbox); have GE1 := Aside0.mk (by rw [hg]; exact HB.out.size : w.heap.size ≤ g1); clear HB BK0; have HB := HB1; have BK0 := BK1; clear HB1 BK1 hb hbox hg hcz0 hcz1; have hcz0 : w2.cell? ⟨g0, 0, none⟩ = some (.string a0_0) := (blk_cell BK0.out 0).trans rfl; have hcz1 : w2.cell? ⟨g0, 1, none⟩ = some (.slice A0_1 l0_1.length c0_1) := (blk_cell BK0.out 1).trans rfl))
  go_loopg [9] l0_1.length (fun kq v9 w'=>∃ x : Nat,v9 = .int .i64 x ∧ Aside0 (x ≤ l0_1.length ∧ l0_1.length - x ≤ kq) ∧ Aside0 (Below w.heap.size w w') ∧ Aside0 (Lib.IsBuilder 67 5 g1 g1 (Lib.byteCells (impl_Stream_out.cat (l0_1.take x))) w'))
  case atStart=>exact ⟨0,rfl,⟨by omega⟩,HB,BB⟩
  case round =>
   clear HB BB BK0
   try clear hcz0 hcz1
   obtain ⟨x,rfl,HX,HB,BB⟩:=hrel
   by_cases hlt : x < l0_1.length
   ·have c1 : decide ((x : Int) < (l0_1.length : Int)) = true:=decide_eq_true (Int.ofNat_lt.2 hlt)
    have p1 : 0 ≤ (x : Int):=Int.natCast_nonneg _
    have q1 : (x : Int) < (l0_1.length : Int):=Int.ofNat_lt.2 hlt
    have HT:=m_ hlt
    have HN:=m_ (show (impl_Stream_out.cat (l0_1.take x)).length + (rd_T31 l0_1 (x : Int)).f1.size ≤ 140737488355328 by
     have h1:=impl_Stream_out.cat_step hlt
     have h2:=impl_Stream_out.cat_le l0_1 (x + 1)
     have h3:=HS.out
     rw [h1,List.length_append,Array.length_toList] at h2
     exact Nat.le_trans h2 h3)
    clear hlt
    obtain ⟨ad1,e1,hx0,hx1⟩:=at_T31 HR.out (x : Int) p1 q1
    cases e1
    replace hx0:=(HB.out.cell (World.block_lt_of_cell? w _ hx0)).trans hx0
    replace hx1:=(HB.out.cell (World.block_lt_of_cell? w _ hx1)).trans hx1
    replace hx0 : wr.cell? (ad1.add (x * 2)) = some (.int .i64 (rd_T31 l0_1 (x : Int)).f0):=hx0
    replace hx1 : wr.cell? ⟨(ad1.add (x * 2)).block,(ad1.add (x * 2)).off + 1,none⟩ = some (.string (rd_T31 l0_1 (x : Int)).f1):=hx1
    replace p1:=eq_true p1
    replace q1:=eq_true q1
    go_wp2_with (first
     | ((with_reducible refine gate_dst (N := 5) rfl ?_); refine box_event ?hg (N := 5) ?hd (cs := #[.int .i64 0, .string (⟨#[]⟩ : ByteArray)]) (t := 31) ?hr ?_; (case hd => rfl); (case hg => rfl); (case hr => first | (go_simp; done) | (go_simp; rfl)); intro g5 hg w5 hbox hb; have BK5 := Aside0.mk hbox; have HB5 := Aside0.mk hb; have GE5 := Aside0.mk (Nat.le_of_eq hg.symm : wr.heap.size ≤ g5); clear hb hbox hg; have hcz0 : w5.cell? ⟨g5, 0, none⟩ = some (.int .i64 0) := (blk_cell BK5.out 0).trans rfl; have hcz1 : w5.cell? ⟨g5, 1, none⟩ = some (.string (⟨#[]⟩ : ByteArray)) := (blk_cell BK5.out 1).trans rfl; have hfz0 := blk_frozen BK5.out 0; have hfz1 := blk_frozen BK5.out 1)
     | (go_at_call 48; refine (impl_Stream_out.ws g1 (impl_Stream_out.cat (l0_1.take x)) (rd_T31 l0_1 (x : Int)).f1 _ (impl_Stream_out.keep BB.out (below_set (below_set HB5.out GE5.out) GE5.out).block) HN.out (Nat.le_trans (Nat.le_of_lt (impl_Stream_out.lt BB.out)) (below_set (below_set HB5.out GE5.out) GE5.out).size)).mono ?_; rintro e w' ⟨rfl, hq, hb'⟩; have HB2 := Aside0.mk ((below_step HB.out (below_set (j := 1) (v := .string (rd_T31 l0_1 (x : Int)).f1) (below_set (j := 0) (v := .int .i64 (rd_T31 l0_1 (x : Int)).f0) HB5.out GE5.out) GE5.out)).trans (hb'.mono GE1.out)); have BB2 := Aside0.mk hq; clear hq hb'))
    go_roundg (l0_1.length - (x + 1))
    case measure=>have:=HX.out;have:=HT.out;omega
    case rel=>exact ⟨x + 1,congrArg (Value.int .i64) ((IntWalk.wrap64_in _ ⟨by omega,by have:=HT.out;have:=HL.out;omega⟩).trans rfl),⟨by have:=HT.out;omega⟩,HB2,⟨by rw [impl_Stream_out.cat_step HT.out];exact BB2.out⟩⟩
   ·have c1 : decide ((x : Int) < (l0_1.length : Int)) = false:=decide_eq_false (fun h=>hlt (Int.ofNat_lt.1 h))
    have c2 : ¬ (x : Int) < (l0_1.length : Int):=fun h=>hlt (Int.ofNat_lt.1 h)
    have ex : l0_1.take x = l0_1:=List.take_of_length_le (Nat.le_of_not_lt hlt)
    rw [ex] at BB
    go_wp2_with (go_at_call 49;refine (Go.Proofs.Tryz.Builder_String_any g1 g1 (impl_Stream_out.cat l0_1) _ BB.out (Nat.le_of_lt (impl_Stream_out.lt BB.out))).mono ?_;rintro e w' ⟨rfl,hb'⟩)
    go_ret
    exact ⟨rfl,HB.out.trans (hb'.mono GE1.out)⟩
 ·rw [if_neg hs] at h;cases h

end Go.Proofs.YtkcjmmhleepjeaaGreatDoor.A
