-- Printed by myprint.py (wip/tools) out of the translation. Not trusted: Lean checks it.
import Derived.Test.YtkcjmmhleepjeaaDoorAx0
namespace Go.Proofs.YtkcjmmhleepjeaaDoor.A
open Go.RowKit Go.Proofs.YtkcjmmhleepjeaaDoorW.PrintWords Go.Proofs.YtkcjmmhleepjeaaDoorW.PrintLast Go.Proofs.YtkcjmmhleepjeaaDoorW.PrintMore
attribute [local go_sem] max2_int min2_int max_two min_two max_three min_three max_four min_four
set_option linter.unusedVariables false
set_option maxHeartbeats 8000000
set_option maxRecDepth 100000
set_option linter.unusedSimpArgs false

/-! ### impl_figure: function 44 -/
def impl_figure.f (a0 : Int) (a1 : Int) : Option (Bool) := if a0 ≥ a1 then (some (decide (a0 ≤ 57))) else (some false)
theorem impl_figure.calls (a0 : Int) (a1 : Int) (r : Bool) (w : World) (h : impl_figure.f a0 a1 = some r) :
  Calls Tryd.prog 44 #[.int .u8 a0,.int .u8 a1] w fun e w'=>e = .returned (.bool r) ∧ Drawn0 w w':=by
 have H : (if a0 ≥ a1 then (some (decide (a0 ≤ 57))) else (some false)) = some r:=h
 clear h
 by_cases c3 : a0 ≥ a1
 ·rw [if_pos c3] at H
  have c3b0 : decide (a1 ≤ a0) = true:=decide_eq_true c3
  clear c3
  obtain rfl:=Option.some.inj H
  go_enter Tryd.func44,Tryd.ntmps44
  go_wp2
  go_ret
  exact ⟨by first|rfl|(simp;done)|(simp [*];done),drn⟩
 ·rw [if_neg c3] at H
  have c3b0 : decide (a1 ≤ a0) = false:=decide_eq_false c3
  clear c3
  obtain rfl:=Option.some.inj H
  go_enter Tryd.func44,Tryd.ntmps44
  go_wp2
  go_ret
  exact ⟨by first|rfl|(simp;done)|(simp [*];done),drn⟩

/-! ### impl_TextOk: function 25 -/
def tokb (c : Int) : Bool := decide ((97 ≤ c ∧ c ≤ 122) ∨ (48 ≤ c ∧ c ≤ 57) ∨ c = 64 ∨ c = 58 ∨ c = 59)
def impl_TextOk.f (a0 : ByteArray) : Option (Bool) := if a0.size ≤ 140737488355328 then some ((bytesOf a0).all tokb && decide (a0.size ≤ 40)) else none
theorem tok_cell (s : ByteArray) (k : Nat) (h : k < s.size) : ((s.data.toList.getD k 0).toNat : Int) = bt s k := by
 have h' : k < s.data.toList.length:=by rw [data_length];exact h
 simp [bt,h,List.getD_eq_getElem?_getD,List.getElem?_eq_getElem h']
 rfl
set_option maxHeartbeats 4000000 in
set_option maxRecDepth 100000 in
theorem impl_TextOk.calls (a0 : ByteArray) (r : Bool) (w : World) (h : impl_TextOk.f a0 = some r) :
  Calls Tryd.prog 25 #[.string a0] w fun e w'=>e = .returned (.bool r) ∧ Below w.heap.size w w':=by
 unfold impl_TextOk.f at h
 by_cases hs : a0.size ≤ 140737488355328
 ·rw [if_pos hs] at h
  have HR:=m_ (Option.some.inj h)
  clear h
  have kb:=fun W=>print_bytes (P:=Tryd.prog) 9 36 5 Tryd.underlying9 Tryd.underlying36 Tryd.underlying5 a0 W
  go_enter Tryd.func25,Tryd.ntmps25
  go_wp2
  go_loopw [8] (fun i wr=>∃ k : Nat,k ≤ a0.size ∧ i = .int .i64 k ∧ Aside0 (∀ j : Nat,j < k → tokb (bt a0 j) = true) ∧ Aside0 (Drawn0 (Lib.bytesWorld w 5 a0) wr)) (fun i _=>a0.size - (intOf i).toNat)
  case atStart=>exact ⟨0,Nat.zero_le _,rfl,⟨fun j hj=>absurd hj (Nat.not_lt_zero _)⟩,⟨Drawn0.refl _⟩⟩
  case round =>
   obtain ⟨k,hk,rfl,hall,hd⟩:=hrel
   have hb:=bt_range a0 k
   by_cases hlt : k < a0.size
   ·have hcell : wr.cell? ⟨w.heap.size,k,none⟩ = some (.int .u8 (bt a0 k)):=by
     obtain ⟨⟨m,rfl⟩⟩:=hd.out
     show (Lib.bytesWorld w 5 a0).cell? _ = _
     rw [Lib.bytesWorld_cell w 5 a0 k hlt,tok_cell a0 k hlt]
    have hnext:=fun (h1 : tokb (bt a0 k) = true)=>m_ (show ∀ j : Nat,j < k + 1 → tokb (bt a0 j) = true from fun j hj=>by
     by_cases e : j = k
     ·subst e;exact h1
     ·exact hall.out j (by omega))
    have hok : Aside0 (tokb (bt a0 k) = decide ((97 ≤ bt a0 k ∧ bt a0 k ≤ 122) ∨ (48 ≤ bt a0 k ∧ bt a0 k ≤ 57) ∨ bt a0 k = 64 ∨ bt a0 k = 58 ∨ bt a0 k = 59)):=⟨rfl⟩
    have hbad:=fun (h1 : tokb (bt a0 k) = false)=>m_ (show ((bytesOf a0).all tokb && decide (a0.size ≤ 40)) = false from by
     rw [Bool.and_eq_false_iff];left
     rw [List.all_eq_false]
     refine ⟨bt a0 k,?_,by rw [h1];decide⟩
     have hl : k < (bytesOf a0).length:=by rw [bytesOf_length];exact hlt
     have:=List.getElem_mem hl
     rwa [show (bytesOf a0)[k] = bt a0 k from by rw [← rd_bytesOf];simp [rd,List.getD_eq_getElem?_getD,List.getElem?_eq_getElem hl]] at this)
    generalize bt a0 k = c at hb hcell hnext hok hbad
    clear hall
    by_cases c1 : 48 ≤ c ∧ c ≤ 57
    ·have hn:=hnext (by rw [hok.out];exact decide_eq_true (by omega))
     clear hnext hbad hok
     have hf : impl_figure.f c 48 = some true:=by unfold impl_figure.f;rw [if_pos c1.1,decide_eq_true c1.2]
     have HF:=m_ hf
     clear hf c1
     go_wp2_with (go_at_call 44;refine (impl_figure.calls c 48 true _ HF.out).mono ?_;rintro e w' ⟨rfl,⟨nd,rfl⟩⟩)
     go_roundw
     case rel=>exact ⟨k + 1,by omega,by go_num,hn,⟨hd.out.step nd⟩⟩
     case measure=>simp [intOf];omega
    ·skip
     by_cases d64 : c = 64
     ·subst d64
      have hn:=hnext (by rw [hok.out];decide)
      clear hnext hbad hok c1
      have HF:=m_ (show impl_figure.f 64 48 = some false from rfl)
      go_wp2_with (go_at_call 44;refine (impl_figure.calls 64 48 false _ HF.out).mono ?_;rintro e w' ⟨rfl,⟨nd,rfl⟩⟩)
      go_roundw
      case rel=>exact ⟨k + 1,by omega,by go_num,hn,⟨hd.out.step nd⟩⟩
      case measure=>simp [intOf];omega
     by_cases d58 : c = 58
     ·subst d58
      have hn:=hnext (by rw [hok.out];decide)
      clear hnext hbad hok c1
      have HF:=m_ (show impl_figure.f 58 48 = some false from rfl)
      go_wp2_with (go_at_call 44;refine (impl_figure.calls 58 48 false _ HF.out).mono ?_;rintro e w' ⟨rfl,⟨nd,rfl⟩⟩)
      go_roundw
      case rel=>exact ⟨k + 1,by omega,by go_num,hn,⟨hd.out.step nd⟩⟩
      case measure=>simp [intOf];omega
     by_cases d59 : c = 59
     ·subst d59
      have hn:=hnext (by rw [hok.out];decide)
      clear hnext hbad hok c1
      have HF:=m_ (show impl_figure.f 59 48 = some false from rfl)
      go_wp2_with (go_at_call 44;refine (impl_figure.calls 59 48 false _ HF.out).mono ?_;rintro e w' ⟨rfl,⟨nd,rfl⟩⟩)
      go_roundw
      case rel=>exact ⟨k + 1,by omega,by go_num,hn,⟨hd.out.step nd⟩⟩
      case measure=>simp [intOf];omega
     have hf : impl_figure.f c 48 = some false:=by
      unfold impl_figure.f
      by_cases e : c ≥ 48
      ·rw [if_pos e,decide_eq_false (by omega)]
      ·rw [if_neg e]
     have HF:=m_ hf
     have n1 : (c != 64) = true:=bne_iff_ne.2 d64
     have n2 : (c != 58) = true:=bne_iff_ne.2 d58
     have n3 : (c != 59) = true:=bne_iff_ne.2 d59
     clear hf d64 d58 d59
     by_cases c2 : c < 97
     ·obtain rfl : r = false:=by rw [← HR.out];exact (hbad (by rw [hok.out];exact decide_eq_false (by have:=bne_iff_ne.1 n1;have:=bne_iff_ne.1 n2;have:=bne_iff_ne.1 n3;omega))).out
      clear hnext hbad hok c1
      have c2b : decide (c < 97) = true:=decide_eq_true c2
      clear c2
      go_wp2_with (go_at_call 44;refine (impl_figure.calls c 48 false _ HF.out).mono ?_;rintro e w' ⟨rfl,⟨nd,rfl⟩⟩)
      go_ret
      exact ⟨rfl,(bytes_below (Below.refl w.heap.size w) (Nat.le_refl _) 5 a0).trans ((hd.out.step nd).below.mono (by rw [Lib.bytesWorld_size];omega))⟩
     ·by_cases c3 : 122 < c
      ·obtain rfl : r = false:=by rw [← HR.out];exact (hbad (by rw [hok.out];exact decide_eq_false (by have:=bne_iff_ne.1 n1;have:=bne_iff_ne.1 n2;have:=bne_iff_ne.1 n3;omega))).out
       clear hnext hbad hok c1
       have c2b : decide (c < 97) = false:=decide_eq_false c2
       have c3b : decide (122 < c) = true:=decide_eq_true c3
       clear c2 c3
       go_wp2_with (go_at_call 44;refine (impl_figure.calls c 48 false _ HF.out).mono ?_;rintro e w' ⟨rfl,⟨nd,rfl⟩⟩)
       go_ret
       exact ⟨rfl,(bytes_below (Below.refl w.heap.size w) (Nat.le_refl _) 5 a0).trans ((hd.out.step nd).below.mono (by rw [Lib.bytesWorld_size];omega))⟩
      ·have hn:=hnext (by rw [hok.out];exact decide_eq_true (by omega))
       clear hnext hbad hok c1
       have c2b : decide (c < 97) = false:=decide_eq_false c2
       have c3b : decide (122 < c) = false:=decide_eq_false c3
       clear c2 c3
       go_wp2_with (go_at_call 44;refine (impl_figure.calls c 48 false _ HF.out).mono ?_;rintro e w' ⟨rfl,⟨nd,rfl⟩⟩)
       go_roundw
       case rel=>exact ⟨k + 1,by omega,by go_num,hn,⟨hd.out.step nd⟩⟩
       case measure=>simp [intOf];omega
   ·have hk2 : k = a0.size:=by omega
    have hfin : Aside0 (r = decide ((a0.size : Int) ≤ 40)):=⟨by
     rw [← HR.out]
     have : (bytesOf a0).all tokb = true:=by
      rw [List.all_eq_true]
      intro x hx
      obtain ⟨j,hj,rfl⟩:=List.getElem_of_mem hx
      have hj2 : j < a0.size:=by rwa [bytesOf_length] at hj
      have:=hall.out j (by omega)
      rw [← rd_bytesOf] at this
      simpa [rd,List.getD_eq_getElem?_getD,List.getElem?_eq_getElem hj] using this
     rw [this,Bool.true_and]
     by_cases e : a0.size ≤ 40
     ·rw [decide_eq_true e,decide_eq_true (by omega)]
     ·rw [decide_eq_false e,decide_eq_false (by omega)]⟩
    clear hall hk2
    obtain rfl:=hfin.out
    clear hfin
    go_wp2
    go_ret
    exact ⟨rfl,(bytes_below (Below.refl w.heap.size w) (Nat.le_refl _) 5 a0).trans (hd.out.below.mono (by rw [Lib.bytesWorld_size];omega))⟩
 ·rw [if_neg hs] at h;cases h

/-! ### impl_within: function 29 -/
def impl_within.f (a0 : Int) (a1 : Int) (a2 : Int) : Option (Bool) := if a0 ≥ a1 then (some (decide (a0 ≤ a2))) else (some false)
theorem impl_within.calls (a0 : Int) (a1 : Int) (a2 : Int) (r : Bool) (w : World) (h : impl_within.f a0 a1 a2 = some r) :
  Calls Tryd.prog 29 #[.int .i64 a0,.int .i64 a1,.int .i64 a2] w fun e w'=>e = .returned (.bool r) ∧ Drawn0 w w':=by
 have H : (if a0 ≥ a1 then (some (decide (a0 ≤ a2))) else (some false)) = some r:=h
 clear h
 by_cases c4 : a0 ≥ a1
 ·rw [if_pos c4] at H
  have c4b0 : decide (a1 ≤ a0) = true:=decide_eq_true c4
  clear c4
  obtain rfl:=Option.some.inj H
  go_enter Tryd.func29,Tryd.ntmps29
  go_wp2
  go_ret
  exact ⟨by first|rfl|(simp;done)|(simp [*];done),drn⟩
 ·rw [if_neg c4] at H
  have c4b0 : decide (a1 ≤ a0) = false:=decide_eq_false c4
  clear c4
  obtain rfl:=Option.some.inj H
  go_enter Tryd.func29,Tryd.ntmps29
  go_wp2
  go_ret
  exact ⟨by first|rfl|(simp;done)|(simp [*];done),drn⟩

/-! ### impl_StreamOk_1: function 28 -/
def impl_StreamOk_1.f (a0_0 : Int) (a0_1 : ByteArray) (a1_0 : Int) (a1_1 : Bool) (a1_2 : Int) (a1_3 : Int) : Option (Bool) := if a0_0 = a1_0 then ((impl_within.f (a0_1.size : Int) 1 6).bind fun t188 => (if t188 = true then ((impl_TextOk.f a0_1).bind fun t189 => (some t189)) else (some false))) else (some false)
theorem impl_StreamOk_1.calls (a0_0 : Int) (a0_1 : ByteArray) (a1_0 : Int) (a1_1 : Bool) (a1_2 : Int) (a1_3 : Int) (r : Bool) (w : World) (h : impl_StreamOk_1.f a0_0 a0_1 a1_0 a1_1 a1_2 a1_3 = some r) :
  Calls Tryd.prog 28 #[.agg #[.int .i64 a0_0,.string a0_1],.agg #[.int .i64 a1_0,.bool a1_1,.int .i64 a1_2,.int .i64 a1_3]] w fun e w'=>e = .returned (.bool r) ∧ Below w.heap.size w w':=by
 have hu41:=Tryd.underlying41
 have hu45:=Tryd.underlying45
 have HB:=m_ (Below.refl w.heap.size w)
 have H : (if a0_0 = a1_0 then ((impl_within.f (a0_1.size : Int) 1 6).bind fun t188=>(if t188 = true then ((impl_TextOk.f a0_1).bind fun t189=>(some t189)) else (some false))) else (some false)) = some r:=h
 clear h
 by_cases c3 : a0_0 = a1_0
 ·rw [if_pos c3] at H
  have c3b0 : (a0_0 == a1_0) = true:=beq_iff_eq.mpr c3
  have c3b1 : (a0_0 != a1_0) = false:=bne_eq_false_iff_eq.mpr c3
  clear c3
  replace H:=Option.bind_eq_some_iff.mp H
  obtain ⟨t188,A40,H⟩:=H
  replace H : (if t188 = true then ((impl_TextOk.f a0_1).bind fun t189=>(some t189)) else (some false)) = some r:=H
  have A4:=m_ A40
  clear A40
  by_cases c5 : t188 = true
  ·subst c5
   have H1 : ((impl_TextOk.f a0_1).bind fun t189=>(some t189)) = some r:=by rw [if_pos rfl] at H;exact H
   clear H
   have H:=H1
   clear H1
   replace H:=Option.bind_eq_some_iff.mp H
   obtain ⟨t189,A60,H⟩:=H
   replace H : (some t189) = some r:=H
   have A6:=m_ A60
   clear A60
   obtain rfl:=Option.some.inj H
   go_enter Tryd.func28,Tryd.ntmps28
   go_wp2_with (first|((with_reducible refine gate_dst (N:=2) rfl ?_);(try (refine gate_guard (by rfl) ?_;dsimp only));refine box_event ?hg (N:=2) ?hd (cs:=#[.int .i64 a0_0,.string a0_1]) (t:=41) ?hr ?_;(case hd=>rfl);(case hg=>rfl);(case hr=>first|(go_simp;done)|(go_simp;rfl));intro gb186 hg w7 hbox hb;have n0_:=m_ (l5_ (puL HB.out) hb);have n1_:=m_ (hbox);have n2_:=m_ ((by rw [hg];exact (l6_ (puL HB.out)) : w.heap.size ≤ gb186));have n3_:=m_ ((by rw [hg];exact (l6_ (puL HB.out)) : w.heap.size ≤ gb186));revert n0_ n1_ n2_ n3_;clear HB;intro HB BK186 GW186 GE186;clear hb hbox hg)|((with_reducible refine gate_dst (N:=3) rfl ?_);(try (refine gate_guard (by rfl) ?_;dsimp only));refine box_event ?hg (N:=3) ?hd (cs:=#[.int .i64 a1_0,.bool a1_1,.int .i64 a1_2,.int .i64 a1_3]) (t:=45) ?hr ?_;(case hd=>rfl);(case hg=>rfl);(case hr=>first|(go_simp;done)|(go_simp;rfl));intro gb187 hg w8 hbox hb;have n0_:=m_ (blk_below (g:=gb186) (o:=.cells #[.int .i64 a0_0,.string a0_1] 41 (0,0)) (puB BK186.out) hb);have n1_:=m_ (l5_ (puM HB.out GE186.out) hb);have n2_:=m_ (hbox);have n3_:=m_ ((by rw [hg];exact (l6_ (puM HB.out GE186.out)) : w.heap.size ≤ gb187));have n4_:=n3_;have n5_:=m_ ((by rw [hg];exact Nat.ne_of_lt (blk_lt (g:=gb186) (o:=.cells #[.int .i64 a0_0,.string a0_1] 41 (0,0)) (puB BK186.out)) : gb186 ≠ gb187));have n6_:=m_ ((by rw [hg];exact Nat.ne_of_gt (blk_lt (g:=gb186) (o:=.cells #[.int .i64 a0_0,.string a0_1] 41 (0,0)) (puB BK186.out)) : gb187 ≠ gb186));revert n0_ n1_ n2_ n3_ n4_ n5_ n6_;clear BK186 HB;intro BK186 HB BK187 GW187 GE187 NB186_187 NB187_186;clear hb hbox hg;have hnb9:=NB186_187.out;have hnc9:=NB187_186.out;have hcz10_0 : w8.cell? ⟨gb186,0,none⟩ = some (.int .i64 a0_0):=(c_ BK186.out 0).trans rfl;have hcz10_1 : w8.cell? ⟨gb186,1,none⟩ = some (.string a0_1):=(c_ BK186.out 1).trans rfl;have hcz11_0 : w8.cell? ⟨gb187,0,none⟩ = some (.int .i64 a1_0):=(c_ BK187.out 0).trans rfl;have hcz11_1 : w8.cell? ⟨gb187,1,none⟩ = some (.bool a1_1):=(c_ BK187.out 1).trans rfl;have hcz11_2 : w8.cell? ⟨gb187,2,none⟩ = some (.int .i64 a1_2):=(c_ BK187.out 2).trans rfl;have hcz11_3 : w8.cell? ⟨gb187,3,none⟩ = some (.int .i64 a1_3):=(c_ BK187.out 3).trans rfl)|(go_at_call 29;(with_reducible refine (impl_within.calls (a0_1.size : Int) 1 6 true _ A4.out).mono ?_);rintro e w' ⟨rfl,⟨nd,rfl⟩⟩)|(go_at_call 25;(with_reducible refine (impl_TextOk.calls a0_1 t189 _ A6.out).mono ?_);rintro e w12 ⟨rfl,hb⟩;have n0_:=m_ (blk_below (g:=gb186) (o:=.cells #[.int .i64 a0_0,.string a0_1] 41 (0,0)) (puB BK186.out) hb);have n1_:=m_ (blk_below (g:=gb187) (o:=.cells #[.int .i64 a1_0,.bool a1_1,.int .i64 a1_2,.int .i64 a1_3] 45 (0,0)) (puB BK187.out) hb);have n2_:=m_ (l5_ (puN HB.out GE186.out GE187.out) hb);revert n0_ n1_ n2_;clear BK186 BK187 HB;intro BK186 BK187 HB;(try clear hb);(try clear hb2);(try clear hk);(try clear hi)))
   go_ret
   exact ⟨eqs,puN HB.out GE186.out GE187.out⟩
  ·replace c5:=Bool.eq_false_iff.mpr c5
   subst c5
   have H1 : (some false) = some r:=by rw [if_neg (show ¬ (false = true) by decide)] at H;exact H
   clear H
   have H:=H1
   clear H1
   obtain rfl:=Option.some.inj H
   go_enter Tryd.func28,Tryd.ntmps28
   go_wp2_with (first|((with_reducible refine gate_dst (N:=2) rfl ?_);(try (refine gate_guard (by rfl) ?_;dsimp only));refine box_event ?hg (N:=2) ?hd (cs:=#[.int .i64 a0_0,.string a0_1]) (t:=41) ?hr ?_;(case hd=>rfl);(case hg=>rfl);(case hr=>first|(go_simp;done)|(go_simp;rfl));intro gb186 hg w13 hbox hb;have n0_:=m_ (l5_ (puL HB.out) hb);have n1_:=m_ (hbox);have n2_:=m_ ((by rw [hg];exact (l6_ (puL HB.out)) : w.heap.size ≤ gb186));have n3_:=m_ ((by rw [hg];exact (l6_ (puL HB.out)) : w.heap.size ≤ gb186));revert n0_ n1_ n2_ n3_;clear HB;intro HB BK186 GW186 GE186;clear hb hbox hg)|((with_reducible refine gate_dst (N:=3) rfl ?_);(try (refine gate_guard (by rfl) ?_;dsimp only));refine box_event ?hg (N:=3) ?hd (cs:=#[.int .i64 a1_0,.bool a1_1,.int .i64 a1_2,.int .i64 a1_3]) (t:=45) ?hr ?_;(case hd=>rfl);(case hg=>rfl);(case hr=>first|(go_simp;done)|(go_simp;rfl));intro gb187 hg w14 hbox hb;have n0_:=m_ (blk_below (g:=gb186) (o:=.cells #[.int .i64 a0_0,.string a0_1] 41 (0,0)) (puB BK186.out) hb);have n1_:=m_ (l5_ (puM HB.out GE186.out) hb);have n2_:=m_ (hbox);have n3_:=m_ ((by rw [hg];exact (l6_ (puM HB.out GE186.out)) : w.heap.size ≤ gb187));have n4_:=n3_;have n5_:=m_ ((by rw [hg];exact Nat.ne_of_lt (blk_lt (g:=gb186) (o:=.cells #[.int .i64 a0_0,.string a0_1] 41 (0,0)) (puB BK186.out)) : gb186 ≠ gb187));have n6_:=m_ ((by rw [hg];exact Nat.ne_of_gt (blk_lt (g:=gb186) (o:=.cells #[.int .i64 a0_0,.string a0_1] 41 (0,0)) (puB BK186.out)) : gb187 ≠ gb186));revert n0_ n1_ n2_ n3_ n4_ n5_ n6_;clear BK186 HB;intro BK186 HB BK187 GW187 GE187 NB186_187 NB187_186;clear hb hbox hg;have hnb15:=NB186_187.out;have hnc15:=NB187_186.out;have hcz16_0 : w14.cell? ⟨gb186,0,none⟩ = some (.int .i64 a0_0):=(c_ BK186.out 0).trans rfl;have hcz16_1 : w14.cell? ⟨gb186,1,none⟩ = some (.string a0_1):=(c_ BK186.out 1).trans rfl;have hcz17_0 : w14.cell? ⟨gb187,0,none⟩ = some (.int .i64 a1_0):=(c_ BK187.out 0).trans rfl;have hcz17_1 : w14.cell? ⟨gb187,1,none⟩ = some (.bool a1_1):=(c_ BK187.out 1).trans rfl;have hcz17_2 : w14.cell? ⟨gb187,2,none⟩ = some (.int .i64 a1_2):=(c_ BK187.out 2).trans rfl;have hcz17_3 : w14.cell? ⟨gb187,3,none⟩ = some (.int .i64 a1_3):=(c_ BK187.out 3).trans rfl)|(go_at_call 29;(with_reducible refine (impl_within.calls (a0_1.size : Int) 1 6 false _ A4.out).mono ?_);rintro e w' ⟨rfl,⟨nd,rfl⟩⟩))
   go_ret
   exact ⟨eqs,puN HB.out GE186.out GE187.out⟩
 ·rw [if_neg c3] at H
  have c3b0 : (a0_0 == a1_0) = false:=beq_eq_false_iff_ne.mpr c3
  have c3b1 : (a0_0 != a1_0) = true:=bne_iff_ne.mpr c3
  obtain rfl:=Option.some.inj H
  go_enter Tryd.func28,Tryd.ntmps28
  go_wp2_with (first|((with_reducible refine gate_dst (N:=2) rfl ?_);(try (refine gate_guard (by rfl) ?_;dsimp only));refine box_event ?hg (N:=2) ?hd (cs:=#[.int .i64 a0_0,.string a0_1]) (t:=41) ?hr ?_;(case hd=>rfl);(case hg=>rfl);(case hr=>first|(go_simp;done)|(go_simp;rfl));intro gb186 hg w18 hbox hb;have n0_:=m_ (l5_ (puL HB.out) hb);have n1_:=m_ (hbox);have n2_:=m_ ((by rw [hg];exact (l6_ (puL HB.out)) : w.heap.size ≤ gb186));have n3_:=m_ ((by rw [hg];exact (l6_ (puL HB.out)) : w.heap.size ≤ gb186));revert n0_ n1_ n2_ n3_;clear HB;intro HB BK186 GW186 GE186;clear hb hbox hg)|((with_reducible refine gate_dst (N:=3) rfl ?_);(try (refine gate_guard (by rfl) ?_;dsimp only));refine box_event ?hg (N:=3) ?hd (cs:=#[.int .i64 a1_0,.bool a1_1,.int .i64 a1_2,.int .i64 a1_3]) (t:=45) ?hr ?_;(case hd=>rfl);(case hg=>rfl);(case hr=>first|(go_simp;done)|(go_simp;rfl));intro gb187 hg w19 hbox hb;have n0_:=m_ (blk_below (g:=gb186) (o:=.cells #[.int .i64 a0_0,.string a0_1] 41 (0,0)) (puB BK186.out) hb);have n1_:=m_ (l5_ (puM HB.out GE186.out) hb);have n2_:=m_ (hbox);have n3_:=m_ ((by rw [hg];exact (l6_ (puM HB.out GE186.out)) : w.heap.size ≤ gb187));have n4_:=n3_;have n5_:=m_ ((by rw [hg];exact Nat.ne_of_lt (blk_lt (g:=gb186) (o:=.cells #[.int .i64 a0_0,.string a0_1] 41 (0,0)) (puB BK186.out)) : gb186 ≠ gb187));have n6_:=m_ n5_.out.symm;revert n0_ n1_ n2_ n3_ n4_ n5_ n6_;clear BK186 HB;intro BK186 HB BK187 GW187 GE187 NB186_187 NB187_186;clear hb hbox hg;have hnb20:=NB186_187.out;have hnc20:=NB187_186.out;have hcz21_0 : w19.cell? ⟨gb186,0,none⟩ = some (.int .i64 a0_0):=(c_ BK186.out 0).trans rfl;have hcz21_1 : w19.cell? ⟨gb186,1,none⟩ = some (.string a0_1):=(c_ BK186.out 1).trans rfl;have hcz22_0 : w19.cell? ⟨gb187,0,none⟩ = some (.int .i64 a1_0):=(c_ BK187.out 0).trans rfl;have hcz22_1 : w19.cell? ⟨gb187,1,none⟩ = some (.bool a1_1):=(c_ BK187.out 1).trans rfl;have hcz22_2 : w19.cell? ⟨gb187,2,none⟩ = some (.int .i64 a1_2):=(c_ BK187.out 2).trans rfl;have hcz22_3 : w19.cell? ⟨gb187,3,none⟩ = some (.int .i64 a1_3):=(c_ BK187.out 3).trans rfl))
  go_ret
  exact ⟨eqs,puN HB.out GE186.out GE187.out⟩

/-! ### slices_EqualFunc_Piece: function 26 -/
def slices_EqualFunc_Piece.l0 : Nat → List (S45) → List (S41) → Int → Int → Option (Bool)
 | 0, _, _, _, _ => none
 | k + 1, x1, x15, x16, x17 => if x17 < x16 then (if 0 ≤ x17 then (if x17 < (x15.length : Int) then (if x17 < (x1.length : Int) then ((impl_StreamOk_1.f ((rd_T41 x15 x17).f0) ((rd_T41 x15 x17).f1) ((rd_T45 x1 x17).f0) ((rd_T45 x1 x17).f1) ((rd_T45 x1 x17).f2.f0) ((rd_T45 x1 x17).f2.f1)).bind fun t194 => (if t194 = true then (slices_EqualFunc_Piece.l0 k x1 x15 x16 (wrap64 (x17 + 1))) else (some false))) else (none)) else (none)) else (none)) else (some true)
def slices_EqualFunc_Piece.f (k : Nat) (l0 : List (S41)) (l1 : List (S45)) : Option (Bool) := if (l0.length : Int) = (l1.length : Int) then (slices_EqualFunc_Piece.l0 k l1 l0 (l0.length : Int) 0) else (some false)
theorem slices_EqualFunc_Piece.mono_l : ∀ k, (∀ y0 y1 y2 y3, LeO (slices_EqualFunc_Piece.l0 k y0 y1 y2 y3) (slices_EqualFunc_Piece.l0 (k + 1) y0 y1 y2 y3))
 | 0 => fun _ _ _ _ r h => by simp [slices_EqualFunc_Piece.l0] at h
 | k + 1 => by
  have ih0:=slices_EqualFunc_Piece.mono_l k
  ·intro y0 y1 y2 y3
   unfold slices_EqualFunc_Piece.l0
   repeat' first
   | (with_reducible exact ih0 _ _ _ _)
   | (with_reducible exact LeO.refl _)
   | (with_reducible exact LeO.none _)
   | (with_reducible refine LeO.ite ?_ ?_)
   | (with_reducible refine LeO.bind ?_ (fun _ => ?_))
   | exact ih0 _ _ _ _
   | exact LeO.none _
   | refine LeO.ite ?_ ?_
   | refine LeO.bind ?_ (fun _ => ?_)
theorem slices_EqualFunc_Piece.mono : ∀ a0 a1 k, LeO (slices_EqualFunc_Piece.f k a0 a1) (slices_EqualFunc_Piece.f (k + 1) a0 a1) := by
 intro a0 a1 k
 have ih0:=slices_EqualFunc_Piece.mono_l k
 unfold slices_EqualFunc_Piece.f
 repeat' first
   | (with_reducible exact ih0 _ _ _ _)
   | (with_reducible exact LeO.refl _)
   | (with_reducible exact LeO.none _)
   | (with_reducible refine LeO.ite ?_ ?_)
   | (with_reducible refine LeO.bind ?_ (fun _ => ?_))
   | exact ih0 _ _ _ _
   | exact LeO.none _
   | refine LeO.ite ?_ ?_
   | refine LeO.bind ?_ (fun _ => ?_)
theorem slices_EqualFunc_Piece.calls (k : Nat) (A0 : Option Addr) (c0 : Nat) (l0 : List (S41)) (A1 : Option Addr) (c1 : Nat) (l1 : List (S45)) (r : Bool) (w : World) (hr0 : Kd.C k41 w A0 l0.length l0) (hc0 : l0.length ≤ c0) (hr1 : Kd.C k45 w A1 l1.length l1) (hc1 : l1.length ≤ c1) (h : slices_EqualFunc_Piece.f k l0 l1 = some r) :
  Calls Tryd.prog 26 #[.slice A0 l0.length c0,.slice A1 l1.length c1,.func (.func 28) #[] #[]] w fun e w'=>e = .returned (.bool r) ∧ Below w.heap.size w w':=by
 have hu41:=Tryd.underlying41
 have hu45:=Tryd.underlying45
 have HR0:=m_ hr0
 have HC0:=m_ hc0
 clear hr0 hc0
 have HR1:=m_ hr1
 have HC1:=m_ hc1
 clear hr1 hc1
 have HB:=m_ (Below.refl w.heap.size w)
 have H : (if (l0.length : Int) = (l1.length : Int) then (slices_EqualFunc_Piece.l0 k l1 l0 (l0.length : Int) 0) else (some false)) = some r:=h
 clear h
 by_cases c3 : (l0.length : Int) = (l1.length : Int)
 ·rw [if_pos c3] at H
  have c3b0 : ((l0.length : Int) == (l1.length : Int)) = true:=beq_iff_eq.mpr c3
  have c3b1 : ((l0.length : Int) != (l1.length : Int)) = false:=bne_eq_false_iff_eq.mpr c3
  have c3b2 : (l0.length == l1.length) = true:=by first|simpa using c3|(simp at c3 ⊢;omega)
  clear c3
  have H':=m_ H
  clear H
  go_enter Tryd.func26,Tryd.ntmps26
  go_wp2
  go_loopg [17] k (fun kq v17 w'=>∃ (x17_1 : Int),v17 = .int .i64 x17_1 ∧ Aside0 (slices_EqualFunc_Piece.l0 kq l1 l0 (l0.length : Int) x17_1 = some r) ∧ Aside0 (kq ≤ k) ∧ Aside0 (Below w.heap.size w w'))
  case atStart=>exact ⟨(0),(by first|rfl|(simp;done)|(simp [*];done)),H',⟨Nat.le_refl _⟩,⟨puL HB.out⟩⟩
  case round =>
   clear H'
   try clear c1
   try clear c2
   try clear p2
   try clear c3
   try clear c3b0
   try clear c3b1
   try clear c3b2
   obtain ⟨x17_1,rfl,HA,HK1,HB⟩:=hrel
   cases gk with
   | zero => exact absurd HA.out (by simp [slices_EqualFunc_Piece.l0])
   | succ k1 =>
    have H:=HA.out
    clear HA
    simp only [slices_EqualFunc_Piece.l0] at H
    by_cases c4 : x17_1 < (l0.length : Int)
    ·rw [if_pos c4] at H
     have c4b0 : decide (x17_1 < (l0.length : Int)) = true:=decide_eq_true c4
     clear c4
     by_cases c5 : 0 ≤ x17_1
     rotate_left
     ·rw [if_neg c5] at H
      exact absurd H (by simp)
     rw [if_pos c5] at H
     have c5b0 : decide (0 ≤ x17_1) = true:=decide_eq_true c5
     clear c5
     by_cases c6 : x17_1 < (l0.length : Int)
     rotate_left
     ·rw [if_neg c6] at H
      exact absurd H (by simp)
     rw [if_pos c6] at H
     have c6b0 : decide (x17_1 < (l0.length : Int)) = true:=decide_eq_true c6
     clear c6
     by_cases c7 : x17_1 < (l1.length : Int)
     rotate_left
     ·rw [if_neg c7] at H
      exact absurd H (by simp)
     rw [if_pos c7] at H
     have c7b0 : decide (x17_1 < (l1.length : Int)) = true:=decide_eq_true c7
     clear c7
     replace H:=Option.bind_eq_some_iff.mp H
     obtain ⟨t194,A80,H⟩:=H
     replace H : (if t194 = true then (slices_EqualFunc_Piece.l0 k1 l1 l0 (l0.length : Int) (wrap64 (x17_1 + 1))) else (some false)) = some r:=H
     have A8:=m_ A80
     clear A80
     by_cases c9 : t194 = true
     ·subst c9
      have H1 : (slices_EqualFunc_Piece.l0 k1 l1 l0 (l0.length : Int) (wrap64 (x17_1 + 1))) = some r:=by rw [if_pos rfl] at H;exact H
      clear H
      have H:=H1
      clear H1
      have H':=m_ H
      clear H
      have p190 : 0 ≤ (x17_1 : Int):=of_decide_eq_true asm
      have q190 : x17_1 < (l0.length : Int):=of_decide_eq_true asm
      obtain ⟨ad190,e190,hx190_0,hx190_1⟩:=at_T41 HR0.out x17_1 p190 q190
      cases e190
      replace hx190_0:=(HB.out.cell (World.block_lt_of_cell? w _ hx190_0)).trans hx190_0
      replace hx190_1:=(HB.out.cell (World.block_lt_of_cell? w _ hx190_1)).trans hx190_1
      replace p190:=eq_true p190
      replace q190:=eq_true q190
      go_wp2_with (first|((with_reducible refine gate_dst (N:=8) rfl ?_);refine box_event ?hg (N:=8) ?hd (cs:=#[.int .i64 0,.string (⟨#[]⟩ : ByteArray)]) (t:=41) ?hr ?_;(case hd=>rfl);(case hg=>rfl);(case hr=>first|(go_simp;done)|(go_simp;rfl));intro gb191 hg w10 hbox hb;have n0_:=m_ (l5_ (puL HB.out) hb);have n1_:=m_ (hbox);have n2_:=m_ ((by rw [hg];exact (l6_ (puL HB.out)) : w.heap.size ≤ gb191));have n3_:=m_ ((by rw [hg];exact (l6_ (puL HB.out)) : w.heap.size ≤ gb191));revert n0_ n1_ n2_ n3_;clear HB;intro HB BK191 GW191 GE191;clear hb hbox hg;have hcz11_0 : w10.cell? ⟨gb191,0,none⟩ = some (.int .i64 0):=(c_ BK191.out 0).trans rfl;have hcz11_1 : w10.cell? ⟨gb191,1,none⟩ = some (.string (⟨#[]⟩ : ByteArray)):=(c_ BK191.out 1).trans rfl;have hfz11_0:=f_ BK191.out 0;have hfz11_1:=f_ BK191.out 1;have p192 : 0 ≤ (x17_1 : Int):=of_decide_eq_true asm;have q192 : x17_1 < (l1.length : Int):=of_decide_eq_true asm;obtain ⟨ad192,e192,hx192_0,hx192_1,hx192_2,hx192_3⟩:=at_T45 HR1.out x17_1 p192 q192;cases e192;have hn192_0 : ad192.block ≠ gb191:=Nat.ne_of_lt (Nat.lt_of_lt_of_le (by have:=World.block_lt_of_cell? _ _ hx192_0;first|rwa [add_block] at this|exact this) GW191.out);have hn192_1 : ad192.block ≠ gb191:=Nat.ne_of_lt (Nat.lt_of_lt_of_le (by have:=World.block_lt_of_cell? _ _ hx192_0;first|rwa [add_block] at this|exact this) GW191.out);replace hx192_0:=(HB.out.cell (World.block_lt_of_cell? w _ hx192_0)).trans hx192_0;replace hx192_1:=(HB.out.cell (World.block_lt_of_cell? w _ hx192_1)).trans hx192_1;replace hx192_2:=(HB.out.cell (World.block_lt_of_cell? w _ hx192_2)).trans hx192_2;replace hx192_3:=(HB.out.cell (World.block_lt_of_cell? w _ hx192_3)).trans hx192_3;replace hx192_0:=(cell_far (p:=⟨gb191,0,none⟩) (by first|(rw [add_block];exact hn192_0)|(show (Addr.add _ _).block ≠ _;rw [add_block];exact hn192_0)|exact hn192_0) (.int .i64 ((rd_T41 l0 x17_1).f0))).trans hx192_0;replace hx192_1:=(cell_far (p:=⟨gb191,0,none⟩) (by first|(rw [add_block];exact hn192_0)|(show (Addr.add _ _).block ≠ _;rw [add_block];exact hn192_0)|exact hn192_0) (.int .i64 ((rd_T41 l0 x17_1).f0))).trans hx192_1;replace hx192_2:=(cell_far (p:=⟨gb191,0,none⟩) (by first|(rw [add_block];exact hn192_0)|(show (Addr.add _ _).block ≠ _;rw [add_block];exact hn192_0)|exact hn192_0) (.int .i64 ((rd_T41 l0 x17_1).f0))).trans hx192_2;replace hx192_3:=(cell_far (p:=⟨gb191,0,none⟩) (by first|(rw [add_block];exact hn192_0)|(show (Addr.add _ _).block ≠ _;rw [add_block];exact hn192_0)|exact hn192_0) (.int .i64 ((rd_T41 l0 x17_1).f0))).trans hx192_3;replace hx192_0:=(cell_far (p:=⟨gb191,1,none⟩) (by first|(rw [add_block];exact hn192_1)|(show (Addr.add _ _).block ≠ _;rw [add_block];exact hn192_1)|exact hn192_1) (.string ((rd_T41 l0 x17_1).f1))).trans hx192_0;replace hx192_1:=(cell_far (p:=⟨gb191,1,none⟩) (by first|(rw [add_block];exact hn192_1)|(show (Addr.add _ _).block ≠ _;rw [add_block];exact hn192_1)|exact hn192_1) (.string ((rd_T41 l0 x17_1).f1))).trans hx192_1;replace hx192_2:=(cell_far (p:=⟨gb191,1,none⟩) (by first|(rw [add_block];exact hn192_1)|(show (Addr.add _ _).block ≠ _;rw [add_block];exact hn192_1)|exact hn192_1) (.string ((rd_T41 l0 x17_1).f1))).trans hx192_2;replace hx192_3:=(cell_far (p:=⟨gb191,1,none⟩) (by first|(rw [add_block];exact hn192_1)|(show (Addr.add _ _).block ≠ _;rw [add_block];exact hn192_1)|exact hn192_1) (.string ((rd_T41 l0 x17_1).f1))).trans hx192_3;clear hn192_0;clear hn192_1;replace p192:=eq_true p192;replace q192:=eq_true q192)|((with_reducible refine gate_dst (N:=9) rfl ?_);refine box_event ?hg (N:=9) ?hd (cs:=#[.int .i64 0,.bool false,.int .i64 0,.int .i64 0]) (t:=45) ?hr ?_;(case hd=>rfl);(case hg=>rfl);(case hr=>first|(go_simp;done)|(go_simp;rfl));intro gb193 hg w12 hbox hb;have n0_:=m_ (blk_below (g:=gb191) (o:=.cells #[.int .i64 ((rd_T41 l0 x17_1).f0),.string ((rd_T41 l0 x17_1).f1)] 41 (0,0)) (by (with_reducible repeat first|apply b1_|apply b2_|apply b3_);refine blk_put (cs:=#[.int .i64 ((rd_T41 l0 x17_1).f0),.string (⟨#[]⟩ : ByteArray)]) ?_ 1 _ rfl;(with_reducible repeat first|apply b1_|apply b2_|apply b3_);refine blk_put (cs:=#[.int .i64 0,.string (⟨#[]⟩ : ByteArray)]) ?_ 0 _ rfl;(with_reducible repeat first|apply b1_|apply b2_|apply b3_);exact BK191.out) hb);have n1_:=m_ (l5_ (puM HB.out GE191.out) hb);have n2_:=m_ (hbox);have n3_:=m_ ((by rw [hg];exact (l6_ (puM HB.out GE191.out)) : w.heap.size ≤ gb193));have n4_:=n3_;have n5_:=m_ ((by rw [hg];exact Nat.ne_of_lt (blk_lt (g:=gb191) (o:=.cells #[.int .i64 ((rd_T41 l0 x17_1).f0),.string ((rd_T41 l0 x17_1).f1)] 41 (0,0)) (by (with_reducible repeat first|apply b1_|apply b2_|apply b3_);refine blk_put (cs:=#[.int .i64 ((rd_T41 l0 x17_1).f0),.string (⟨#[]⟩ : ByteArray)]) ?_ 1 _ rfl;(with_reducible repeat first|apply b1_|apply b2_|apply b3_);refine blk_put (cs:=#[.int .i64 0,.string (⟨#[]⟩ : ByteArray)]) ?_ 0 _ rfl;(with_reducible repeat first|apply b1_|apply b2_|apply b3_);exact BK191.out)) : gb191 ≠ gb193));have n6_:=m_ ((by rw [hg];exact Nat.ne_of_gt (blk_lt (g:=gb191) (o:=.cells #[.int .i64 ((rd_T41 l0 x17_1).f0),.string ((rd_T41 l0 x17_1).f1)] 41 (0,0)) (by (with_reducible repeat first|apply b1_|apply b2_|apply b3_);refine blk_put (cs:=#[.int .i64 ((rd_T41 l0 x17_1).f0),.string (⟨#[]⟩ : ByteArray)]) ?_ 1 _ rfl;(with_reducible repeat first|apply b1_|apply b2_|apply b3_);refine blk_put (cs:=#[.int .i64 0,.string (⟨#[]⟩ : ByteArray)]) ?_ 0 _ rfl;(with_reducible repeat first|apply b1_|apply b2_|apply b3_);exact BK191.out)) : gb193 ≠ gb191));revert n0_ n1_ n2_ n3_ n4_ n5_ n6_;clear BK191 HB;intro BK191 HB BK193 GW193 GE193 NB191_193 NB193_191;clear hb hbox hg;have hnb13:=NB193_191.out;have hnc13:=NB191_193.out;have hcz14_0 : w12.cell? ⟨gb193,0,none⟩ = some (.int .i64 0):=(c_ BK193.out 0).trans rfl;have hcz14_1 : w12.cell? ⟨gb193,1,none⟩ = some (.bool false):=(c_ BK193.out 1).trans rfl;have hcz14_2 : w12.cell? ⟨gb193,2,none⟩ = some (.int .i64 0):=(c_ BK193.out 2).trans rfl;have hcz14_3 : w12.cell? ⟨gb193,3,none⟩ = some (.int .i64 0):=(c_ BK193.out 3).trans rfl;have hfz14_0:=f_ BK193.out 0;have hfz14_1:=f_ BK193.out 1;have hfz14_2:=f_ BK193.out 2;have hfz14_3:=f_ BK193.out 3;have hcz15_0 : w12.cell? ⟨gb191,0,none⟩ = some (.int .i64 ((rd_T41 l0 x17_1).f0)):=(c_ BK191.out 0).trans rfl;have hcz15_1 : w12.cell? ⟨gb191,1,none⟩ = some (.string ((rd_T41 l0 x17_1).f1)):=(c_ BK191.out 1).trans rfl;have hfz15_0:=f_ BK191.out 0;have hfz15_1:=f_ BK191.out 1)|(go_at_call 28;(with_reducible refine (impl_StreamOk_1.calls ((rd_T41 l0 x17_1).f0) ((rd_T41 l0 x17_1).f1) ((rd_T45 l1 x17_1).f0) ((rd_T45 l1 x17_1).f1) ((rd_T45 l1 x17_1).f2.f0) ((rd_T45 l1 x17_1).f2.f1) true _ A8.out).mono ?_);rintro e w16 ⟨rfl,hb⟩;have n0_:=m_ (blk_below (g:=gb191) (o:=.cells #[.int .i64 ((rd_T41 l0 x17_1).f0),.string ((rd_T41 l0 x17_1).f1)] 41 (0,0)) (by (with_reducible repeat first|apply b1_|apply b2_|apply b3_);refine b4_ ?_ NB191_193.out _;(with_reducible repeat first|apply b1_|apply b2_|apply b3_);refine b4_ ?_ NB191_193.out _;(with_reducible repeat first|apply b1_|apply b2_|apply b3_);refine b4_ ?_ NB191_193.out _;(with_reducible repeat first|apply b1_|apply b2_|apply b3_);refine b4_ ?_ NB191_193.out _;(with_reducible repeat first|apply b1_|apply b2_|apply b3_);exact BK191.out) hb);have n1_:=m_ (blk_below (g:=gb193) (o:=.cells #[.int .i64 ((rd_T45 l1 x17_1).f0),.bool ((rd_T45 l1 x17_1).f1),.int .i64 ((rd_T45 l1 x17_1).f2.f0),.int .i64 ((rd_T45 l1 x17_1).f2.f1)] 45 (0,0)) (by (with_reducible repeat first|apply b1_|apply b2_|apply b3_);refine blk_put (cs:=#[.int .i64 ((rd_T45 l1 x17_1).f0),.bool ((rd_T45 l1 x17_1).f1),.int .i64 ((rd_T45 l1 x17_1).f2.f0),.int .i64 0]) ?_ 3 _ rfl;(with_reducible repeat first|apply b1_|apply b2_|apply b3_);refine blk_put (cs:=#[.int .i64 ((rd_T45 l1 x17_1).f0),.bool ((rd_T45 l1 x17_1).f1),.int .i64 0,.int .i64 0]) ?_ 2 _ rfl;(with_reducible repeat first|apply b1_|apply b2_|apply b3_);refine blk_put (cs:=#[.int .i64 ((rd_T45 l1 x17_1).f0),.bool false,.int .i64 0,.int .i64 0]) ?_ 1 _ rfl;(with_reducible repeat first|apply b1_|apply b2_|apply b3_);refine blk_put (cs:=#[.int .i64 0,.bool false,.int .i64 0,.int .i64 0]) ?_ 0 _ rfl;(with_reducible repeat first|apply b1_|apply b2_|apply b3_);exact BK193.out) hb);have n2_:=m_ (l5_ (puN HB.out GE191.out GE193.out) hb);revert n0_ n1_ n2_;clear BK191 BK193 HB;intro BK191 BK193 HB;(try clear hb);(try clear hb2);(try clear hk);(try clear hi)))
      go_roundg k1
      case measure=>have:=HK1.out;omega
      case rel=>exact ⟨(wrap64 (x17_1 + 1)),(by first|rfl|(simp;done)|(simp [*];done)),H',⟨by have:=HK1.out;omega⟩,⟨puN HB.out GE191.out GE193.out⟩⟩
     ·replace c9:=Bool.eq_false_iff.mpr c9
      subst c9
      have H1 : (some false) = some r:=by rw [if_neg (show ¬ (false = true) by decide)] at H;exact H
      clear H
      have H:=H1
      clear H1
      obtain rfl:=Option.some.inj H
      have p190 : 0 ≤ (x17_1 : Int):=of_decide_eq_true asm
      have q190 : x17_1 < (l0.length : Int):=of_decide_eq_true asm
      obtain ⟨ad190,e190,hx190_0,hx190_1⟩:=at_T41 HR0.out x17_1 p190 q190
      cases e190
      replace hx190_0:=(HB.out.cell (World.block_lt_of_cell? w _ hx190_0)).trans hx190_0
      replace hx190_1:=(HB.out.cell (World.block_lt_of_cell? w _ hx190_1)).trans hx190_1
      replace p190:=eq_true p190
      replace q190:=eq_true q190
      go_wp2_with (first|((with_reducible refine gate_dst (N:=8) rfl ?_);refine box_event ?hg (N:=8) ?hd (cs:=#[.int .i64 0,.string (⟨#[]⟩ : ByteArray)]) (t:=41) ?hr ?_;(case hd=>rfl);(case hg=>rfl);(case hr=>first|(go_simp;done)|(go_simp;rfl));intro gb191 hg w17 hbox hb;have n0_:=m_ (l5_ (puL HB.out) hb);have n1_:=m_ (hbox);have n2_:=m_ ((by rw [hg];exact (l6_ (puL HB.out)) : w.heap.size ≤ gb191));have n3_:=m_ ((by rw [hg];exact (l6_ (puL HB.out)) : w.heap.size ≤ gb191));revert n0_ n1_ n2_ n3_;clear HB;intro HB BK191 GW191 GE191;clear hb hbox hg;have hcz18_0 : w17.cell? ⟨gb191,0,none⟩ = some (.int .i64 0):=(c_ BK191.out 0).trans rfl;have hcz18_1 : w17.cell? ⟨gb191,1,none⟩ = some (.string (⟨#[]⟩ : ByteArray)):=(c_ BK191.out 1).trans rfl;have hfz18_0:=f_ BK191.out 0;have hfz18_1:=f_ BK191.out 1;have p192 : 0 ≤ (x17_1 : Int):=of_decide_eq_true asm;have q192 : x17_1 < (l1.length : Int):=of_decide_eq_true asm;obtain ⟨ad192,e192,hx192_0,hx192_1,hx192_2,hx192_3⟩:=at_T45 HR1.out x17_1 p192 q192;cases e192;have hn192_0 : ad192.block ≠ gb191:=Nat.ne_of_lt (Nat.lt_of_lt_of_le (by have:=World.block_lt_of_cell? _ _ hx192_0;first|rwa [add_block] at this|exact this) GW191.out);have hn192_1 : ad192.block ≠ gb191:=Nat.ne_of_lt (Nat.lt_of_lt_of_le (by have:=World.block_lt_of_cell? _ _ hx192_0;first|rwa [add_block] at this|exact this) GW191.out);replace hx192_0:=(HB.out.cell (World.block_lt_of_cell? w _ hx192_0)).trans hx192_0;replace hx192_1:=(HB.out.cell (World.block_lt_of_cell? w _ hx192_1)).trans hx192_1;replace hx192_2:=(HB.out.cell (World.block_lt_of_cell? w _ hx192_2)).trans hx192_2;replace hx192_3:=(HB.out.cell (World.block_lt_of_cell? w _ hx192_3)).trans hx192_3;replace hx192_0:=(cell_far (p:=⟨gb191,0,none⟩) (by first|(rw [add_block];exact hn192_0)|(show (Addr.add _ _).block ≠ _;rw [add_block];exact hn192_0)|exact hn192_0) (.int .i64 ((rd_T41 l0 x17_1).f0))).trans hx192_0;replace hx192_1:=(cell_far (p:=⟨gb191,0,none⟩) (by first|(rw [add_block];exact hn192_0)|(show (Addr.add _ _).block ≠ _;rw [add_block];exact hn192_0)|exact hn192_0) (.int .i64 ((rd_T41 l0 x17_1).f0))).trans hx192_1;replace hx192_2:=(cell_far (p:=⟨gb191,0,none⟩) (by first|(rw [add_block];exact hn192_0)|(show (Addr.add _ _).block ≠ _;rw [add_block];exact hn192_0)|exact hn192_0) (.int .i64 ((rd_T41 l0 x17_1).f0))).trans hx192_2;replace hx192_3:=(cell_far (p:=⟨gb191,0,none⟩) (by first|(rw [add_block];exact hn192_0)|(show (Addr.add _ _).block ≠ _;rw [add_block];exact hn192_0)|exact hn192_0) (.int .i64 ((rd_T41 l0 x17_1).f0))).trans hx192_3;replace hx192_0:=(cell_far (p:=⟨gb191,1,none⟩) (by first|(rw [add_block];exact hn192_1)|(show (Addr.add _ _).block ≠ _;rw [add_block];exact hn192_1)|exact hn192_1) (.string ((rd_T41 l0 x17_1).f1))).trans hx192_0;replace hx192_1:=(cell_far (p:=⟨gb191,1,none⟩) (by first|(rw [add_block];exact hn192_1)|(show (Addr.add _ _).block ≠ _;rw [add_block];exact hn192_1)|exact hn192_1) (.string ((rd_T41 l0 x17_1).f1))).trans hx192_1;replace hx192_2:=(cell_far (p:=⟨gb191,1,none⟩) (by first|(rw [add_block];exact hn192_1)|(show (Addr.add _ _).block ≠ _;rw [add_block];exact hn192_1)|exact hn192_1) (.string ((rd_T41 l0 x17_1).f1))).trans hx192_2;replace hx192_3:=(cell_far (p:=⟨gb191,1,none⟩) (by first|(rw [add_block];exact hn192_1)|(show (Addr.add _ _).block ≠ _;rw [add_block];exact hn192_1)|exact hn192_1) (.string ((rd_T41 l0 x17_1).f1))).trans hx192_3;clear hn192_0;clear hn192_1;replace p192:=eq_true p192;replace q192:=eq_true q192)|((with_reducible refine gate_dst (N:=9) rfl ?_);refine box_event ?hg (N:=9) ?hd (cs:=#[.int .i64 0,.bool false,.int .i64 0,.int .i64 0]) (t:=45) ?hr ?_;(case hd=>rfl);(case hg=>rfl);(case hr=>first|(go_simp;done)|(go_simp;rfl));intro gb193 hg w19 hbox hb;have n0_:=m_ (blk_below (g:=gb191) (o:=.cells #[.int .i64 ((rd_T41 l0 x17_1).f0),.string ((rd_T41 l0 x17_1).f1)] 41 (0,0)) (by (with_reducible repeat first|apply b1_|apply b2_|apply b3_);refine blk_put (cs:=#[.int .i64 ((rd_T41 l0 x17_1).f0),.string (⟨#[]⟩ : ByteArray)]) ?_ 1 _ rfl;(with_reducible repeat first|apply b1_|apply b2_|apply b3_);refine blk_put (cs:=#[.int .i64 0,.string (⟨#[]⟩ : ByteArray)]) ?_ 0 _ rfl;(with_reducible repeat first|apply b1_|apply b2_|apply b3_);exact BK191.out) hb);have n1_:=m_ (l5_ (puM HB.out GE191.out) hb);have n2_:=m_ (hbox);have n3_:=m_ ((by rw [hg];exact (l6_ (puM HB.out GE191.out)) : w.heap.size ≤ gb193));have n4_:=n3_;have n5_:=m_ ((by rw [hg];exact Nat.ne_of_lt (blk_lt (g:=gb191) (o:=.cells #[.int .i64 ((rd_T41 l0 x17_1).f0),.string ((rd_T41 l0 x17_1).f1)] 41 (0,0)) (by (with_reducible repeat first|apply b1_|apply b2_|apply b3_);refine blk_put (cs:=#[.int .i64 ((rd_T41 l0 x17_1).f0),.string (⟨#[]⟩ : ByteArray)]) ?_ 1 _ rfl;(with_reducible repeat first|apply b1_|apply b2_|apply b3_);refine blk_put (cs:=#[.int .i64 0,.string (⟨#[]⟩ : ByteArray)]) ?_ 0 _ rfl;(with_reducible repeat first|apply b1_|apply b2_|apply b3_);exact BK191.out)) : gb191 ≠ gb193));have n6_:=m_ ((by rw [hg];exact Nat.ne_of_gt (blk_lt (g:=gb191) (o:=.cells #[.int .i64 ((rd_T41 l0 x17_1).f0),.string ((rd_T41 l0 x17_1).f1)] 41 (0,0)) (by (with_reducible repeat first|apply b1_|apply b2_|apply b3_);refine blk_put (cs:=#[.int .i64 ((rd_T41 l0 x17_1).f0),.string (⟨#[]⟩ : ByteArray)]) ?_ 1 _ rfl;(with_reducible repeat first|apply b1_|apply b2_|apply b3_);refine blk_put (cs:=#[.int .i64 0,.string (⟨#[]⟩ : ByteArray)]) ?_ 0 _ rfl;(with_reducible repeat first|apply b1_|apply b2_|apply b3_);exact BK191.out)) : gb193 ≠ gb191));revert n0_ n1_ n2_ n3_ n4_ n5_ n6_;clear BK191 HB;intro BK191 HB BK193 GW193 GE193 NB191_193 NB193_191;clear hb hbox hg;have hnb20:=NB193_191.out;have hnc20:=NB191_193.out;have hcz21_0 : w19.cell? ⟨gb193,0,none⟩ = some (.int .i64 0):=(c_ BK193.out 0).trans rfl;have hcz21_1 : w19.cell? ⟨gb193,1,none⟩ = some (.bool false):=(c_ BK193.out 1).trans rfl;have hcz21_2 : w19.cell? ⟨gb193,2,none⟩ = some (.int .i64 0):=(c_ BK193.out 2).trans rfl;have hcz21_3 : w19.cell? ⟨gb193,3,none⟩ = some (.int .i64 0):=(c_ BK193.out 3).trans rfl;have hfz21_0:=f_ BK193.out 0;have hfz21_1:=f_ BK193.out 1;have hfz21_2:=f_ BK193.out 2;have hfz21_3:=f_ BK193.out 3;have hcz22_0 : w19.cell? ⟨gb191,0,none⟩ = some (.int .i64 ((rd_T41 l0 x17_1).f0)):=(c_ BK191.out 0).trans rfl;have hcz22_1 : w19.cell? ⟨gb191,1,none⟩ = some (.string ((rd_T41 l0 x17_1).f1)):=(c_ BK191.out 1).trans rfl;have hfz22_0:=f_ BK191.out 0;have hfz22_1:=f_ BK191.out 1)|(go_at_call 28;(with_reducible refine (impl_StreamOk_1.calls ((rd_T41 l0 x17_1).f0) ((rd_T41 l0 x17_1).f1) ((rd_T45 l1 x17_1).f0) ((rd_T45 l1 x17_1).f1) ((rd_T45 l1 x17_1).f2.f0) ((rd_T45 l1 x17_1).f2.f1) false _ A8.out).mono ?_);rintro e w23 ⟨rfl,hb⟩;have n0_:=m_ (blk_below (g:=gb191) (o:=.cells #[.int .i64 ((rd_T41 l0 x17_1).f0),.string ((rd_T41 l0 x17_1).f1)] 41 (0,0)) (by (with_reducible repeat first|apply b1_|apply b2_|apply b3_);refine b4_ ?_ NB191_193.out _;(with_reducible repeat first|apply b1_|apply b2_|apply b3_);refine b4_ ?_ NB191_193.out _;(with_reducible repeat first|apply b1_|apply b2_|apply b3_);refine b4_ ?_ NB191_193.out _;(with_reducible repeat first|apply b1_|apply b2_|apply b3_);refine b4_ ?_ NB191_193.out _;(with_reducible repeat first|apply b1_|apply b2_|apply b3_);exact BK191.out) hb);have n1_:=m_ (blk_below (g:=gb193) (o:=.cells #[.int .i64 ((rd_T45 l1 x17_1).f0),.bool ((rd_T45 l1 x17_1).f1),.int .i64 ((rd_T45 l1 x17_1).f2.f0),.int .i64 ((rd_T45 l1 x17_1).f2.f1)] 45 (0,0)) (by (with_reducible repeat first|apply b1_|apply b2_|apply b3_);refine blk_put (cs:=#[.int .i64 ((rd_T45 l1 x17_1).f0),.bool ((rd_T45 l1 x17_1).f1),.int .i64 ((rd_T45 l1 x17_1).f2.f0),.int .i64 0]) ?_ 3 _ rfl;(with_reducible repeat first|apply b1_|apply b2_|apply b3_);refine blk_put (cs:=#[.int .i64 ((rd_T45 l1 x17_1).f0),.bool ((rd_T45 l1 x17_1).f1),.int .i64 0,.int .i64 0]) ?_ 2 _ rfl;(with_reducible repeat first|apply b1_|apply b2_|apply b3_);refine blk_put (cs:=#[.int .i64 ((rd_T45 l1 x17_1).f0),.bool false,.int .i64 0,.int .i64 0]) ?_ 1 _ rfl;(with_reducible repeat first|apply b1_|apply b2_|apply b3_);refine blk_put (cs:=#[.int .i64 0,.bool false,.int .i64 0,.int .i64 0]) ?_ 0 _ rfl;(with_reducible repeat first|apply b1_|apply b2_|apply b3_);exact BK193.out) hb);have n2_:=m_ (l5_ (puN HB.out GE191.out GE193.out) hb);revert n0_ n1_ n2_;clear BK191 BK193 HB;intro BK191 BK193 HB;(try clear hb);(try clear hb2);(try clear hk);(try clear hi)))
      go_ret
      exact ⟨eqs,puN HB.out GE191.out GE193.out⟩
    ·rw [if_neg c4] at H
     have c4b0 : decide (x17_1 < (l0.length : Int)) = false:=decide_eq_false c4
     clear c4
     obtain rfl:=Option.some.inj H
     go_wp2
     go_ret
     exact ⟨eqs,puL HB.out⟩
 ·rw [if_neg c3] at H
  have c3b0 : ((l0.length : Int) == (l1.length : Int)) = false:=beq_eq_false_iff_ne.mpr c3
  have c3b1 : ((l0.length : Int) != (l1.length : Int)) = true:=bne_iff_ne.mpr c3
  have c3b2 : (l0.length == l1.length) = false:=by first|simpa using c3|(simp at c3 ⊢;omega)
  obtain rfl:=Option.some.inj H
  go_enter Tryd.func26,Tryd.ntmps26
  go_wp2
  go_ret
  exact ⟨eqs,puL HB.out⟩

/-! ### impl_beginning: function 59 -/
/-- May this byte stand at this place of a name's beginning. -/
def begb (i : Nat) (c : Int) : Bool := if i = 0 then c == 64 else if i = 1 ∨ i = 3 then decide (49 ≤ c ∧ c ≤ 57) else if i = 2 then c == 58 else if i = 4 then decide (48 ≤ c ∧ c ≤ 57) else false
def impl_beginning.f (a0 : ByteArray) : Option (Bool) := if a0.size ≤ 140737488355328 then some ((List.range a0.size).all fun i => begb i (bt a0 i)) else none
theorem beg_cell (s : ByteArray) (k : Nat) (h : k < s.size) : ((s.data.toList.getD k 0).toNat : Int) = bt s k := by
 have h' : k < s.data.toList.length:=by rw [data_length];exact h
 simp [bt,h,List.getD_eq_getElem?_getD,List.getElem?_eq_getElem h']
 rfl
set_option maxHeartbeats 4000000 in
set_option maxRecDepth 100000 in
theorem impl_beginning.calls (a0 : ByteArray) (r : Bool) (w : World) (h : impl_beginning.f a0 = some r) :
  Calls Tryd.prog 59 #[.string a0] w fun e w'=>e = .returned (.bool r) ∧ Below w.heap.size w w':=by
 unfold impl_beginning.f at h
 by_cases hs : a0.size ≤ 140737488355328
 ·rw [if_pos hs] at h
  have HR:=m_ (Option.some.inj h)
  clear h
  have kb:=fun W=>print_bytes (P:=Tryd.prog) 9 36 5 Tryd.underlying9 Tryd.underlying36 Tryd.underlying5 a0 W
  go_enter Tryd.func59,Tryd.ntmps59
  go_wp2
  go_loopw [9] (fun i wr=>∃ k : Nat,k ≤ a0.size ∧ i = .int .i64 k ∧ Aside0 (∀ j : Nat,j < k → begb j (bt a0 j) = true) ∧ Aside0 (Drawn0 (Lib.bytesWorld w 5 a0) wr)) (fun i _=>a0.size - (intOf i).toNat)
  case atStart=>exact ⟨0,Nat.zero_le _,rfl,⟨fun j hj=>absurd hj (Nat.not_lt_zero _)⟩,⟨Drawn0.refl _⟩⟩
  case round =>
   obtain ⟨k,hk,rfl,hall,hd⟩:=hrel
   have hb:=bt_range a0 k
   by_cases hlt : k < a0.size
   ·have hcell : wr.cell? ⟨w.heap.size,k,none⟩ = some (.int .u8 (bt a0 k)):=by
     obtain ⟨⟨m,rfl⟩⟩:=hd.out
     show (Lib.bytesWorld w 5 a0).cell? _ = _
     rw [Lib.bytesWorld_cell w 5 a0 k hlt,beg_cell a0 k hlt]
    have hnext:=fun (h1 : begb k (bt a0 k) = true)=>m_ (show ∀ j : Nat,j < k + 1 → begb j (bt a0 j) = true from fun j hj=>by
     by_cases e : j = k
     ·subst e;exact h1
     ·exact hall.out j (by omega))
    have hbad:=fun (h1 : begb k (bt a0 k) = false)=>m_ (show ((List.range a0.size).all fun i=>begb i (bt a0 i)) = false from by
     rw [List.all_eq_false]
     exact ⟨k,List.mem_range.2 hlt,by rw [h1];decide⟩)
    generalize bt a0 k = c at hb hcell hnext hbad
    clear hall
    by_cases k0 : k = 0
    ·have hbb : begb k c = (c == 64):=by subst k0;rfl
     have e0 : ((k : Int) == 0) = true:=beq_iff_eq.2 (by omega)
     have e1 : ((k : Int) == 1) = false:=beq_eq_false_iff_ne.2 (by omega)
     have e3 : ((k : Int) == 3) = false:=beq_eq_false_iff_ne.2 (by omega)
     have e2 : ((k : Int) == 2) = false:=beq_eq_false_iff_ne.2 (by omega)
     have e4 : ((k : Int) == 4) = false:=beq_eq_false_iff_ne.2 (by omega)
     clear k0
     by_cases d : c = 64
     ·have hn:=hnext (by rw [hbb];exact beq_iff_eq.2 d)
      clear hnext hbad hbb
      have d1 : (c == 64) = true:=beq_iff_eq.2 d
      clear d
      go_wp2
      go_roundw
      case rel=>exact ⟨k + 1,by omega,by go_num,hn,⟨hd.out⟩⟩
      case measure=>simp [intOf];omega
     ·obtain rfl : r = false:=by rw [← HR.out];exact (hbad (by rw [hbb];exact beq_eq_false_iff_ne.2 d)).out
      clear hnext hbad hbb
      have d1 : (c == 64) = false:=beq_eq_false_iff_ne.2 d
      clear d
      go_wp2
      go_ret
      exact ⟨rfl,(bytes_below (Below.refl w.heap.size w) (Nat.le_refl _) 5 a0).trans ((hd.out).below.mono (by rw [Lib.bytesWorld_size];omega))⟩
    ·skip
     by_cases k1 : k = 1
     ·have hbb : begb k c = decide (49 ≤ c ∧ c ≤ 57):=by subst k1;rfl
      have e0 : ((k : Int) == 0) = false:=beq_eq_false_iff_ne.2 (by omega)
      have e1 : ((k : Int) == 1) = true:=beq_iff_eq.2 (by omega)
      have e3 : ((k : Int) == 3) = false:=beq_eq_false_iff_ne.2 (by omega)
      have e2 : ((k : Int) == 2) = false:=beq_eq_false_iff_ne.2 (by omega)
      have e4 : ((k : Int) == 4) = false:=beq_eq_false_iff_ne.2 (by omega)
      clear k0 k1
      by_cases d : 49 ≤ c ∧ c ≤ 57
      ·have hn:=hnext (by rw [hbb];exact decide_eq_true d)
       clear hnext hbad hbb
       have HF:=m_ (show impl_figure.f c 49 = some true by unfold impl_figure.f;rw [if_pos d.1,decide_eq_true d.2])
       clear d
       go_wp2_with (go_at_call 44;refine (impl_figure.calls c 49 true _ HF.out).mono ?_;rintro e w' ⟨rfl,⟨nd,rfl⟩⟩)
       go_roundw
       case rel=>exact ⟨k + 1,by omega,by go_num,hn,⟨hd.out.step nd⟩⟩
       case measure=>simp [intOf];omega
      ·obtain rfl : r = false:=by rw [← HR.out];exact (hbad (by rw [hbb];exact decide_eq_false d)).out
       clear hnext hbad hbb
       have HF:=m_ (show impl_figure.f c 49 = some false by
        unfold impl_figure.f
        by_cases e : c ≥ 49
        ·rw [if_pos e,decide_eq_false (by omega)]
        ·rw [if_neg e])
       clear d
       go_wp2_with (go_at_call 44;refine (impl_figure.calls c 49 false _ HF.out).mono ?_;rintro e w' ⟨rfl,⟨nd,rfl⟩⟩)
       go_ret
       exact ⟨rfl,(bytes_below (Below.refl w.heap.size w) (Nat.le_refl _) 5 a0).trans ((hd.out.step nd).below.mono (by rw [Lib.bytesWorld_size];omega))⟩
     ·skip
      by_cases k2 : k = 2
      ·have hbb : begb k c = (c == 58):=by subst k2;rfl
       have e0 : ((k : Int) == 0) = false:=beq_eq_false_iff_ne.2 (by omega)
       have e1 : ((k : Int) == 1) = false:=beq_eq_false_iff_ne.2 (by omega)
       have e3 : ((k : Int) == 3) = false:=beq_eq_false_iff_ne.2 (by omega)
       have e2 : ((k : Int) == 2) = true:=beq_iff_eq.2 (by omega)
       have e4 : ((k : Int) == 4) = false:=beq_eq_false_iff_ne.2 (by omega)
       clear k0 k1 k2
       by_cases d : c = 58
       ·have hn:=hnext (by rw [hbb];exact beq_iff_eq.2 d)
        clear hnext hbad hbb
        have d1 : (c == 58) = true:=beq_iff_eq.2 d
        clear d
        go_wp2
        go_roundw
        case rel=>exact ⟨k + 1,by omega,by go_num,hn,⟨hd.out⟩⟩
        case measure=>simp [intOf];omega
       ·obtain rfl : r = false:=by rw [← HR.out];exact (hbad (by rw [hbb];exact beq_eq_false_iff_ne.2 d)).out
        clear hnext hbad hbb
        have d1 : (c == 58) = false:=beq_eq_false_iff_ne.2 d
        clear d
        go_wp2
        go_ret
        exact ⟨rfl,(bytes_below (Below.refl w.heap.size w) (Nat.le_refl _) 5 a0).trans ((hd.out).below.mono (by rw [Lib.bytesWorld_size];omega))⟩
      ·skip
       by_cases k3 : k = 3
       ·have hbb : begb k c = decide (49 ≤ c ∧ c ≤ 57):=by subst k3;rfl
        have e0 : ((k : Int) == 0) = false:=beq_eq_false_iff_ne.2 (by omega)
        have e1 : ((k : Int) == 1) = false:=beq_eq_false_iff_ne.2 (by omega)
        have e3 : ((k : Int) == 3) = true:=beq_iff_eq.2 (by omega)
        have e2 : ((k : Int) == 2) = false:=beq_eq_false_iff_ne.2 (by omega)
        have e4 : ((k : Int) == 4) = false:=beq_eq_false_iff_ne.2 (by omega)
        clear k0 k1 k2 k3
        by_cases d : 49 ≤ c ∧ c ≤ 57
        ·have hn:=hnext (by rw [hbb];exact decide_eq_true d)
         clear hnext hbad hbb
         have HF:=m_ (show impl_figure.f c 49 = some true by unfold impl_figure.f;rw [if_pos d.1,decide_eq_true d.2])
         clear d
         go_wp2_with (go_at_call 44;refine (impl_figure.calls c 49 true _ HF.out).mono ?_;rintro e w' ⟨rfl,⟨nd,rfl⟩⟩)
         go_roundw
         case rel=>exact ⟨k + 1,by omega,by go_num,hn,⟨hd.out.step nd⟩⟩
         case measure=>simp [intOf];omega
        ·obtain rfl : r = false:=by rw [← HR.out];exact (hbad (by rw [hbb];exact decide_eq_false d)).out
         clear hnext hbad hbb
         have HF:=m_ (show impl_figure.f c 49 = some false by
          unfold impl_figure.f
          by_cases e : c ≥ 49
          ·rw [if_pos e,decide_eq_false (by omega)]
          ·rw [if_neg e])
         clear d
         go_wp2_with (go_at_call 44;refine (impl_figure.calls c 49 false _ HF.out).mono ?_;rintro e w' ⟨rfl,⟨nd,rfl⟩⟩)
         go_ret
         exact ⟨rfl,(bytes_below (Below.refl w.heap.size w) (Nat.le_refl _) 5 a0).trans ((hd.out.step nd).below.mono (by rw [Lib.bytesWorld_size];omega))⟩
       ·skip
        by_cases k4 : k = 4
        ·have hbb : begb k c = decide (48 ≤ c ∧ c ≤ 57):=by subst k4;rfl
         have e0 : ((k : Int) == 0) = false:=beq_eq_false_iff_ne.2 (by omega)
         have e1 : ((k : Int) == 1) = false:=beq_eq_false_iff_ne.2 (by omega)
         have e3 : ((k : Int) == 3) = false:=beq_eq_false_iff_ne.2 (by omega)
         have e2 : ((k : Int) == 2) = false:=beq_eq_false_iff_ne.2 (by omega)
         have e4 : ((k : Int) == 4) = true:=beq_iff_eq.2 (by omega)
         clear k0 k1 k2 k3 k4
         by_cases d : 48 ≤ c ∧ c ≤ 57
         ·have hn:=hnext (by rw [hbb];exact decide_eq_true d)
          clear hnext hbad hbb
          have HF:=m_ (show impl_figure.f c 48 = some true by unfold impl_figure.f;rw [if_pos d.1,decide_eq_true d.2])
          clear d
          go_wp2_with (go_at_call 44;refine (impl_figure.calls c 48 true _ HF.out).mono ?_;rintro e w' ⟨rfl,⟨nd,rfl⟩⟩)
          go_roundw
          case rel=>exact ⟨k + 1,by omega,by go_num,hn,⟨hd.out.step nd⟩⟩
          case measure=>simp [intOf];omega
         ·obtain rfl : r = false:=by rw [← HR.out];exact (hbad (by rw [hbb];exact decide_eq_false d)).out
          clear hnext hbad hbb
          have HF:=m_ (show impl_figure.f c 48 = some false by
           unfold impl_figure.f
           by_cases e : c ≥ 48
           ·rw [if_pos e,decide_eq_false (by omega)]
           ·rw [if_neg e])
          clear d
          go_wp2_with (go_at_call 44;refine (impl_figure.calls c 48 false _ HF.out).mono ?_;rintro e w' ⟨rfl,⟨nd,rfl⟩⟩)
          go_ret
          exact ⟨rfl,(bytes_below (Below.refl w.heap.size w) (Nat.le_refl _) 5 a0).trans ((hd.out.step nd).below.mono (by rw [Lib.bytesWorld_size];omega))⟩
        ·skip
         have hbb : begb k c = false:=by unfold begb;rw [if_neg k0,if_neg (by omega),if_neg k2,if_neg k4]
         have e0 : ((k : Int) == 0) = false:=beq_eq_false_iff_ne.2 (by omega)
         have e1 : ((k : Int) == 1) = false:=beq_eq_false_iff_ne.2 (by omega)
         have e3 : ((k : Int) == 3) = false:=beq_eq_false_iff_ne.2 (by omega)
         have e2 : ((k : Int) == 2) = false:=beq_eq_false_iff_ne.2 (by omega)
         have e4 : ((k : Int) == 4) = false:=beq_eq_false_iff_ne.2 (by omega)
         clear k0 k1 k2 k3 k4
         obtain rfl : r = false:=by rw [← HR.out];exact (hbad hbb).out
         clear hnext hbad hbb
         go_wp2
         go_ret
         exact ⟨rfl,(bytes_below (Below.refl w.heap.size w) (Nat.le_refl _) 5 a0).trans ((hd.out).below.mono (by rw [Lib.bytesWorld_size];omega))⟩
   ·have hk2 : k = a0.size:=by omega
    have hfin : Aside0 (r = true):=⟨by
     rw [← HR.out,List.all_eq_true]
     intro x hx
     exact hall.out x (by have:=List.mem_range.1 hx;omega)⟩
    clear hall hk2
    obtain rfl:=hfin.out
    clear hfin
    go_wp2
    go_ret
    exact ⟨rfl,(bytes_below (Below.refl w.heap.size w) (Nat.le_refl _) 5 a0).trans (hd.out.below.mono (by rw [Lib.bytesWorld_size];omega))⟩
 ·rw [if_neg hs] at h;cases h

/-! ### impl_held: function 45 -/
def impl_held.l0 : Nat → ByteArray → Int → Option (Int)
 | 0, _, _ => none
 | k + 1, x0, x3 => if x3 > 0 then (if 0 ≤ (wrap64 ((x0.size : Int) - x3)) then (if (wrap64 ((x0.size : Int) - x3)) ≤ (x0.size : Int) then ((impl_beginning.f (x0.extract ((wrap64 ((x0.size : Int) - x3)) : Int).toNat x0.size)).bind fun t195 => (if t195 = true then (some x3) else (impl_held.l0 k x0 (wrap64 (x3 - 1))))) else (none)) else (none)) else (some 0)
def impl_held.f (k : Nat) (a0 : ByteArray) : Option (Int) := impl_held.l0 k a0 (mn 5 (a0.size : Int))
theorem impl_held.mono_l : ∀ k, (∀ y0 y1, LeO (impl_held.l0 k y0 y1) (impl_held.l0 (k + 1) y0 y1))
 | 0 => fun _ _ r h => by simp [impl_held.l0] at h
 | k + 1 => by
  have ih0:=impl_held.mono_l k
  ·intro y0 y1
   unfold impl_held.l0
   repeat' first
   | (with_reducible exact ih0 _ _)
   | (with_reducible exact LeO.refl _)
   | (with_reducible exact LeO.none _)
   | (with_reducible refine LeO.ite ?_ ?_)
   | (with_reducible refine LeO.bind ?_ (fun _ => ?_))
   | exact ih0 _ _
   | exact LeO.none _
   | refine LeO.ite ?_ ?_
   | refine LeO.bind ?_ (fun _ => ?_)
theorem impl_held.mono : ∀ a0 k, LeO (impl_held.f k a0) (impl_held.f (k + 1) a0) := by
 intro a0 k
 have ih0:=impl_held.mono_l k
 unfold impl_held.f
 repeat' first
   | (with_reducible exact ih0 _ _)
   | (with_reducible exact LeO.refl _)
   | (with_reducible exact LeO.none _)
   | (with_reducible refine LeO.ite ?_ ?_)
   | (with_reducible refine LeO.bind ?_ (fun _ => ?_))
   | exact ih0 _ _
   | exact LeO.none _
   | refine LeO.ite ?_ ?_
   | refine LeO.bind ?_ (fun _ => ?_)
theorem impl_held.calls (k : Nat) (a0 : ByteArray) (r : Int) (w : World) (h : impl_held.f k a0 = some r) :
  Calls Tryd.prog 45 #[.string a0] w fun e w'=>e = .returned (.int .i64 r) ∧ Below w.heap.size w w':=by
 have HB:=m_ (Below.refl w.heap.size w)
 have H : (impl_held.l0 k a0 (mn 5 (a0.size : Int))) = some r:=h
 clear h
 obtain ⟨ji2,hji2⟩ : ∃ j_ : Int,(mn 5 (a0.size : Int)) = j_:=⟨_,rfl⟩
 replace H : (impl_held.l0 k a0 ji2) = some r:=by first|(rw [hji2] at H;exact H)|(simp only [hji2] at H ⊢;exact H)
 (try (have hji2h : ji2 ≤ 5:=by (rw [← hji2];unfold mn;(repeat' split) <;> omega)))
 (try (have hji2g : ji2 ≤ 64:=by omega))
 (try (have hji2l : 0 ≤ ji2:=by (rw [← hji2];unfold mn;(repeat' split) <;> omega)))
 (try (have hji2m : 0 ≤ ji2:=by omega))
 have hji2_ : (if (a0.size : Int) < 5 then (a0.size : Int) else 5) = ji2:=hji2
 have H':=m_ H
 clear H
 go_enter Tryd.func45,Tryd.ntmps45
 go_wp2
 go_loopg [3] k (fun kq v3 w'=>∃ (x3_1 : Int),v3 = .int .i64 x3_1 ∧ Aside0 (impl_held.l0 kq a0 x3_1 = some r) ∧ Aside0 (kq ≤ k) ∧ Aside0 (Below w.heap.size w w'))
 case atStart=>exact ⟨(ji2),(by first|rfl|(simp;done)|(simp only [← hji2] <;> (first|rfl|simp))|(simp [*];done)),H',⟨Nat.le_refl _⟩,⟨puL HB.out⟩⟩
 case round =>
  clear H'
  try clear p2
  obtain ⟨x3_1,rfl,HA,HK1,HB⟩:=hrel
  cases gk with
  | zero => exact absurd HA.out (by simp [impl_held.l0])
  | succ k1 =>
   have H:=HA.out
   clear HA
   simp only [impl_held.l0] at H
   by_cases c3 : x3_1 > 0
   ·rw [if_pos c3] at H
    have c3b0 : decide (0 < x3_1) = true:=decide_eq_true c3
    clear c3
    obtain ⟨ji4,hji4⟩ : ∃ j_ : Int,(wrap64 ((a0.size : Int) - x3_1)) = j_:=⟨_,rfl⟩
    replace H : (if 0 ≤ (ji4) then (if (ji4) ≤ (a0.size : Int) then ((impl_beginning.f (a0.extract ((ji4) : Int).toNat a0.size)).bind fun t195=>(if t195 = true then (some x3_1) else (impl_held.l0 k1 a0 (wrap64 (x3_1 - 1))))) else (none)) else (none)) = some r:=by first|(rw [hji4] at H;exact H)|(simp only [hji4] at H ⊢;exact H)
    have hji4w : (IntKind.i64.wrap ((a0.size : Int) - x3_1)) = ji4:=(i64_w _).trans hji4
    by_cases c5 : 0 ≤ (ji4)
    rotate_left
    ·rw [if_neg c5] at H
     exact absurd H (by simp)
    rw [if_pos c5] at H
    have c5b0:=eq_true c5
    have c5b1:=decide_eq_true c5
    clear c5
    by_cases c6 : (ji4) ≤ (a0.size : Int)
    rotate_left
    ·rw [if_neg c6] at H
     exact absurd H (by simp)
    rw [if_pos c6] at H
    have c6b0:=eq_true c6
    have c6b1:=decide_eq_true c6
    clear c6
    replace H:=Option.bind_eq_some_iff.mp H
    obtain ⟨t195,A70,H⟩:=H
    replace H : (if t195 = true then (some x3_1) else (impl_held.l0 k1 a0 (wrap64 (x3_1 - 1)))) = some r:=H
    have A7:=m_ A70
    clear A70
    by_cases c8 : t195 = true
    ·subst c8
     have H1 : (some x3_1) = some r:=by rw [if_pos rfl] at H;exact H
     clear H
     have H:=H1
     clear H1
     obtain rfl:=Option.some.inj H
     go_wp2_with (first|((with_reducible refine gate_callee (f:=59) rfl ?_);refine goesL_ (some 17) rfl rfl Tryd.func59 (by kernel_rfl) rfl #[.string (a0.extract ((ji4) : Int).toNat a0.size)] rfl (by (try simp only [List.map_toArray,List.map_cons,List.map_nil]);first|done|(simp only [hji4];rfl)|rfl|(simp only [List.length_drop,List.length_take];rfl)) ?_;(with_reducible refine (impl_beginning.calls (a0.extract ((ji4) : Int).toNat a0.size) true _ A7.out).mono ?_);rintro e w9 ⟨rfl,hb⟩;refine ⟨_,rfl,?_⟩;have n0_:=m_ (l5_ (puL HB.out) hb);revert n0_;clear HB;intro HB;(try clear hb);(try clear hb2);(try clear hk);(try clear hi)))
     go_ret
     exact ⟨by first|rfl|(simp [e1_,e2_] <;> rfl)|(simp only [← hji2,← hji4];first|rfl|(simp [e1_,e2_] <;> rfl))|(simp [*,e1_,e2_] <;> rfl)|(simp [e1_,e2_,pk_empty1,pk_empty2];done)|(simp [*,e1_,e2_,pk_empty1,pk_empty2];done),puL HB.out⟩
    ·replace c8:=Bool.eq_false_iff.mpr c8
     subst c8
     have H1 : (impl_held.l0 k1 a0 (wrap64 (x3_1 - 1))) = some r:=by rw [if_neg (show ¬ (false = true) by decide)] at H;exact H
     clear H
     have H:=H1
     clear H1
     have H':=m_ H
     clear H
     go_wp2_with (first|((with_reducible refine gate_callee (f:=59) rfl ?_);refine goesL_ (some 17) rfl rfl Tryd.func59 (by kernel_rfl) rfl #[.string (a0.extract ((ji4) : Int).toNat a0.size)] rfl (by (try simp only [List.map_toArray,List.map_cons,List.map_nil]);first|done|(simp only [hji4];rfl)|rfl|(simp only [List.length_drop,List.length_take];rfl)) ?_;(with_reducible refine (impl_beginning.calls (a0.extract ((ji4) : Int).toNat a0.size) false _ A7.out).mono ?_);rintro e w10 ⟨rfl,hb⟩;refine ⟨_,rfl,?_⟩;have n0_:=m_ (l5_ (puL HB.out) hb);revert n0_;clear HB;intro HB;(try clear hb);(try clear hb2);(try clear hk);(try clear hi)))
     go_roundg k1
     case measure=>have:=HK1.out;omega
     case rel=>exact ⟨(wrap64 (x3_1 - 1)),(by first|rfl|(simp;done)|(simp [*];done)),H',⟨by have:=HK1.out;omega⟩,⟨puL HB.out⟩⟩
   ·rw [if_neg c3] at H
    have c3b0 : decide (0 < x3_1) = false:=decide_eq_false c3
    clear c3
    obtain rfl:=Option.some.inj H
    go_wp2
    go_ret
    exact ⟨by first|rfl|(simp [e1_,e2_] <;> rfl)|(simp only [← hji2];first|rfl|(simp [e1_,e2_] <;> rfl))|(simp [*,e1_,e2_] <;> rfl)|(simp [e1_,e2_,pk_empty1,pk_empty2];done)|(simp [*,e1_,e2_,pk_empty1,pk_empty2];done),puL HB.out⟩

/-! ### stringslite_HasPrefix: function 84 -/
def stringslite_HasPrefix.f (a0 : ByteArray) (a1 : ByteArray) : Option (Bool) := if (a0.size : Int) ≥ (a1.size : Int) then (if 0 ≤ (a1.size : Int) then (if (a1.size : Int) ≤ (a0.size : Int) then (some ((a0.extract 0 ((a1.size : Int) : Int).toNat).toList == a1.toList)) else (none)) else (none)) else (some false)
theorem stringslite_HasPrefix.calls (a0 : ByteArray) (a1 : ByteArray) (r : Bool) (w : World) (h : stringslite_HasPrefix.f a0 a1 = some r) :
  Calls Tryd.prog 84 #[.string a0,.string a1] w fun e w'=>e = .returned (.bool r) ∧ Drawn0 w w':=by
 have H : (if (a0.size : Int) ≥ (a1.size : Int) then (if 0 ≤ (a1.size : Int) then (if (a1.size : Int) ≤ (a0.size : Int) then (some ((a0.extract 0 ((a1.size : Int) : Int).toNat).toList == a1.toList)) else (none)) else (none)) else (some false)) = some r:=h
 clear h
 by_cases c3 : (a0.size : Int) ≥ (a1.size : Int)
 ·rw [if_pos c3] at H
  have c3b0 : decide ((a1.size : Int) ≤ (a0.size : Int)) = true:=decide_eq_true c3
  have c3b1 : decide (a1.size ≤ a0.size) = true:=decide_eq_true (Int.ofNat_le.mp c3)
  clear c3
  by_cases c4 : 0 ≤ (a1.size : Int)
  rotate_left
  ·rw [if_neg c4] at H
   exact absurd H (by simp)
  rw [if_pos c4] at H
  have c4b0:=eq_true c4
  have c4b1:=decide_eq_true c4
  clear c4
  by_cases c5 : (a1.size : Int) ≤ (a0.size : Int)
  ·rw [if_pos c5] at H
   have c5b0:=eq_true c5
   have c5b1:=decide_eq_true c5
   clear c5
   obtain rfl:=Option.some.inj H
   go_enter Tryd.func84,Tryd.ntmps84
   go_wp2
   go_ret
   exact ⟨by first|rfl|(simp;done)|(simp [*];done),drn⟩
  ·rw [if_neg c5] at H
   exact absurd H (by simp)
 ·rw [if_neg c3] at H
  have c3b0 : decide ((a1.size : Int) ≤ (a0.size : Int)) = false:=decide_eq_false c3
  have c3b1 : decide (a1.size ≤ a0.size) = false:=decide_eq_false (fun h=>c3 (Int.ofNat_le.mpr h))
  clear c3
  obtain rfl:=Option.some.inj H
  go_enter Tryd.func84,Tryd.ntmps84
  go_wp2
  go_ret
  exact ⟨by first|rfl|(simp;done)|(simp [*];done),drn⟩

/-! ### stringslite_CutPrefix: function 73 -/
def stringslite_CutPrefix.f (a0 : ByteArray) (a1 : ByteArray) : Option (ByteArray × Bool) := (stringslite_HasPrefix.f a0 a1).bind fun t196 => (if t196 = true then (if 0 ≤ (a1.size : Int) then (if (a1.size : Int) ≤ (a0.size : Int) then (some (a0.extract ((a1.size : Int) : Int).toNat a0.size, true)) else (none)) else (none)) else (some (a0, false)))
theorem stringslite_CutPrefix.calls (a0 : ByteArray) (a1 : ByteArray) (r1 : ByteArray) (r2 : Bool) (w : World) (h : stringslite_CutPrefix.f a0 a1 = some (r1, r2)) :
  Calls Tryd.prog 73 #[.string a0,.string a1] w fun e w'=>e = .returned (.tuple #[.string r1,.bool r2]) ∧ Drawn0 w w':=by
 have H : ((stringslite_HasPrefix.f a0 a1).bind fun t196=>(if t196 = true then (if 0 ≤ (a1.size : Int) then (if (a1.size : Int) ≤ (a0.size : Int) then (some (a0.extract ((a1.size : Int) : Int).toNat a0.size,true)) else (none)) else (none)) else (some (a0,false)))) = some (r1,r2):=h
 clear h
 replace H:=Option.bind_eq_some_iff.mp H
 obtain ⟨t196,A30,H⟩:=H
 replace H : (if t196 = true then (if 0 ≤ (a1.size : Int) then (if (a1.size : Int) ≤ (a0.size : Int) then (some (a0.extract ((a1.size : Int) : Int).toNat a0.size,true)) else (none)) else (none)) else (some (a0,false))) = some (r1,r2):=H
 have A3:=m_ A30
 clear A30
 by_cases c4 : t196 = true
 ·subst c4
  have H1 : (if 0 ≤ (a1.size : Int) then (if (a1.size : Int) ≤ (a0.size : Int) then (some (a0.extract ((a1.size : Int) : Int).toNat a0.size,true)) else (none)) else (none)) = some (r1,r2):=by rw [if_pos rfl] at H;exact H
  clear H
  have H:=H1
  clear H1
  by_cases c5 : 0 ≤ (a1.size : Int)
  rotate_left
  ·rw [if_neg c5] at H
   exact absurd H (by simp)
  rw [if_pos c5] at H
  have c5b0:=eq_true c5
  have c5b1:=decide_eq_true c5
  clear c5
  by_cases c6 : (a1.size : Int) ≤ (a0.size : Int)
  ·rw [if_pos c6] at H
   have c6b0:=eq_true c6
   have c6b1:=decide_eq_true c6
   clear c6
   simp only [Option.some.injEq,Prod.mk.injEq] at H
   obtain ⟨rfl,rfl⟩:=H
   go_enter Tryd.func73,Tryd.ntmps73
   go_wp2_with (first|((with_reducible refine gate_callee (f:=84) rfl ?_);refine goesL_ (some 8) rfl rfl Tryd.func84 (by kernel_rfl) rfl #[.string a0,.string a1] rfl lens ?_;(with_reducible refine (stringslite_HasPrefix.calls a0 a1 true _ A3.out).mono ?_);rintro e w' ⟨rfl,⟨nd,rfl⟩⟩;refine ⟨_,rfl,?_⟩))
   go_ret2
   exact ⟨by first|rfl|(simp;done)|(simp [*];done),drn⟩
  ·rw [if_neg c6] at H
   exact absurd H (by simp)
 ·replace c4:=Bool.eq_false_iff.mpr c4
  subst c4
  have H1 : (some (a0,false)) = some (r1,r2):=by rw [if_neg (show ¬ (false = true) by decide)] at H;exact H
  clear H
  have H:=H1
  clear H1
  simp only [Option.some.injEq,Prod.mk.injEq] at H
  obtain ⟨rfl,rfl⟩:=H
  go_enter Tryd.func73,Tryd.ntmps73
  go_wp2_with (first|((with_reducible refine gate_callee (f:=84) rfl ?_);refine goesL_ (some 8) rfl rfl Tryd.func84 (by kernel_rfl) rfl #[.string a0,.string a1] rfl lens ?_;(with_reducible refine (stringslite_HasPrefix.calls a0 a1 false _ A3.out).mono ?_);rintro e w' ⟨rfl,⟨nd,rfl⟩⟩;refine ⟨_,rfl,?_⟩))
  go_ret2
  exact ⟨by first|rfl|(simp;done)|(simp [*];done),drn⟩

/-! ### strings_CutPrefix: function 60 -/
def strings_CutPrefix.f (a0 : ByteArray) (a1 : ByteArray) : Option (ByteArray × Bool) := (stringslite_CutPrefix.f a0 a1).bind fun bt197 => (some (bt197.1, bt197.2))
theorem strings_CutPrefix.calls (a0 : ByteArray) (a1 : ByteArray) (r1 : ByteArray) (r2 : Bool) (w : World) (h : strings_CutPrefix.f a0 a1 = some (r1, r2)) :
  Calls Tryd.prog 60 #[.string a0,.string a1] w fun e w'=>e = .returned (.tuple #[.string r1,.bool r2]) ∧ Drawn0 w w':=by
 have H : ((stringslite_CutPrefix.f a0 a1).bind fun bt197=>(some (bt197.1,bt197.2))) = some (r1,r2):=h
 clear h
 replace H:=Option.bind_eq_some_iff.mp H
 obtain ⟨⟨t197,t198⟩,A30,H⟩:=H
 replace H : (some (t197,t198)) = some (r1,r2):=H
 have A3:=m_ A30
 clear A30
 simp only [Option.some.injEq,Prod.mk.injEq] at H
 obtain ⟨rfl,rfl⟩:=H
 go_enter Tryd.func60,Tryd.ntmps60
 go_wp2_with (first|((with_reducible refine gate_callee (f:=73) rfl ?_);refine goesL_ (some 8) rfl rfl Tryd.func73 (by kernel_rfl) rfl #[.string a0,.string a1] rfl lens ?_;(with_reducible refine (stringslite_CutPrefix.calls a0 a1 t197 t198 _ A3.out).mono ?_);rintro e w' ⟨rfl,⟨nd,rfl⟩⟩;refine ⟨_,rfl,?_⟩))
 go_ret2
 exact ⟨by first|rfl|(simp;done)|(simp [*];done),drn⟩

/-! ### stringslite_Index: function 90 -/
/-- The first place of one byte in a text; -1: nowhere. -/
def stringslite_Index.f (a0 a1 : ByteArray) : Option (Int) := if a1.size = 1 then some (Lib.indexByte a0.data.toList (a1.data.toList.headD 0)) else none
theorem stringslite_Index.calls (a0 a1 : ByteArray) (r : Int) (w : World) (h : stringslite_Index.f a0 a1 = some r) :
  Calls Tryd.prog 90 #[.string a0,.string a1] w fun e w'=>e = .returned (.int .i64 r) ∧ Below w.heap.size w w':=by
 unfold stringslite_Index.f at h
 by_cases hs : a1.size = 1
 ·rw [if_pos hs] at h
  obtain rfl:=Option.some.inj h
  have e : a1 = ⟨#[a1.data.toList.headD 0]⟩:=by
   obtain ⟨⟨l⟩⟩:=a1
   have hl : l.length = 1:=hs
   match l,hl with
   | [c], _ => rfl
  have:=Go.Proofs.Tryd.stringslite_Index_one a0 (a1.data.toList.headD 0) w
  rw [← e] at this
  refine this.mono ?_
  rintro e w' ⟨rfl,rfl⟩
  exact ⟨rfl,Below.refl _ _⟩
 ·rw [if_neg hs] at h;cases h

/-! ### stringslite_Cut: function 85 -/
def stringslite_Cut.f (a0 : ByteArray) (a1 : ByteArray) : Option (ByteArray × ByteArray × Bool) := (stringslite_Index.f a0 a1).bind fun t199 => (if t199 ≥ 0 then (if 0 ≤ t199 then (if t199 ≤ (a0.size : Int) then (if 0 ≤ (wrap64 (t199 + (a1.size : Int))) then (if (wrap64 (t199 + (a1.size : Int))) ≤ (a0.size : Int) then (some (a0.extract 0 (t199 : Int).toNat, a0.extract ((wrap64 (t199 + (a1.size : Int))) : Int).toNat a0.size, true)) else (none)) else (none)) else (none)) else (none)) else (some (a0, (⟨#[]⟩ : ByteArray), false)))
theorem stringslite_Cut.calls (a0 : ByteArray) (a1 : ByteArray) (r1 : ByteArray) (r2 : ByteArray) (r3 : Bool) (w : World) (h : stringslite_Cut.f a0 a1 = some (r1, r2, r3)) :
  Calls Tryd.prog 85 #[.string a0,.string a1] w fun e w'=>e = .returned (.tuple #[.string r1,.string r2,.bool r3]) ∧ Below w.heap.size w w':=by
 have HB:=m_ (Below.refl w.heap.size w)
 have H : ((stringslite_Index.f a0 a1).bind fun t199=>(if t199 ≥ 0 then (if 0 ≤ t199 then (if t199 ≤ (a0.size : Int) then (if 0 ≤ (wrap64 (t199 + (a1.size : Int))) then (if (wrap64 (t199 + (a1.size : Int))) ≤ (a0.size : Int) then (some (a0.extract 0 (t199 : Int).toNat,a0.extract ((wrap64 (t199 + (a1.size : Int))) : Int).toNat a0.size,true)) else (none)) else (none)) else (none)) else (none)) else (some (a0,(⟨#[]⟩ : ByteArray),false)))) = some (r1,r2,r3):=h
 clear h
 replace H:=Option.bind_eq_some_iff.mp H
 obtain ⟨t199,A30,H⟩:=H
 replace H : (if t199 ≥ 0 then (if 0 ≤ t199 then (if t199 ≤ (a0.size : Int) then (if 0 ≤ (wrap64 (t199 + (a1.size : Int))) then (if (wrap64 (t199 + (a1.size : Int))) ≤ (a0.size : Int) then (some (a0.extract 0 (t199 : Int).toNat,a0.extract ((wrap64 (t199 + (a1.size : Int))) : Int).toNat a0.size,true)) else (none)) else (none)) else (none)) else (none)) else (some (a0,(⟨#[]⟩ : ByteArray),false))) = some (r1,r2,r3):=H
 have A3:=m_ A30
 clear A30
 by_cases c4 : t199 ≥ 0
 ·rw [if_pos c4] at H
  have c4b0 : decide (0 ≤ t199) = true:=decide_eq_true c4
  clear c4
  by_cases c5 : 0 ≤ t199
  rotate_left
  ·rw [if_neg c5] at H
   exact absurd H (by simp)
  rw [if_pos c5] at H
  have c5b0:=eq_true c5
  have c5b1:=decide_eq_true c5
  clear c5
  by_cases c6 : t199 ≤ (a0.size : Int)
  rotate_left
  ·rw [if_neg c6] at H
   exact absurd H (by simp)
  rw [if_pos c6] at H
  have c6b0:=eq_true c6
  have c6b1:=decide_eq_true c6
  clear c6
  obtain ⟨ji7,hji7⟩ : ∃ j_ : Int,(wrap64 (t199 + (a1.size : Int))) = j_:=⟨_,rfl⟩
  replace H : (if 0 ≤ (ji7) then (if (ji7) ≤ (a0.size : Int) then (some (a0.extract 0 (t199 : Int).toNat,a0.extract ((ji7) : Int).toNat a0.size,true)) else (none)) else (none)) = some (r1,r2,r3):=by first|(rw [hji7] at H;exact H)|(simp only [hji7] at H ⊢;exact H)
  (try rw [hji7] at A3)
  have hji7w : (IntKind.i64.wrap (t199 + (a1.size : Int))) = ji7:=(i64_w _).trans hji7
  by_cases c8 : 0 ≤ (ji7)
  rotate_left
  ·rw [if_neg c8] at H
   exact absurd H (by simp)
  rw [if_pos c8] at H
  have c8b0:=eq_true c8
  have c8b1:=decide_eq_true c8
  clear c8
  by_cases c9 : (ji7) ≤ (a0.size : Int)
  ·rw [if_pos c9] at H
   have c9b0:=eq_true c9
   have c9b1:=decide_eq_true c9
   clear c9
   simp only [Option.some.injEq,Prod.mk.injEq] at H
   obtain ⟨rfl,rfl,rfl⟩:=H
   go_enter Tryd.func85,Tryd.ntmps85
   go_wp2_with (first|(go_at_call 90;(with_reducible refine (stringslite_Index.calls a0 a1 t199 _ A3.out).mono ?_);rintro e w10 ⟨rfl,hb⟩;have n0_:=m_ (l5_ (puL HB.out) hb);revert n0_;clear HB;intro HB;(try clear hb);(try clear hb2);(try clear hk);(try clear hi)))
   repeat (go_quiet (first|(go_at_call 90;(with_reducible refine (stringslite_Index.calls a0 a1 t199 _ A3.out).mono ?_);rintro e w10 ⟨rfl,hb⟩;have n0_:=m_ (l5_ (puL HB.out) hb);revert n0_;clear HB;intro HB;(try clear hb);(try clear hb2);(try clear hk);(try clear hi)));try go_wp2_with (first|(go_at_call 90;(with_reducible refine (stringslite_Index.calls a0 a1 t199 _ A3.out).mono ?_);rintro e w10 ⟨rfl,hb⟩;have n0_:=m_ (l5_ (puL HB.out) hb);revert n0_;clear HB;intro HB;(try clear hb);(try clear hb2);(try clear hk);(try clear hi))))
   go_ret3
   exact ⟨by first|rfl|(simp [e1_,e2_] <;> rfl)|(simp only [← hji7];first|rfl|(simp [e1_,e2_] <;> rfl))|(simp [*,e1_,e2_] <;> rfl)|(simp [e1_,e2_,pk_empty1,pk_empty2];done)|(simp [*,e1_,e2_,pk_empty1,pk_empty2];done),puL HB.out⟩
  ·rw [if_neg c9] at H
   exact absurd H (by simp)
 ·rw [if_neg c4] at H
  have c4b0 : decide (0 ≤ t199) = false:=decide_eq_false c4
  clear c4
  simp only [Option.some.injEq,Prod.mk.injEq] at H
  obtain ⟨rfl,rfl,rfl⟩:=H
  go_enter Tryd.func85,Tryd.ntmps85
  go_wp2_with (first|(go_at_call 90;(with_reducible refine (stringslite_Index.calls a0 a1 t199 _ A3.out).mono ?_);rintro e w11 ⟨rfl,hb⟩;have n0_:=m_ (l5_ (puL HB.out) hb);revert n0_;clear HB;intro HB;(try clear hb);(try clear hb2);(try clear hk);(try clear hi)))
  repeat (go_quiet (first|(go_at_call 90;(with_reducible refine (stringslite_Index.calls a0 a1 t199 _ A3.out).mono ?_);rintro e w11 ⟨rfl,hb⟩;have n0_:=m_ (l5_ (puL HB.out) hb);revert n0_;clear HB;intro HB;(try clear hb);(try clear hb2);(try clear hk);(try clear hi)));try go_wp2_with (first|(go_at_call 90;(with_reducible refine (stringslite_Index.calls a0 a1 t199 _ A3.out).mono ?_);rintro e w11 ⟨rfl,hb⟩;have n0_:=m_ (l5_ (puL HB.out) hb);revert n0_;clear HB;intro HB;(try clear hb);(try clear hb2);(try clear hk);(try clear hi))))
  go_ret3
  exact ⟨eqs,puL HB.out⟩

/-! ### strings_Cut: function 74 -/
def strings_Cut.f (a0 : ByteArray) (a1 : ByteArray) : Option (ByteArray × ByteArray × Bool) := (stringslite_Cut.f a0 a1).bind fun bt200 => (some (bt200.1, bt200.2.1, bt200.2.2))
theorem strings_Cut.calls (a0 : ByteArray) (a1 : ByteArray) (r1 : ByteArray) (r2 : ByteArray) (r3 : Bool) (w : World) (h : strings_Cut.f a0 a1 = some (r1, r2, r3)) :
  Calls Tryd.prog 74 #[.string a0,.string a1] w fun e w'=>e = .returned (.tuple #[.string r1,.string r2,.bool r3]) ∧ Below w.heap.size w w':=by
 have HB:=m_ (Below.refl w.heap.size w)
 have H : ((stringslite_Cut.f a0 a1).bind fun bt200=>(some (bt200.1,bt200.2.1,bt200.2.2))) = some (r1,r2,r3):=h
 clear h
 replace H:=Option.bind_eq_some_iff.mp H
 obtain ⟨⟨t200,t201,t202⟩,A30,H⟩:=H
 replace H : (some (t200,t201,t202)) = some (r1,r2,r3):=H
 have A3:=m_ A30
 clear A30
 simp only [Option.some.injEq,Prod.mk.injEq] at H
 obtain ⟨rfl,rfl,rfl⟩:=H
 go_enter Tryd.func74,Tryd.ntmps74
 go_wp2_with (first|((with_reducible refine gate_callee (f:=85) rfl ?_);refine goesL_ (some 9) rfl rfl Tryd.func85 (by kernel_rfl) rfl #[.string a0,.string a1] rfl lens ?_;(with_reducible refine (stringslite_Cut.calls a0 a1 t200 t201 t202 _ A3.out).mono ?_);rintro e w4 ⟨rfl,hb⟩;refine ⟨_,rfl,?_⟩;have n0_:=m_ (l5_ (puL HB.out) hb);revert n0_;clear HB;intro HB;(try clear hb);(try clear hb2);(try clear hk);(try clear hi)))
 go_ret3
 exact ⟨eqs,puL HB.out⟩

/-! ### impl_EndInside: function 93 -/
def impl_EndInside.f (a0_0 : Int) (a0_1 : Int) : Option (Bool) := (impl_within.f a0_0 1 3).bind fun t204 => (if t204 = true then ((impl_within.f a0_1 1 9).bind fun t205 => (some t205)) else (some false))
theorem impl_EndInside.calls (a0_0 : Int) (a0_1 : Int) (r : Bool) (w : World) (h : impl_EndInside.f a0_0 a0_1 = some r) :
  Calls Tryd.prog 93 #[.agg #[.int .i64 a0_0,.int .i64 a0_1]] w fun e w'=>e = .returned (.bool r) ∧ Below w.heap.size w w':=by
 have hu43:=Tryd.underlying43
 have HB:=m_ (Below.refl w.heap.size w)
 have H : ((impl_within.f a0_0 1 3).bind fun t204=>(if t204 = true then ((impl_within.f a0_1 1 9).bind fun t205=>(some t205)) else (some false))) = some r:=h
 clear h
 replace H:=Option.bind_eq_some_iff.mp H
 obtain ⟨t204,A20,H⟩:=H
 replace H : (if t204 = true then ((impl_within.f a0_1 1 9).bind fun t205=>(some t205)) else (some false)) = some r:=H
 have A2:=m_ A20
 clear A20
 by_cases c3 : t204 = true
 ·subst c3
  have H1 : ((impl_within.f a0_1 1 9).bind fun t205=>(some t205)) = some r:=by rw [if_pos rfl] at H;exact H
  clear H
  have H:=H1
  clear H1
  replace H:=Option.bind_eq_some_iff.mp H
  obtain ⟨t205,A40,H⟩:=H
  replace H : (some t205) = some r:=H
  have A4:=m_ A40
  clear A40
  obtain rfl:=Option.some.inj H
  go_enter Tryd.func93,Tryd.ntmps93
  go_wp2_with (first|((with_reducible refine gate_dst (N:=1) rfl ?_);refine box_event ?hg (N:=1) ?hd (cs:=#[.int .i64 a0_0,.int .i64 a0_1]) (t:=43) ?hr ?_;(case hd=>rfl);(case hg=>rfl);(case hr=>first|(go_simp;done)|(go_simp;rfl));intro gb203 hg w5 hbox hb;have n0_:=m_ (l5_ (puL HB.out) hb);have n1_:=m_ (hbox);have n2_:=m_ ((by rw [hg];exact (l6_ (puL HB.out)) : w.heap.size ≤ gb203));have n3_:=m_ ((by rw [hg];exact (l6_ (puL HB.out)) : w.heap.size ≤ gb203));revert n0_ n1_ n2_ n3_;clear HB;intro HB BK203 GW203 GE203;clear hb hbox hg;have hcz6_0 : w5.cell? ⟨gb203,0,none⟩ = some (.int .i64 a0_0):=(c_ BK203.out 0).trans rfl;have hcz6_1 : w5.cell? ⟨gb203,1,none⟩ = some (.int .i64 a0_1):=(c_ BK203.out 1).trans rfl)|((with_reducible refine gate_callee (f:=29) rfl ?_);refine goesL_ (some 5) rfl rfl Tryd.func29 (by kernel_rfl) rfl #[.int .i64 a0_0,.int .i64 1,.int .i64 3] rfl lens ?_;(with_reducible refine (impl_within.calls a0_0 1 3 true _ A2.out).mono ?_);rintro e w' ⟨rfl,⟨nd,rfl⟩⟩;refine ⟨_,rfl,?_⟩)|(go_at_call 29;(with_reducible refine (impl_within.calls a0_1 1 9 t205 _ A4.out).mono ?_);rintro e w' ⟨rfl,⟨nd,rfl⟩⟩))
  go_ret
  exact ⟨eqs,puM HB.out GE203.out⟩
 ·replace c3:=Bool.eq_false_iff.mpr c3
  subst c3
  have H1 : (some false) = some r:=by rw [if_neg (show ¬ (false = true) by decide)] at H;exact H
  clear H
  have H:=H1
  clear H1
  obtain rfl:=Option.some.inj H
  go_enter Tryd.func93,Tryd.ntmps93
  go_wp2_with (first|((with_reducible refine gate_dst (N:=1) rfl ?_);refine box_event ?hg (N:=1) ?hd (cs:=#[.int .i64 a0_0,.int .i64 a0_1]) (t:=43) ?hr ?_;(case hd=>rfl);(case hg=>rfl);(case hr=>first|(go_simp;done)|(go_simp;rfl));intro gb203 hg w7 hbox hb;have n0_:=m_ (l5_ (puL HB.out) hb);have n1_:=m_ (hbox);have n2_:=m_ ((by rw [hg];exact (l6_ (puL HB.out)) : w.heap.size ≤ gb203));have n3_:=m_ ((by rw [hg];exact (l6_ (puL HB.out)) : w.heap.size ≤ gb203));revert n0_ n1_ n2_ n3_;clear HB;intro HB BK203 GW203 GE203;clear hb hbox hg;have hcz8_0 : w7.cell? ⟨gb203,0,none⟩ = some (.int .i64 a0_0):=(c_ BK203.out 0).trans rfl;have hcz8_1 : w7.cell? ⟨gb203,1,none⟩ = some (.int .i64 a0_1):=(c_ BK203.out 1).trans rfl)|((with_reducible refine gate_callee (f:=29) rfl ?_);refine goesL_ (some 5) rfl rfl Tryd.func29 (by kernel_rfl) rfl #[.int .i64 a0_0,.int .i64 1,.int .i64 3] rfl lens ?_;(with_reducible refine (impl_within.calls a0_0 1 3 false _ A2.out).mono ?_);rintro e w' ⟨rfl,⟨nd,rfl⟩⟩;refine ⟨_,rfl,?_⟩))
  go_ret
  exact ⟨eqs,puM HB.out GE203.out⟩

end Go.Proofs.YtkcjmmhleepjeaaDoor.A
