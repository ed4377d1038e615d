-- Printed by myprint.py (wip/tools) out of the translation. Not trusted: Lean checks it.
import Derived.Test.YtejpgpjjocbbjaaDoorAx0
import Derived.Test.YtejpgpjjocbbjaaDoorAx2
namespace Go.Proofs.YtejpgpjjocbbjaaDoor.A
open Go.RowKit Go.Proofs.YtejpgpjjocbbjaaDoorW.PrintWords Go.Proofs.YtejpgpjjocbbjaaDoorW.PrintLast Go.Proofs.YtejpgpjjocbbjaaDoorW.PrintMore
attribute [local go_sem] max2_int min2_int max_two min_two max_three min_three max_four min_four   -- for this text's walks alone
set_option linter.unusedVariables false
set_option linter.unusedSimpArgs false

/-! ### impl_End_any: function 28 -/
def impl_End_any.f (a0_0 : Int) (a0_1 : Int) : Option (Bool) := (impl_EndInside.f a0_0 a0_1).bind fun t216 => (if t216 = true then (some true) else ((impl_EndOutside.f a0_0 a0_1).bind fun t217 => (if t217 = true then (some true) else ((impl_EndDoor.f a0_0 a0_1).bind fun t218 => (some t218)))))
set_option maxHeartbeats 8000000 in
set_option maxRecDepth 100000 in
theorem impl_End_any.calls (a0_0 : Int) (a0_1 : Int) (r : Bool) (w : World) (h : impl_End_any.f a0_0 a0_1 = some r) :
  Calls Tryd.prog 28 #[.agg #[.int .i64 a0_0,.int .i64 a0_1]] w fun e w'=>e = .returned (.bool r) ∧ Below w.heap.size w w':=by
 have hu24:=Tryd.underlying24
 have HB:=m_ (Below.refl w.heap.size w)
 have H : ((impl_EndInside.f a0_0 a0_1).bind fun t216=>(if t216 = true then (some true) else ((impl_EndOutside.f a0_0 a0_1).bind fun t217=>(if t217 = true then (some true) else ((impl_EndDoor.f a0_0 a0_1).bind fun t218=>(some t218)))))) = some r:=h
 clear h
 replace H:=Option.bind_eq_some_iff.mp H
 obtain ⟨t216,A20,H⟩:=H
 replace H : (if t216 = true then (some true) else ((impl_EndOutside.f a0_0 a0_1).bind fun t217=>(if t217 = true then (some true) else ((impl_EndDoor.f a0_0 a0_1).bind fun t218=>(some t218))))) = some r:=H
 have A2:=m_ A20
 clear A20
 by_cases c3 : t216 = true
 ·subst c3
  have H1 : (some true) = some r:=by rw [if_pos rfl] at H;exact H
  clear H
  have H:=H1
  clear H1
  obtain rfl:=Option.some.inj H
  go_enter Tryd.func28,Tryd.ntmps28
  go_wp2_with (first|((with_reducible refine gate_dst (N:=1) rfl ?_);refine box_event ?hg (N:=1) ?hd (cs:=#[.int .i64 a0_0,.int .i64 a0_1]) (t:=24) ?hr ?_;(case hd=>rfl);(case hg=>rfl);(case hr=>first|(go_simp;done)|(go_simp;rfl));intro gb215 hg w4 hbox hb;have n0_:=m_ (l5_ (by repeat (first|(with_reducible first|exact HB.out|apply l1_|apply l2_|apply l3_)|exact HB.out)) hb);have n1_:=m_ (hbox);have n2_:=m_ ((by rw [hg];exact (l6_ (by repeat (first|(with_reducible first|exact HB.out|apply l1_|apply l2_|apply l3_)|exact HB.out))) : w.heap.size ≤ gb215));have n3_:=m_ ((by rw [hg];exact (l6_ (by repeat (first|(with_reducible first|exact HB.out|apply l1_|apply l2_|apply l3_)|exact HB.out))) : w.heap.size ≤ gb215));clear HB;have HB:=n0_;have BK215:=n1_;have GW215:=n2_;have GE215:=n3_;clear n0_ n1_ n2_ n3_;clear hb hbox hg;have hcz5_0 : w4.cell? ⟨gb215,0,none⟩ = some (.int .i64 a0_0):=(c_ BK215.out 0).trans rfl;have hcz5_1 : w4.cell? ⟨gb215,1,none⟩ = some (.int .i64 a0_1):=(c_ BK215.out 1).trans rfl)|((with_reducible refine gate_callee (f:=50) rfl ?_);refine goesL_ (some 4) rfl rfl Tryd.func50 (by kernel_rfl) rfl #[.agg #[.int .i64 a0_0,.int .i64 a0_1]] rfl (by (try simp only [List.map_toArray,List.map_cons,List.map_nil]);first|done|rfl|(simp only [List.length_drop,List.length_take];rfl)) ?_;(with_reducible refine (impl_EndInside.calls a0_0 a0_1 true _ A2.out).mono ?_);rintro e w6 ⟨rfl,hb⟩;refine ⟨_,rfl,?_⟩;have n0_:=m_ (blk_below (g:=gb215) (o:=.cells #[.int .i64 a0_0,.int .i64 a0_1] 24 (0,0)) (by (with_reducible repeat first|apply b1_|apply b2_|apply b3_);exact BK215.out) hb);have n1_:=m_ (l5_ (by repeat (first|(with_reducible first|exact HB.out|apply l1_|apply l2_|apply l3_|refine l4_ ?_ GE215.out)|exact HB.out)) hb);clear BK215;clear HB;have BK215:=n0_;have HB:=n1_;clear n0_ n1_;(try clear hb);(try clear hb2);(try clear hk);(try clear hi)))
  go_ret
  exact ⟨by first|rfl|(simp [e1_,e2_] <;> rfl)|(simp [*,e1_,e2_] <;> rfl)|(simp [e1_,e2_,pk_empty1,pk_empty2];done)|(simp [*,e1_,e2_,pk_empty1,pk_empty2];done),by repeat (first|(with_reducible first|exact HB.out|apply l1_|apply l2_|apply l3_|refine l4_ ?_ GE215.out)|exact HB.out)⟩
 ·replace c3:=Bool.eq_false_iff.mpr c3
  subst c3
  have H1 : ((impl_EndOutside.f a0_0 a0_1).bind fun t217=>(if t217 = true then (some true) else ((impl_EndDoor.f a0_0 a0_1).bind fun t218=>(some t218)))) = some r:=by rw [if_neg (show ¬ (false = true) by decide)] at H;exact H
  clear H
  have H:=H1
  clear H1
  replace H:=Option.bind_eq_some_iff.mp H
  obtain ⟨t217,A70,H⟩:=H
  replace H : (if t217 = true then (some true) else ((impl_EndDoor.f a0_0 a0_1).bind fun t218=>(some t218))) = some r:=H
  have A7:=m_ A70
  clear A70
  by_cases c8 : t217 = true
  ·subst c8
   have H1 : (some true) = some r:=by rw [if_pos rfl] at H;exact H
   clear H
   have H:=H1
   clear H1
   obtain rfl:=Option.some.inj H
   go_enter Tryd.func28,Tryd.ntmps28
   go_wp2_with (first|((with_reducible refine gate_dst (N:=1) rfl ?_);refine box_event ?hg (N:=1) ?hd (cs:=#[.int .i64 a0_0,.int .i64 a0_1]) (t:=24) ?hr ?_;(case hd=>rfl);(case hg=>rfl);(case hr=>first|(go_simp;done)|(go_simp;rfl));intro gb215 hg w9 hbox hb;have n0_:=m_ (l5_ (by repeat (first|(with_reducible first|exact HB.out|apply l1_|apply l2_|apply l3_)|exact HB.out)) hb);have n1_:=m_ (hbox);have n2_:=m_ ((by rw [hg];exact (l6_ (by repeat (first|(with_reducible first|exact HB.out|apply l1_|apply l2_|apply l3_)|exact HB.out))) : w.heap.size ≤ gb215));have n3_:=m_ ((by rw [hg];exact (l6_ (by repeat (first|(with_reducible first|exact HB.out|apply l1_|apply l2_|apply l3_)|exact HB.out))) : w.heap.size ≤ gb215));clear HB;have HB:=n0_;have BK215:=n1_;have GW215:=n2_;have GE215:=n3_;clear n0_ n1_ n2_ n3_;clear hb hbox hg;have hcz10_0 : w9.cell? ⟨gb215,0,none⟩ = some (.int .i64 a0_0):=(c_ BK215.out 0).trans rfl;have hcz10_1 : w9.cell? ⟨gb215,1,none⟩ = some (.int .i64 a0_1):=(c_ BK215.out 1).trans rfl)|((with_reducible refine gate_callee (f:=50) rfl ?_);refine goesL_ (some 4) rfl rfl Tryd.func50 (by kernel_rfl) rfl #[.agg #[.int .i64 a0_0,.int .i64 a0_1]] rfl (by (try simp only [List.map_toArray,List.map_cons,List.map_nil]);first|done|rfl|(simp only [List.length_drop,List.length_take];rfl)) ?_;(with_reducible refine (impl_EndInside.calls a0_0 a0_1 false _ A2.out).mono ?_);rintro e w11 ⟨rfl,hb⟩;refine ⟨_,rfl,?_⟩;have n0_:=m_ (blk_below (g:=gb215) (o:=.cells #[.int .i64 a0_0,.int .i64 a0_1] 24 (0,0)) (by (with_reducible repeat first|apply b1_|apply b2_|apply b3_);exact BK215.out) hb);have n1_:=m_ (l5_ (by repeat (first|(with_reducible first|exact HB.out|apply l1_|apply l2_|apply l3_|refine l4_ ?_ GE215.out)|exact HB.out)) hb);clear BK215;clear HB;have BK215:=n0_;have HB:=n1_;clear n0_ n1_;(try clear hb);(try clear hb2);(try clear hk);(try clear hi);have hcz12_0 : w11.cell? ⟨gb215,0,none⟩ = some (.int .i64 a0_0):=(c_ BK215.out 0).trans rfl;have hcz12_1 : w11.cell? ⟨gb215,1,none⟩ = some (.int .i64 a0_1):=(c_ BK215.out 1).trans rfl)|(go_at_call 51;(with_reducible refine (impl_EndOutside.calls a0_0 a0_1 true _ A7.out).mono ?_);rintro e w13 ⟨rfl,hb⟩;have n0_:=m_ (blk_below (g:=gb215) (o:=.cells #[.int .i64 a0_0,.int .i64 a0_1] 24 (0,0)) (by (with_reducible repeat first|apply b1_|apply b2_|apply b3_);exact BK215.out) hb);have n1_:=m_ (l5_ (by repeat (first|(with_reducible first|exact HB.out|apply l1_|apply l2_|apply l3_|refine l4_ ?_ GE215.out)|exact HB.out)) hb);clear BK215;clear HB;have BK215:=n0_;have HB:=n1_;clear n0_ n1_;(try clear hb);(try clear hb2);(try clear hk);(try clear hi)))
   go_ret
   exact ⟨by first|rfl|(simp [e1_,e2_] <;> rfl)|(simp [*,e1_,e2_] <;> rfl)|(simp [e1_,e2_,pk_empty1,pk_empty2];done)|(simp [*,e1_,e2_,pk_empty1,pk_empty2];done),by repeat (first|(with_reducible first|exact HB.out|apply l1_|apply l2_|apply l3_|refine l4_ ?_ GE215.out)|exact HB.out)⟩
  ·replace c8:=Bool.eq_false_iff.mpr c8
   subst c8
   have H1 : ((impl_EndDoor.f a0_0 a0_1).bind fun t218=>(some t218)) = some r:=by rw [if_neg (show ¬ (false = true) by decide)] at H;exact H
   clear H
   have H:=H1
   clear H1
   replace H:=Option.bind_eq_some_iff.mp H
   obtain ⟨t218,A140,H⟩:=H
   replace H : (some t218) = some r:=H
   have A14:=m_ A140
   clear A140
   obtain rfl:=Option.some.inj H
   go_enter Tryd.func28,Tryd.ntmps28
   go_wp2_with (first|((with_reducible refine gate_dst (N:=1) rfl ?_);refine box_event ?hg (N:=1) ?hd (cs:=#[.int .i64 a0_0,.int .i64 a0_1]) (t:=24) ?hr ?_;(case hd=>rfl);(case hg=>rfl);(case hr=>first|(go_simp;done)|(go_simp;rfl));intro gb215 hg w15 hbox hb;have n0_:=m_ (l5_ (by repeat (first|(with_reducible first|exact HB.out|apply l1_|apply l2_|apply l3_)|exact HB.out)) hb);have n1_:=m_ (hbox);have n2_:=m_ ((by rw [hg];exact (l6_ (by repeat (first|(with_reducible first|exact HB.out|apply l1_|apply l2_|apply l3_)|exact HB.out))) : w.heap.size ≤ gb215));have n3_:=m_ ((by rw [hg];exact (l6_ (by repeat (first|(with_reducible first|exact HB.out|apply l1_|apply l2_|apply l3_)|exact HB.out))) : w.heap.size ≤ gb215));clear HB;have HB:=n0_;have BK215:=n1_;have GW215:=n2_;have GE215:=n3_;clear n0_ n1_ n2_ n3_;clear hb hbox hg;have hcz16_0 : w15.cell? ⟨gb215,0,none⟩ = some (.int .i64 a0_0):=(c_ BK215.out 0).trans rfl;have hcz16_1 : w15.cell? ⟨gb215,1,none⟩ = some (.int .i64 a0_1):=(c_ BK215.out 1).trans rfl)|((with_reducible refine gate_callee (f:=50) rfl ?_);refine goesL_ (some 4) rfl rfl Tryd.func50 (by kernel_rfl) rfl #[.agg #[.int .i64 a0_0,.int .i64 a0_1]] rfl (by (try simp only [List.map_toArray,List.map_cons,List.map_nil]);first|done|rfl|(simp only [List.length_drop,List.length_take];rfl)) ?_;(with_reducible refine (impl_EndInside.calls a0_0 a0_1 false _ A2.out).mono ?_);rintro e w17 ⟨rfl,hb⟩;refine ⟨_,rfl,?_⟩;have n0_:=m_ (blk_below (g:=gb215) (o:=.cells #[.int .i64 a0_0,.int .i64 a0_1] 24 (0,0)) (by (with_reducible repeat first|apply b1_|apply b2_|apply b3_);exact BK215.out) hb);have n1_:=m_ (l5_ (by repeat (first|(with_reducible first|exact HB.out|apply l1_|apply l2_|apply l3_|refine l4_ ?_ GE215.out)|exact HB.out)) hb);clear BK215;clear HB;have BK215:=n0_;have HB:=n1_;clear n0_ n1_;(try clear hb);(try clear hb2);(try clear hk);(try clear hi);have hcz18_0 : w17.cell? ⟨gb215,0,none⟩ = some (.int .i64 a0_0):=(c_ BK215.out 0).trans rfl;have hcz18_1 : w17.cell? ⟨gb215,1,none⟩ = some (.int .i64 a0_1):=(c_ BK215.out 1).trans rfl)|(go_at_call 51;(with_reducible refine (impl_EndOutside.calls a0_0 a0_1 false _ A7.out).mono ?_);rintro e w19 ⟨rfl,hb⟩;have n0_:=m_ (blk_below (g:=gb215) (o:=.cells #[.int .i64 a0_0,.int .i64 a0_1] 24 (0,0)) (by (with_reducible repeat first|apply b1_|apply b2_|apply b3_);exact BK215.out) hb);have n1_:=m_ (l5_ (by repeat (first|(with_reducible first|exact HB.out|apply l1_|apply l2_|apply l3_|refine l4_ ?_ GE215.out)|exact HB.out)) hb);clear BK215;clear HB;have BK215:=n0_;have HB:=n1_;clear n0_ n1_;(try clear hb);(try clear hb2);(try clear hk);(try clear hi);have hcz20_0 : w19.cell? ⟨gb215,0,none⟩ = some (.int .i64 a0_0):=(c_ BK215.out 0).trans rfl;have hcz20_1 : w19.cell? ⟨gb215,1,none⟩ = some (.int .i64 a0_1):=(c_ BK215.out 1).trans rfl)|(go_at_call 52;(with_reducible refine (impl_EndDoor.calls a0_0 a0_1 t218 _ A14.out).mono ?_);rintro e w21 ⟨rfl,hb⟩;have n0_:=m_ (blk_below (g:=gb215) (o:=.cells #[.int .i64 a0_0,.int .i64 a0_1] 24 (0,0)) (by (with_reducible repeat first|apply b1_|apply b2_|apply b3_);exact BK215.out) hb);have n1_:=m_ (l5_ (by repeat (first|(with_reducible first|exact HB.out|apply l1_|apply l2_|apply l3_|refine l4_ ?_ GE215.out)|exact HB.out)) hb);clear BK215;clear HB;have BK215:=n0_;have HB:=n1_;clear n0_ n1_;(try clear hb);(try clear hb2);(try clear hk);(try clear hi)))
   go_ret
   exact ⟨by first|rfl|(simp [e1_,e2_] <;> rfl)|(simp [*,e1_,e2_] <;> rfl)|(simp [e1_,e2_,pk_empty1,pk_empty2];done)|(simp [*,e1_,e2_,pk_empty1,pk_empty2];done),by repeat (first|(with_reducible first|exact HB.out|apply l1_|apply l2_|apply l3_|refine l4_ ?_ GE215.out)|exact HB.out)⟩

/-! ### impl_figure: function 53 -/
def impl_figure.f (a0 : Int) (a1 : Int) : Option (Bool) := if a0 ≥ a1 then (some (decide (a0 ≤ 57))) else (some false)
set_option maxHeartbeats 8000000 in
set_option maxRecDepth 100000 in
theorem impl_figure.calls (a0 : Int) (a1 : Int) (r : Bool) (w : World) (h : impl_figure.f a0 a1 = some r) :
  Calls Tryd.prog 53 #[.int .u8 a0,.int .u8 a1] w fun e w'=>e = .returned (.bool r) ∧ Drawn0 w w':=by
 have H : (if a0 ≥ a1 then (some (decide (a0 ≤ 57))) else (some false)) = some r:=h
 clear h
 by_cases c3 : a0 ≥ a1
 ·rw [if_pos c3] at H
  have c3b0 : decide (a1 ≤ a0) = true:=decide_eq_true c3
  clear c3
  obtain rfl:=Option.some.inj H
  go_enter Tryd.func53,Tryd.ntmps53
  go_wp2
  go_ret
  exact ⟨by first|rfl|(simp;done)|(simp [*];done),by repeat (first|exact Drawn0.refl _|apply Drawn0.step)⟩
 ·rw [if_neg c3] at H
  have c3b0 : decide (a1 ≤ a0) = false:=decide_eq_false c3
  clear c3
  obtain rfl:=Option.some.inj H
  go_enter Tryd.func53,Tryd.ntmps53
  go_wp2
  go_ret
  exact ⟨by first|rfl|(simp;done)|(simp [*];done),by repeat (first|exact Drawn0.refl _|apply Drawn0.step)⟩

/-! ### impl_TextOk: function 29 -/
def tokb (c : Int) : Bool := decide ((97 ≤ c ∧ c ≤ 122) ∨ (48 ≤ c ∧ c ≤ 57) ∨ c = 64 ∨ c = 58 ∨ c = 59)
def impl_TextOk.f (a0 : ByteArray) : Option (Bool) := if a0.size ≤ 140737488355328 then some ((bytesOf a0).all tokb && decide (a0.size ≤ 40)) else none
theorem tok_cell (s : ByteArray) (k : Nat) (h : k < s.size) : ((s.data.toList.getD k 0).toNat : Int) = bt s k := by
 have h' : k < s.data.toList.length:=by rw [data_length];exact h
 simp [bt,h,List.getD_eq_getElem?_getD,List.getElem?_eq_getElem h']
 rfl
set_option maxHeartbeats 4000000 in
set_option maxRecDepth 100000 in
theorem impl_TextOk.calls (a0 : ByteArray) (r : Bool) (w : World) (h : impl_TextOk.f a0 = some r) :
  Calls Tryd.prog 29 #[.string a0] w fun e w'=>e = .returned (.bool r) ∧ Below w.heap.size w w':=by
 unfold impl_TextOk.f at h
 by_cases hs : a0.size ≤ 140737488355328
 ·rw [if_pos hs] at h
  have HR:=m_ (Option.some.inj h)
  clear h
  have kb:=fun W=>print_bytes (P:=Tryd.prog) 9 22 5 Tryd.underlying9 Tryd.underlying22 Tryd.underlying5 a0 W
  go_enter Tryd.func29,Tryd.ntmps29
  go_wp2
  go_loopw [8] (fun i wr=>∃ k : Nat,k ≤ a0.size ∧ i = .int .i64 k ∧ Aside0 (∀ j : Nat,j < k → tokb (bt a0 j) = true) ∧ Aside0 (Drawn0 (Lib.bytesWorld w 5 a0) wr)) (fun i _=>a0.size - (intOf i).toNat)
  case atStart=>exact ⟨0,Nat.zero_le _,rfl,⟨fun j hj=>absurd hj (Nat.not_lt_zero _)⟩,⟨Drawn0.refl _⟩⟩
  case round =>
   obtain ⟨k,hk,rfl,hall,hd⟩:=hrel
   have hb:=bt_range a0 k
   by_cases hlt : k < a0.size
   ·have hcell : wr.cell? ⟨w.heap.size,k,none⟩ = some (.int .u8 (bt a0 k)):=by
     obtain ⟨⟨m,rfl⟩⟩:=hd.out
     show (Lib.bytesWorld w 5 a0).cell? _ = _
     rw [Lib.bytesWorld_cell w 5 a0 k hlt,tok_cell a0 k hlt]
    have hnext:=fun (h1 : tokb (bt a0 k) = true)=>m_ (show ∀ j : Nat,j < k + 1 → tokb (bt a0 j) = true from fun j hj=>by
     by_cases e : j = k
     ·subst e;exact h1
     ·exact hall.out j (by omega))
    have hok : Aside0 (tokb (bt a0 k) = decide ((97 ≤ bt a0 k ∧ bt a0 k ≤ 122) ∨ (48 ≤ bt a0 k ∧ bt a0 k ≤ 57) ∨ bt a0 k = 64 ∨ bt a0 k = 58 ∨ bt a0 k = 59)):=⟨rfl⟩
    have hbad:=fun (h1 : tokb (bt a0 k) = false)=>m_ (show ((bytesOf a0).all tokb && decide (a0.size ≤ 40)) = false from by
     rw [Bool.and_eq_false_iff];left
     rw [List.all_eq_false]
     refine ⟨bt a0 k,?_,by rw [h1];decide⟩
     have hl : k < (bytesOf a0).length:=by rw [bytesOf_length];exact hlt
     have:=List.getElem_mem hl
     rwa [show (bytesOf a0)[k] = bt a0 k from by rw [← rd_bytesOf];simp [rd,List.getD_eq_getElem?_getD,List.getElem?_eq_getElem hl]] at this)
    generalize bt a0 k = c at hb hcell hnext hok hbad
    clear hall
    by_cases c1 : 48 ≤ c ∧ c ≤ 57
    ·have hn:=hnext (by rw [hok.out];exact decide_eq_true (by omega))
     clear hnext hbad hok
     have hf : impl_figure.f c 48 = some true:=by unfold impl_figure.f;rw [if_pos c1.1,decide_eq_true c1.2]
     have HF:=m_ hf
     clear hf c1
     go_wp2_with (go_at_call 53;refine (impl_figure.calls c 48 true _ HF.out).mono ?_;rintro e w' ⟨rfl,⟨nd,rfl⟩⟩)
     go_roundw
     case rel=>exact ⟨k + 1,by omega,by go_num,hn,⟨hd.out.step nd⟩⟩
     case measure=>simp [intOf];omega
    ·skip
     by_cases d64 : c = 64
     ·subst d64
      have hn:=hnext (by rw [hok.out];decide)
      clear hnext hbad hok c1
      have HF:=m_ (show impl_figure.f 64 48 = some false from rfl)
      go_wp2_with (go_at_call 53;refine (impl_figure.calls 64 48 false _ HF.out).mono ?_;rintro e w' ⟨rfl,⟨nd,rfl⟩⟩)
      go_roundw
      case rel=>exact ⟨k + 1,by omega,by go_num,hn,⟨hd.out.step nd⟩⟩
      case measure=>simp [intOf];omega
     by_cases d58 : c = 58
     ·subst d58
      have hn:=hnext (by rw [hok.out];decide)
      clear hnext hbad hok c1
      have HF:=m_ (show impl_figure.f 58 48 = some false from rfl)
      go_wp2_with (go_at_call 53;refine (impl_figure.calls 58 48 false _ HF.out).mono ?_;rintro e w' ⟨rfl,⟨nd,rfl⟩⟩)
      go_roundw
      case rel=>exact ⟨k + 1,by omega,by go_num,hn,⟨hd.out.step nd⟩⟩
      case measure=>simp [intOf];omega
     by_cases d59 : c = 59
     ·subst d59
      have hn:=hnext (by rw [hok.out];decide)
      clear hnext hbad hok c1
      have HF:=m_ (show impl_figure.f 59 48 = some false from rfl)
      go_wp2_with (go_at_call 53;refine (impl_figure.calls 59 48 false _ HF.out).mono ?_;rintro e w' ⟨rfl,⟨nd,rfl⟩⟩)
      go_roundw
      case rel=>exact ⟨k + 1,by omega,by go_num,hn,⟨hd.out.step nd⟩⟩
      case measure=>simp [intOf];omega
     have hf : impl_figure.f c 48 = some false:=by
      unfold impl_figure.f
      by_cases e : c ≥ 48
      ·rw [if_pos e,decide_eq_false (by omega)]
      ·rw [if_neg e]
     have HF:=m_ hf
     have n1 : (c != 64) = true:=bne_iff_ne.2 d64
     have n2 : (c != 58) = true:=bne_iff_ne.2 d58
     have n3 : (c != 59) = true:=bne_iff_ne.2 d59
     clear hf d64 d58 d59
     by_cases c2 : c < 97
     ·obtain rfl : r = false:=by rw [← HR.out];exact (hbad (by rw [hok.out];exact decide_eq_false (by have:=bne_iff_ne.1 n1;have:=bne_iff_ne.1 n2;have:=bne_iff_ne.1 n3;omega))).out
      clear hnext hbad hok c1
      have c2b : decide (c < 97) = true:=decide_eq_true c2
      clear c2
      go_wp2_with (go_at_call 53;refine (impl_figure.calls c 48 false _ HF.out).mono ?_;rintro e w' ⟨rfl,⟨nd,rfl⟩⟩)
      go_ret
      exact ⟨rfl,(bytes_below (Below.refl w.heap.size w) (Nat.le_refl _) 5 a0).trans ((hd.out.step nd).below.mono (by rw [Lib.bytesWorld_size];omega))⟩
     ·by_cases c3 : 122 < c
      ·obtain rfl : r = false:=by rw [← HR.out];exact (hbad (by rw [hok.out];exact decide_eq_false (by have:=bne_iff_ne.1 n1;have:=bne_iff_ne.1 n2;have:=bne_iff_ne.1 n3;omega))).out
       clear hnext hbad hok c1
       have c2b : decide (c < 97) = false:=decide_eq_false c2
       have c3b : decide (122 < c) = true:=decide_eq_true c3
       clear c2 c3
       go_wp2_with (go_at_call 53;refine (impl_figure.calls c 48 false _ HF.out).mono ?_;rintro e w' ⟨rfl,⟨nd,rfl⟩⟩)
       go_ret
       exact ⟨rfl,(bytes_below (Below.refl w.heap.size w) (Nat.le_refl _) 5 a0).trans ((hd.out.step nd).below.mono (by rw [Lib.bytesWorld_size];omega))⟩
      ·have hn:=hnext (by rw [hok.out];exact decide_eq_true (by omega))
       clear hnext hbad hok c1
       have c2b : decide (c < 97) = false:=decide_eq_false c2
       have c3b : decide (122 < c) = false:=decide_eq_false c3
       clear c2 c3
       go_wp2_with (go_at_call 53;refine (impl_figure.calls c 48 false _ HF.out).mono ?_;rintro e w' ⟨rfl,⟨nd,rfl⟩⟩)
       go_roundw
       case rel=>exact ⟨k + 1,by omega,by go_num,hn,⟨hd.out.step nd⟩⟩
       case measure=>simp [intOf];omega
   ·have hk2 : k = a0.size:=by omega
    have hfin : Aside0 (r = decide ((a0.size : Int) ≤ 40)):=⟨by
     rw [← HR.out]
     have : (bytesOf a0).all tokb = true:=by
      rw [List.all_eq_true]
      intro x hx
      obtain ⟨j,hj,rfl⟩:=List.getElem_of_mem hx
      have hj2 : j < a0.size:=by rwa [bytesOf_length] at hj
      have:=hall.out j (by omega)
      rw [← rd_bytesOf] at this
      simpa [rd,List.getD_eq_getElem?_getD,List.getElem?_eq_getElem hj] using this
     rw [this,Bool.true_and]
     by_cases e : a0.size ≤ 40
     ·rw [decide_eq_true e,decide_eq_true (by omega)]
     ·rw [decide_eq_false e,decide_eq_false (by omega)]⟩
    clear hall hk2
    obtain rfl:=hfin.out
    clear hfin
    go_wp2
    go_ret
    exact ⟨rfl,(bytes_below (Below.refl w.heap.size w) (Nat.le_refl _) 5 a0).trans (hd.out.below.mono (by rw [Lib.bytesWorld_size];omega))⟩
 ·rw [if_neg hs] at h;cases h

/-! ### impl_PktOk: function 11 -/
def impl_PktOk.f (a0_0 : Int) (a0_1 : Int) (a0_2 : Int) (a0_3 : Int) (a0_4 : Int) (a0_5 : Int) (a0_6 : ByteArray) : Option (Bool) := (impl_End_any.f a0_1 a0_2).bind fun t220 => (if t220 = true then ((impl_End_any.f a0_3 a0_4).bind fun t221 => (if t221 = true then ((impl_within.f a0_5 0 99).bind fun t222 => (if t222 = true then (if a0_0 = 1 then ((impl_TextOk.f a0_6).bind fun t223 => (if t223 = true then (if a0_6.toList = ([] : List UInt8) then (if a0_0 = 2 then (some a0_6.toList.isEmpty) else (some false)) else (some true)) else (if a0_0 = 2 then (some a0_6.toList.isEmpty) else (some false)))) else (if a0_0 = 2 then (some a0_6.toList.isEmpty) else (some false))) else (some false))) else (some false))) else (some false))
set_option maxHeartbeats 8000000 in
set_option maxRecDepth 100000 in
theorem impl_PktOk.calls (a0_0 : Int) (a0_1 : Int) (a0_2 : Int) (a0_3 : Int) (a0_4 : Int) (a0_5 : Int) (a0_6 : ByteArray) (r : Bool) (w : World) (h : impl_PktOk.f a0_0 a0_1 a0_2 a0_3 a0_4 a0_5 a0_6 = some r) :
  Calls Tryd.prog 11 #[.agg #[.int .i64 a0_0,.int .i64 a0_1,.int .i64 a0_2,.int .i64 a0_3,.int .i64 a0_4,.int .i64 a0_5,.string a0_6]] w fun e w'=>e = .returned (.bool r) ∧ Below w.heap.size w w':=by
 have hu26:=Tryd.underlying26
 have hu24:=Tryd.underlying24
 have HB:=m_ (Below.refl w.heap.size w)
 have H : ((impl_End_any.f a0_1 a0_2).bind fun t220=>(if t220 = true then ((impl_End_any.f a0_3 a0_4).bind fun t221=>(if t221 = true then ((impl_within.f a0_5 0 99).bind fun t222=>(if t222 = true then (if a0_0 = 1 then ((impl_TextOk.f a0_6).bind fun t223=>(if t223 = true then (if a0_6.toList = ([] : List UInt8) then (if a0_0 = 2 then (some a0_6.toList.isEmpty) else (some false)) else (some true)) else (if a0_0 = 2 then (some a0_6.toList.isEmpty) else (some false)))) else (if a0_0 = 2 then (some a0_6.toList.isEmpty) else (some false))) else (some false))) else (some false))) else (some false))) = some r:=h
 clear h
 replace H:=Option.bind_eq_some_iff.mp H
 obtain ⟨t220,A20,H⟩:=H
 replace H : (if t220 = true then ((impl_End_any.f a0_3 a0_4).bind fun t221=>(if t221 = true then ((impl_within.f a0_5 0 99).bind fun t222=>(if t222 = true then (if a0_0 = 1 then ((impl_TextOk.f a0_6).bind fun t223=>(if t223 = true then (if a0_6.toList = ([] : List UInt8) then (if a0_0 = 2 then (some a0_6.toList.isEmpty) else (some false)) else (some true)) else (if a0_0 = 2 then (some a0_6.toList.isEmpty) else (some false)))) else (if a0_0 = 2 then (some a0_6.toList.isEmpty) else (some false))) else (some false))) else (some false))) else (some false)) = some r:=H
 have A2:=m_ A20
 clear A20
 by_cases c3 : t220 = true
 ·subst c3
  have H1 : ((impl_End_any.f a0_3 a0_4).bind fun t221=>(if t221 = true then ((impl_within.f a0_5 0 99).bind fun t222=>(if t222 = true then (if a0_0 = 1 then ((impl_TextOk.f a0_6).bind fun t223=>(if t223 = true then (if a0_6.toList = ([] : List UInt8) then (if a0_0 = 2 then (some a0_6.toList.isEmpty) else (some false)) else (some true)) else (if a0_0 = 2 then (some a0_6.toList.isEmpty) else (some false)))) else (if a0_0 = 2 then (some a0_6.toList.isEmpty) else (some false))) else (some false))) else (some false))) = some r:=by rw [if_pos rfl] at H;exact H
  clear H
  have H:=H1
  clear H1
  replace H:=Option.bind_eq_some_iff.mp H
  obtain ⟨t221,A40,H⟩:=H
  replace H : (if t221 = true then ((impl_within.f a0_5 0 99).bind fun t222=>(if t222 = true then (if a0_0 = 1 then ((impl_TextOk.f a0_6).bind fun t223=>(if t223 = true then (if a0_6.toList = ([] : List UInt8) then (if a0_0 = 2 then (some a0_6.toList.isEmpty) else (some false)) else (some true)) else (if a0_0 = 2 then (some a0_6.toList.isEmpty) else (some false)))) else (if a0_0 = 2 then (some a0_6.toList.isEmpty) else (some false))) else (some false))) else (some false)) = some r:=H
  have A4:=m_ A40
  clear A40
  by_cases c5 : t221 = true
  ·subst c5
   have H1 : ((impl_within.f a0_5 0 99).bind fun t222=>(if t222 = true then (if a0_0 = 1 then ((impl_TextOk.f a0_6).bind fun t223=>(if t223 = true then (if a0_6.toList = ([] : List UInt8) then (if a0_0 = 2 then (some a0_6.toList.isEmpty) else (some false)) else (some true)) else (if a0_0 = 2 then (some a0_6.toList.isEmpty) else (some false)))) else (if a0_0 = 2 then (some a0_6.toList.isEmpty) else (some false))) else (some false))) = some r:=by rw [if_pos rfl] at H;exact H
   clear H
   have H:=H1
   clear H1
   replace H:=Option.bind_eq_some_iff.mp H
   obtain ⟨t222,A60,H⟩:=H
   replace H : (if t222 = true then (if a0_0 = 1 then ((impl_TextOk.f a0_6).bind fun t223=>(if t223 = true then (if a0_6.toList = ([] : List UInt8) then (if a0_0 = 2 then (some a0_6.toList.isEmpty) else (some false)) else (some true)) else (if a0_0 = 2 then (some a0_6.toList.isEmpty) else (some false)))) else (if a0_0 = 2 then (some a0_6.toList.isEmpty) else (some false))) else (some false)) = some r:=H
   have A6:=m_ A60
   clear A60
   by_cases c7 : t222 = true
   ·subst c7
    have H1 : (if a0_0 = 1 then ((impl_TextOk.f a0_6).bind fun t223=>(if t223 = true then (if a0_6.toList = ([] : List UInt8) then (if a0_0 = 2 then (some a0_6.toList.isEmpty) else (some false)) else (some true)) else (if a0_0 = 2 then (some a0_6.toList.isEmpty) else (some false)))) else (if a0_0 = 2 then (some a0_6.toList.isEmpty) else (some false))) = some r:=by rw [if_pos rfl] at H;exact H
    clear H
    have H:=H1
    clear H1
    by_cases c8 : a0_0 = 1
    ·rw [if_pos c8] at H
     have c8b0 : (a0_0 == 1) = true:=beq_iff_eq.mpr c8
     have c8b1 : (a0_0 != 1) = false:=bne_eq_false_iff_eq.mpr c8
     clear c8
     replace H:=Option.bind_eq_some_iff.mp H
     obtain ⟨t223,A90,H⟩:=H
     replace H : (if t223 = true then (if a0_6.toList = ([] : List UInt8) then (if a0_0 = 2 then (some a0_6.toList.isEmpty) else (some false)) else (some true)) else (if a0_0 = 2 then (some a0_6.toList.isEmpty) else (some false))) = some r:=H
     have A9:=m_ A90
     clear A90
     by_cases c10 : t223 = true
     ·subst c10
      have H1 : (if a0_6.toList = ([] : List UInt8) then (if a0_0 = 2 then (some a0_6.toList.isEmpty) else (some false)) else (some true)) = some r:=by rw [if_pos rfl] at H;exact H
      clear H
      have H:=H1
      clear H1
      by_cases c11 : a0_6.toList = ([] : List UInt8)
      ·rw [if_pos c11] at H
       have c11b0 : a0_6.toList.isEmpty = true:=by simpa using c11
       have c11b1 : (a0_6.toList == ([] : List UInt8)) = true:=beq_iff_eq.mpr c11
       have c11b2 : (a0_6.toList != ([] : List UInt8)) = false:=bne_eq_false_iff_eq.mpr c11
       clear c11
       by_cases c12 : a0_0 = 2
       ·rw [if_pos c12] at H
        have c12b0 : (a0_0 == 2) = true:=beq_iff_eq.mpr c12
        have c12b1 : (a0_0 != 2) = false:=bne_eq_false_iff_eq.mpr c12
        clear c12
        obtain rfl:=Option.some.inj H
        go_enter Tryd.func11,Tryd.ntmps11
        go_wp2_with (first|((with_reducible refine gate_dst (N:=1) rfl ?_);refine box_event ?hg (N:=1) ?hd (cs:=#[.int .i64 a0_0,.int .i64 a0_1,.int .i64 a0_2,.int .i64 a0_3,.int .i64 a0_4,.int .i64 a0_5,.string a0_6]) (t:=26) ?hr ?_;(case hd=>rfl);(case hg=>rfl);(case hr=>first|(go_simp;done)|(go_simp;rfl));intro gb219 hg w13 hbox hb;have n0_:=m_ (l5_ (by repeat (first|(with_reducible first|exact HB.out|apply l1_|apply l2_|apply l3_)|exact HB.out)) hb);have n1_:=m_ (hbox);have n2_:=m_ ((by rw [hg];exact (l6_ (by repeat (first|(with_reducible first|exact HB.out|apply l1_|apply l2_|apply l3_)|exact HB.out))) : w.heap.size ≤ gb219));have n3_:=m_ ((by rw [hg];exact (l6_ (by repeat (first|(with_reducible first|exact HB.out|apply l1_|apply l2_|apply l3_)|exact HB.out))) : w.heap.size ≤ gb219));clear HB;have HB:=n0_;have BK219:=n1_;have GW219:=n2_;have GE219:=n3_;clear n0_ n1_ n2_ n3_;clear hb hbox hg;have hcz14_0 : w13.cell? ⟨gb219,0,none⟩ = some (.int .i64 a0_0):=(c_ BK219.out 0).trans rfl;have hcz14_1 : w13.cell? ⟨gb219,1,none⟩ = some (.int .i64 a0_1):=(c_ BK219.out 1).trans rfl;have hcz14_2 : w13.cell? ⟨gb219,2,none⟩ = some (.int .i64 a0_2):=(c_ BK219.out 2).trans rfl;have hcz14_3 : w13.cell? ⟨gb219,3,none⟩ = some (.int .i64 a0_3):=(c_ BK219.out 3).trans rfl;have hcz14_4 : w13.cell? ⟨gb219,4,none⟩ = some (.int .i64 a0_4):=(c_ BK219.out 4).trans rfl;have hcz14_5 : w13.cell? ⟨gb219,5,none⟩ = some (.int .i64 a0_5):=(c_ BK219.out 5).trans rfl;have hcz14_6 : w13.cell? ⟨gb219,6,none⟩ = some (.string a0_6):=(c_ BK219.out 6).trans rfl)|((with_reducible refine gate_callee (f:=28) rfl ?_);refine goesL_ (some 5) rfl rfl Tryd.func28 (by kernel_rfl) rfl #[.agg #[.int .i64 a0_1,.int .i64 a0_2]] rfl (by (try simp only [List.map_toArray,List.map_cons,List.map_nil]);first|done|rfl|(simp only [List.length_drop,List.length_take];rfl)) ?_;(with_reducible refine (impl_End_any.calls a0_1 a0_2 true _ A2.out).mono ?_);rintro e w15 ⟨rfl,hb⟩;refine ⟨_,rfl,?_⟩;have n0_:=m_ (blk_below (g:=gb219) (o:=.cells #[.int .i64 a0_0,.int .i64 a0_1,.int .i64 a0_2,.int .i64 a0_3,.int .i64 a0_4,.int .i64 a0_5,.string a0_6] 26 (0,0)) (by (with_reducible repeat first|apply b1_|apply b2_|apply b3_);exact BK219.out) hb);have n1_:=m_ (l5_ (by repeat (first|(with_reducible first|exact HB.out|apply l1_|apply l2_|apply l3_|refine l4_ ?_ GE219.out)|exact HB.out)) hb);clear BK219;clear HB;have BK219:=n0_;have HB:=n1_;clear n0_ n1_;(try clear hb);(try clear hb2);(try clear hk);(try clear hi);have hcz16_0 : w15.cell? ⟨gb219,0,none⟩ = some (.int .i64 a0_0):=(c_ BK219.out 0).trans rfl;have hcz16_1 : w15.cell? ⟨gb219,1,none⟩ = some (.int .i64 a0_1):=(c_ BK219.out 1).trans rfl;have hcz16_2 : w15.cell? ⟨gb219,2,none⟩ = some (.int .i64 a0_2):=(c_ BK219.out 2).trans rfl;have hcz16_3 : w15.cell? ⟨gb219,3,none⟩ = some (.int .i64 a0_3):=(c_ BK219.out 3).trans rfl;have hcz16_4 : w15.cell? ⟨gb219,4,none⟩ = some (.int .i64 a0_4):=(c_ BK219.out 4).trans rfl;have hcz16_5 : w15.cell? ⟨gb219,5,none⟩ = some (.int .i64 a0_5):=(c_ BK219.out 5).trans rfl;have hcz16_6 : w15.cell? ⟨gb219,6,none⟩ = some (.string a0_6):=(c_ BK219.out 6).trans rfl)|(go_at_call 28;(with_reducible refine (impl_End_any.calls a0_3 a0_4 true _ A4.out).mono ?_);rintro e w17 ⟨rfl,hb⟩;have n0_:=m_ (blk_below (g:=gb219) (o:=.cells #[.int .i64 a0_0,.int .i64 a0_1,.int .i64 a0_2,.int .i64 a0_3,.int .i64 a0_4,.int .i64 a0_5,.string a0_6] 26 (0,0)) (by (with_reducible repeat first|apply b1_|apply b2_|apply b3_);exact BK219.out) hb);have n1_:=m_ (l5_ (by repeat (first|(with_reducible first|exact HB.out|apply l1_|apply l2_|apply l3_|refine l4_ ?_ GE219.out)|exact HB.out)) hb);clear BK219;clear HB;have BK219:=n0_;have HB:=n1_;clear n0_ n1_;(try clear hb);(try clear hb2);(try clear hk);(try clear hi);have hcz18_0 : w17.cell? ⟨gb219,0,none⟩ = some (.int .i64 a0_0):=(c_ BK219.out 0).trans rfl;have hcz18_1 : w17.cell? ⟨gb219,1,none⟩ = some (.int .i64 a0_1):=(c_ BK219.out 1).trans rfl;have hcz18_2 : w17.cell? ⟨gb219,2,none⟩ = some (.int .i64 a0_2):=(c_ BK219.out 2).trans rfl;have hcz18_3 : w17.cell? ⟨gb219,3,none⟩ = some (.int .i64 a0_3):=(c_ BK219.out 3).trans rfl;have hcz18_4 : w17.cell? ⟨gb219,4,none⟩ = some (.int .i64 a0_4):=(c_ BK219.out 4).trans rfl;have hcz18_5 : w17.cell? ⟨gb219,5,none⟩ = some (.int .i64 a0_5):=(c_ BK219.out 5).trans rfl;have hcz18_6 : w17.cell? ⟨gb219,6,none⟩ = some (.string a0_6):=(c_ BK219.out 6).trans rfl)|(go_at_call 24;(with_reducible refine (impl_within.calls a0_5 0 99 true _ A6.out).mono ?_);rintro e w' ⟨rfl,⟨nd,rfl⟩⟩)|(go_at_call 29;(with_reducible refine (impl_TextOk.calls a0_6 true _ A9.out).mono ?_);rintro e w19 ⟨rfl,hb⟩;have n0_:=m_ (blk_below (g:=gb219) (o:=.cells #[.int .i64 a0_0,.int .i64 a0_1,.int .i64 a0_2,.int .i64 a0_3,.int .i64 a0_4,.int .i64 a0_5,.string a0_6] 26 (0,0)) (by (with_reducible repeat first|apply b1_|apply b2_|apply b3_);exact BK219.out) hb);have n1_:=m_ (l5_ (by repeat (first|(with_reducible first|exact HB.out|apply l1_|apply l2_|apply l3_|refine l4_ ?_ GE219.out)|exact HB.out)) hb);clear BK219;clear HB;have BK219:=n0_;have HB:=n1_;clear n0_ n1_;(try clear hb);(try clear hb2);(try clear hk);(try clear hi);have hcz20_0 : w19.cell? ⟨gb219,0,none⟩ = some (.int .i64 a0_0):=(c_ BK219.out 0).trans rfl;have hcz20_1 : w19.cell? ⟨gb219,1,none⟩ = some (.int .i64 a0_1):=(c_ BK219.out 1).trans rfl;have hcz20_2 : w19.cell? ⟨gb219,2,none⟩ = some (.int .i64 a0_2):=(c_ BK219.out 2).trans rfl;have hcz20_3 : w19.cell? ⟨gb219,3,none⟩ = some (.int .i64 a0_3):=(c_ BK219.out 3).trans rfl;have hcz20_4 : w19.cell? ⟨gb219,4,none⟩ = some (.int .i64 a0_4):=(c_ BK219.out 4).trans rfl;have hcz20_5 : w19.cell? ⟨gb219,5,none⟩ = some (.int .i64 a0_5):=(c_ BK219.out 5).trans rfl;have hcz20_6 : w19.cell? ⟨gb219,6,none⟩ = some (.string a0_6):=(c_ BK219.out 6).trans rfl))
        go_ret
        exact ⟨by first|rfl|(simp [e1_,e2_] <;> rfl)|(simp [*,e1_,e2_] <;> rfl)|(simp [e1_,e2_,pk_empty1,pk_empty2];done)|(simp [*,e1_,e2_,pk_empty1,pk_empty2];done),by repeat (first|(with_reducible first|exact HB.out|apply l1_|apply l2_|apply l3_|refine l4_ ?_ GE219.out)|exact HB.out)⟩
       ·rw [if_neg c12] at H
        have c12b0 : (a0_0 == 2) = false:=beq_eq_false_iff_ne.mpr c12
        have c12b1 : (a0_0 != 2) = true:=bne_iff_ne.mpr c12
        obtain rfl:=Option.some.inj H
        go_enter Tryd.func11,Tryd.ntmps11
        go_wp2_with (first|((with_reducible refine gate_dst (N:=1) rfl ?_);refine box_event ?hg (N:=1) ?hd (cs:=#[.int .i64 a0_0,.int .i64 a0_1,.int .i64 a0_2,.int .i64 a0_3,.int .i64 a0_4,.int .i64 a0_5,.string a0_6]) (t:=26) ?hr ?_;(case hd=>rfl);(case hg=>rfl);(case hr=>first|(go_simp;done)|(go_simp;rfl));intro gb219 hg w21 hbox hb;have n0_:=m_ (l5_ (by repeat (first|(with_reducible first|exact HB.out|apply l1_|apply l2_|apply l3_)|exact HB.out)) hb);have n1_:=m_ (hbox);have n2_:=m_ ((by rw [hg];exact (l6_ (by repeat (first|(with_reducible first|exact HB.out|apply l1_|apply l2_|apply l3_)|exact HB.out))) : w.heap.size ≤ gb219));have n3_:=m_ ((by rw [hg];exact (l6_ (by repeat (first|(with_reducible first|exact HB.out|apply l1_|apply l2_|apply l3_)|exact HB.out))) : w.heap.size ≤ gb219));clear HB;have HB:=n0_;have BK219:=n1_;have GW219:=n2_;have GE219:=n3_;clear n0_ n1_ n2_ n3_;clear hb hbox hg;have hcz22_0 : w21.cell? ⟨gb219,0,none⟩ = some (.int .i64 a0_0):=(c_ BK219.out 0).trans rfl;have hcz22_1 : w21.cell? ⟨gb219,1,none⟩ = some (.int .i64 a0_1):=(c_ BK219.out 1).trans rfl;have hcz22_2 : w21.cell? ⟨gb219,2,none⟩ = some (.int .i64 a0_2):=(c_ BK219.out 2).trans rfl;have hcz22_3 : w21.cell? ⟨gb219,3,none⟩ = some (.int .i64 a0_3):=(c_ BK219.out 3).trans rfl;have hcz22_4 : w21.cell? ⟨gb219,4,none⟩ = some (.int .i64 a0_4):=(c_ BK219.out 4).trans rfl;have hcz22_5 : w21.cell? ⟨gb219,5,none⟩ = some (.int .i64 a0_5):=(c_ BK219.out 5).trans rfl;have hcz22_6 : w21.cell? ⟨gb219,6,none⟩ = some (.string a0_6):=(c_ BK219.out 6).trans rfl)|((with_reducible refine gate_callee (f:=28) rfl ?_);refine goesL_ (some 5) rfl rfl Tryd.func28 (by kernel_rfl) rfl #[.agg #[.int .i64 a0_1,.int .i64 a0_2]] rfl (by (try simp only [List.map_toArray,List.map_cons,List.map_nil]);first|done|rfl|(simp only [List.length_drop,List.length_take];rfl)) ?_;(with_reducible refine (impl_End_any.calls a0_1 a0_2 true _ A2.out).mono ?_);rintro e w23 ⟨rfl,hb⟩;refine ⟨_,rfl,?_⟩;have n0_:=m_ (blk_below (g:=gb219) (o:=.cells #[.int .i64 a0_0,.int .i64 a0_1,.int .i64 a0_2,.int .i64 a0_3,.int .i64 a0_4,.int .i64 a0_5,.string a0_6] 26 (0,0)) (by (with_reducible repeat first|apply b1_|apply b2_|apply b3_);exact BK219.out) hb);have n1_:=m_ (l5_ (by repeat (first|(with_reducible first|exact HB.out|apply l1_|apply l2_|apply l3_|refine l4_ ?_ GE219.out)|exact HB.out)) hb);clear BK219;clear HB;have BK219:=n0_;have HB:=n1_;clear n0_ n1_;(try clear hb);(try clear hb2);(try clear hk);(try clear hi);have hcz24_0 : w23.cell? ⟨gb219,0,none⟩ = some (.int .i64 a0_0):=(c_ BK219.out 0).trans rfl;have hcz24_1 : w23.cell? ⟨gb219,1,none⟩ = some (.int .i64 a0_1):=(c_ BK219.out 1).trans rfl;have hcz24_2 : w23.cell? ⟨gb219,2,none⟩ = some (.int .i64 a0_2):=(c_ BK219.out 2).trans rfl;have hcz24_3 : w23.cell? ⟨gb219,3,none⟩ = some (.int .i64 a0_3):=(c_ BK219.out 3).trans rfl;have hcz24_4 : w23.cell? ⟨gb219,4,none⟩ = some (.int .i64 a0_4):=(c_ BK219.out 4).trans rfl;have hcz24_5 : w23.cell? ⟨gb219,5,none⟩ = some (.int .i64 a0_5):=(c_ BK219.out 5).trans rfl;have hcz24_6 : w23.cell? ⟨gb219,6,none⟩ = some (.string a0_6):=(c_ BK219.out 6).trans rfl)|(go_at_call 28;(with_reducible refine (impl_End_any.calls a0_3 a0_4 true _ A4.out).mono ?_);rintro e w25 ⟨rfl,hb⟩;have n0_:=m_ (blk_below (g:=gb219) (o:=.cells #[.int .i64 a0_0,.int .i64 a0_1,.int .i64 a0_2,.int .i64 a0_3,.int .i64 a0_4,.int .i64 a0_5,.string a0_6] 26 (0,0)) (by (with_reducible repeat first|apply b1_|apply b2_|apply b3_);exact BK219.out) hb);have n1_:=m_ (l5_ (by repeat (first|(with_reducible first|exact HB.out|apply l1_|apply l2_|apply l3_|refine l4_ ?_ GE219.out)|exact HB.out)) hb);clear BK219;clear HB;have BK219:=n0_;have HB:=n1_;clear n0_ n1_;(try clear hb);(try clear hb2);(try clear hk);(try clear hi);have hcz26_0 : w25.cell? ⟨gb219,0,none⟩ = some (.int .i64 a0_0):=(c_ BK219.out 0).trans rfl;have hcz26_1 : w25.cell? ⟨gb219,1,none⟩ = some (.int .i64 a0_1):=(c_ BK219.out 1).trans rfl;have hcz26_2 : w25.cell? ⟨gb219,2,none⟩ = some (.int .i64 a0_2):=(c_ BK219.out 2).trans rfl;have hcz26_3 : w25.cell? ⟨gb219,3,none⟩ = some (.int .i64 a0_3):=(c_ BK219.out 3).trans rfl;have hcz26_4 : w25.cell? ⟨gb219,4,none⟩ = some (.int .i64 a0_4):=(c_ BK219.out 4).trans rfl;have hcz26_5 : w25.cell? ⟨gb219,5,none⟩ = some (.int .i64 a0_5):=(c_ BK219.out 5).trans rfl;have hcz26_6 : w25.cell? ⟨gb219,6,none⟩ = some (.string a0_6):=(c_ BK219.out 6).trans rfl)|(go_at_call 24;(with_reducible refine (impl_within.calls a0_5 0 99 true _ A6.out).mono ?_);rintro e w' ⟨rfl,⟨nd,rfl⟩⟩)|(go_at_call 29;(with_reducible refine (impl_TextOk.calls a0_6 true _ A9.out).mono ?_);rintro e w27 ⟨rfl,hb⟩;have n0_:=m_ (blk_below (g:=gb219) (o:=.cells #[.int .i64 a0_0,.int .i64 a0_1,.int .i64 a0_2,.int .i64 a0_3,.int .i64 a0_4,.int .i64 a0_5,.string a0_6] 26 (0,0)) (by (with_reducible repeat first|apply b1_|apply b2_|apply b3_);exact BK219.out) hb);have n1_:=m_ (l5_ (by repeat (first|(with_reducible first|exact HB.out|apply l1_|apply l2_|apply l3_|refine l4_ ?_ GE219.out)|exact HB.out)) hb);clear BK219;clear HB;have BK219:=n0_;have HB:=n1_;clear n0_ n1_;(try clear hb);(try clear hb2);(try clear hk);(try clear hi);have hcz28_0 : w27.cell? ⟨gb219,0,none⟩ = some (.int .i64 a0_0):=(c_ BK219.out 0).trans rfl;have hcz28_1 : w27.cell? ⟨gb219,1,none⟩ = some (.int .i64 a0_1):=(c_ BK219.out 1).trans rfl;have hcz28_2 : w27.cell? ⟨gb219,2,none⟩ = some (.int .i64 a0_2):=(c_ BK219.out 2).trans rfl;have hcz28_3 : w27.cell? ⟨gb219,3,none⟩ = some (.int .i64 a0_3):=(c_ BK219.out 3).trans rfl;have hcz28_4 : w27.cell? ⟨gb219,4,none⟩ = some (.int .i64 a0_4):=(c_ BK219.out 4).trans rfl;have hcz28_5 : w27.cell? ⟨gb219,5,none⟩ = some (.int .i64 a0_5):=(c_ BK219.out 5).trans rfl;have hcz28_6 : w27.cell? ⟨gb219,6,none⟩ = some (.string a0_6):=(c_ BK219.out 6).trans rfl))
        go_ret
        exact ⟨by first|rfl|(simp [e1_,e2_] <;> rfl)|(simp [*,e1_,e2_] <;> rfl)|(simp [e1_,e2_,pk_empty1,pk_empty2];done)|(simp [*,e1_,e2_,pk_empty1,pk_empty2];done),by repeat (first|(with_reducible first|exact HB.out|apply l1_|apply l2_|apply l3_|refine l4_ ?_ GE219.out)|exact HB.out)⟩
      ·rw [if_neg c11] at H
       have c11b0 : a0_6.toList.isEmpty = false:=by simpa using c11
       have c11b1 : (a0_6.toList == ([] : List UInt8)) = false:=beq_eq_false_iff_ne.mpr c11
       have c11b2 : (a0_6.toList != ([] : List UInt8)) = true:=bne_iff_ne.mpr c11
       obtain rfl:=Option.some.inj H
       go_enter Tryd.func11,Tryd.ntmps11
       go_wp2_with (first|((with_reducible refine gate_dst (N:=1) rfl ?_);refine box_event ?hg (N:=1) ?hd (cs:=#[.int .i64 a0_0,.int .i64 a0_1,.int .i64 a0_2,.int .i64 a0_3,.int .i64 a0_4,.int .i64 a0_5,.string a0_6]) (t:=26) ?hr ?_;(case hd=>rfl);(case hg=>rfl);(case hr=>first|(go_simp;done)|(go_simp;rfl));intro gb219 hg w29 hbox hb;have n0_:=m_ (l5_ (by repeat (first|(with_reducible first|exact HB.out|apply l1_|apply l2_|apply l3_)|exact HB.out)) hb);have n1_:=m_ (hbox);have n2_:=m_ ((by rw [hg];exact (l6_ (by repeat (first|(with_reducible first|exact HB.out|apply l1_|apply l2_|apply l3_)|exact HB.out))) : w.heap.size ≤ gb219));have n3_:=m_ ((by rw [hg];exact (l6_ (by repeat (first|(with_reducible first|exact HB.out|apply l1_|apply l2_|apply l3_)|exact HB.out))) : w.heap.size ≤ gb219));clear HB;have HB:=n0_;have BK219:=n1_;have GW219:=n2_;have GE219:=n3_;clear n0_ n1_ n2_ n3_;clear hb hbox hg;have hcz30_0 : w29.cell? ⟨gb219,0,none⟩ = some (.int .i64 a0_0):=(c_ BK219.out 0).trans rfl;have hcz30_1 : w29.cell? ⟨gb219,1,none⟩ = some (.int .i64 a0_1):=(c_ BK219.out 1).trans rfl;have hcz30_2 : w29.cell? ⟨gb219,2,none⟩ = some (.int .i64 a0_2):=(c_ BK219.out 2).trans rfl;have hcz30_3 : w29.cell? ⟨gb219,3,none⟩ = some (.int .i64 a0_3):=(c_ BK219.out 3).trans rfl;have hcz30_4 : w29.cell? ⟨gb219,4,none⟩ = some (.int .i64 a0_4):=(c_ BK219.out 4).trans rfl;have hcz30_5 : w29.cell? ⟨gb219,5,none⟩ = some (.int .i64 a0_5):=(c_ BK219.out 5).trans rfl;have hcz30_6 : w29.cell? ⟨gb219,6,none⟩ = some (.string a0_6):=(c_ BK219.out 6).trans rfl)|((with_reducible refine gate_callee (f:=28) rfl ?_);refine goesL_ (some 5) rfl rfl Tryd.func28 (by kernel_rfl) rfl #[.agg #[.int .i64 a0_1,.int .i64 a0_2]] rfl (by (try simp only [List.map_toArray,List.map_cons,List.map_nil]);first|done|rfl|(simp only [List.length_drop,List.length_take];rfl)) ?_;(with_reducible refine (impl_End_any.calls a0_1 a0_2 true _ A2.out).mono ?_);rintro e w31 ⟨rfl,hb⟩;refine ⟨_,rfl,?_⟩;have n0_:=m_ (blk_below (g:=gb219) (o:=.cells #[.int .i64 a0_0,.int .i64 a0_1,.int .i64 a0_2,.int .i64 a0_3,.int .i64 a0_4,.int .i64 a0_5,.string a0_6] 26 (0,0)) (by (with_reducible repeat first|apply b1_|apply b2_|apply b3_);exact BK219.out) hb);have n1_:=m_ (l5_ (by repeat (first|(with_reducible first|exact HB.out|apply l1_|apply l2_|apply l3_|refine l4_ ?_ GE219.out)|exact HB.out)) hb);clear BK219;clear HB;have BK219:=n0_;have HB:=n1_;clear n0_ n1_;(try clear hb);(try clear hb2);(try clear hk);(try clear hi);have hcz32_0 : w31.cell? ⟨gb219,0,none⟩ = some (.int .i64 a0_0):=(c_ BK219.out 0).trans rfl;have hcz32_1 : w31.cell? ⟨gb219,1,none⟩ = some (.int .i64 a0_1):=(c_ BK219.out 1).trans rfl;have hcz32_2 : w31.cell? ⟨gb219,2,none⟩ = some (.int .i64 a0_2):=(c_ BK219.out 2).trans rfl;have hcz32_3 : w31.cell? ⟨gb219,3,none⟩ = some (.int .i64 a0_3):=(c_ BK219.out 3).trans rfl;have hcz32_4 : w31.cell? ⟨gb219,4,none⟩ = some (.int .i64 a0_4):=(c_ BK219.out 4).trans rfl;have hcz32_5 : w31.cell? ⟨gb219,5,none⟩ = some (.int .i64 a0_5):=(c_ BK219.out 5).trans rfl;have hcz32_6 : w31.cell? ⟨gb219,6,none⟩ = some (.string a0_6):=(c_ BK219.out 6).trans rfl)|(go_at_call 28;(with_reducible refine (impl_End_any.calls a0_3 a0_4 true _ A4.out).mono ?_);rintro e w33 ⟨rfl,hb⟩;have n0_:=m_ (blk_below (g:=gb219) (o:=.cells #[.int .i64 a0_0,.int .i64 a0_1,.int .i64 a0_2,.int .i64 a0_3,.int .i64 a0_4,.int .i64 a0_5,.string a0_6] 26 (0,0)) (by (with_reducible repeat first|apply b1_|apply b2_|apply b3_);exact BK219.out) hb);have n1_:=m_ (l5_ (by repeat (first|(with_reducible first|exact HB.out|apply l1_|apply l2_|apply l3_|refine l4_ ?_ GE219.out)|exact HB.out)) hb);clear BK219;clear HB;have BK219:=n0_;have HB:=n1_;clear n0_ n1_;(try clear hb);(try clear hb2);(try clear hk);(try clear hi);have hcz34_0 : w33.cell? ⟨gb219,0,none⟩ = some (.int .i64 a0_0):=(c_ BK219.out 0).trans rfl;have hcz34_1 : w33.cell? ⟨gb219,1,none⟩ = some (.int .i64 a0_1):=(c_ BK219.out 1).trans rfl;have hcz34_2 : w33.cell? ⟨gb219,2,none⟩ = some (.int .i64 a0_2):=(c_ BK219.out 2).trans rfl;have hcz34_3 : w33.cell? ⟨gb219,3,none⟩ = some (.int .i64 a0_3):=(c_ BK219.out 3).trans rfl;have hcz34_4 : w33.cell? ⟨gb219,4,none⟩ = some (.int .i64 a0_4):=(c_ BK219.out 4).trans rfl;have hcz34_5 : w33.cell? ⟨gb219,5,none⟩ = some (.int .i64 a0_5):=(c_ BK219.out 5).trans rfl;have hcz34_6 : w33.cell? ⟨gb219,6,none⟩ = some (.string a0_6):=(c_ BK219.out 6).trans rfl)|(go_at_call 24;(with_reducible refine (impl_within.calls a0_5 0 99 true _ A6.out).mono ?_);rintro e w' ⟨rfl,⟨nd,rfl⟩⟩)|(go_at_call 29;(with_reducible refine (impl_TextOk.calls a0_6 true _ A9.out).mono ?_);rintro e w35 ⟨rfl,hb⟩;have n0_:=m_ (blk_below (g:=gb219) (o:=.cells #[.int .i64 a0_0,.int .i64 a0_1,.int .i64 a0_2,.int .i64 a0_3,.int .i64 a0_4,.int .i64 a0_5,.string a0_6] 26 (0,0)) (by (with_reducible repeat first|apply b1_|apply b2_|apply b3_);exact BK219.out) hb);have n1_:=m_ (l5_ (by repeat (first|(with_reducible first|exact HB.out|apply l1_|apply l2_|apply l3_|refine l4_ ?_ GE219.out)|exact HB.out)) hb);clear BK219;clear HB;have BK219:=n0_;have HB:=n1_;clear n0_ n1_;(try clear hb);(try clear hb2);(try clear hk);(try clear hi);have hcz36_0 : w35.cell? ⟨gb219,0,none⟩ = some (.int .i64 a0_0):=(c_ BK219.out 0).trans rfl;have hcz36_1 : w35.cell? ⟨gb219,1,none⟩ = some (.int .i64 a0_1):=(c_ BK219.out 1).trans rfl;have hcz36_2 : w35.cell? ⟨gb219,2,none⟩ = some (.int .i64 a0_2):=(c_ BK219.out 2).trans rfl;have hcz36_3 : w35.cell? ⟨gb219,3,none⟩ = some (.int .i64 a0_3):=(c_ BK219.out 3).trans rfl;have hcz36_4 : w35.cell? ⟨gb219,4,none⟩ = some (.int .i64 a0_4):=(c_ BK219.out 4).trans rfl;have hcz36_5 : w35.cell? ⟨gb219,5,none⟩ = some (.int .i64 a0_5):=(c_ BK219.out 5).trans rfl;have hcz36_6 : w35.cell? ⟨gb219,6,none⟩ = some (.string a0_6):=(c_ BK219.out 6).trans rfl))
       go_ret
       exact ⟨by first|rfl|(simp [e1_,e2_] <;> rfl)|(simp [*,e1_,e2_] <;> rfl)|(simp [e1_,e2_,pk_empty1,pk_empty2];done)|(simp [*,e1_,e2_,pk_empty1,pk_empty2];done),by repeat (first|(with_reducible first|exact HB.out|apply l1_|apply l2_|apply l3_|refine l4_ ?_ GE219.out)|exact HB.out)⟩
     ·replace c10:=Bool.eq_false_iff.mpr c10
      subst c10
      have H1 : (if a0_0 = 2 then (some a0_6.toList.isEmpty) else (some false)) = some r:=by rw [if_neg (show ¬ (false = true) by decide)] at H;exact H
      clear H
      have H:=H1
      clear H1
      by_cases c37 : a0_0 = 2
      ·rw [if_pos c37] at H
       have c37b0 : (a0_0 == 2) = true:=beq_iff_eq.mpr c37
       have c37b1 : (a0_0 != 2) = false:=bne_eq_false_iff_eq.mpr c37
       clear c37
       obtain rfl:=Option.some.inj H
       go_enter Tryd.func11,Tryd.ntmps11
       go_wp2_with (first|((with_reducible refine gate_dst (N:=1) rfl ?_);refine box_event ?hg (N:=1) ?hd (cs:=#[.int .i64 a0_0,.int .i64 a0_1,.int .i64 a0_2,.int .i64 a0_3,.int .i64 a0_4,.int .i64 a0_5,.string a0_6]) (t:=26) ?hr ?_;(case hd=>rfl);(case hg=>rfl);(case hr=>first|(go_simp;done)|(go_simp;rfl));intro gb219 hg w38 hbox hb;have n0_:=m_ (l5_ (by repeat (first|(with_reducible first|exact HB.out|apply l1_|apply l2_|apply l3_)|exact HB.out)) hb);have n1_:=m_ (hbox);have n2_:=m_ ((by rw [hg];exact (l6_ (by repeat (first|(with_reducible first|exact HB.out|apply l1_|apply l2_|apply l3_)|exact HB.out))) : w.heap.size ≤ gb219));have n3_:=m_ ((by rw [hg];exact (l6_ (by repeat (first|(with_reducible first|exact HB.out|apply l1_|apply l2_|apply l3_)|exact HB.out))) : w.heap.size ≤ gb219));clear HB;have HB:=n0_;have BK219:=n1_;have GW219:=n2_;have GE219:=n3_;clear n0_ n1_ n2_ n3_;clear hb hbox hg;have hcz39_0 : w38.cell? ⟨gb219,0,none⟩ = some (.int .i64 a0_0):=(c_ BK219.out 0).trans rfl;have hcz39_1 : w38.cell? ⟨gb219,1,none⟩ = some (.int .i64 a0_1):=(c_ BK219.out 1).trans rfl;have hcz39_2 : w38.cell? ⟨gb219,2,none⟩ = some (.int .i64 a0_2):=(c_ BK219.out 2).trans rfl;have hcz39_3 : w38.cell? ⟨gb219,3,none⟩ = some (.int .i64 a0_3):=(c_ BK219.out 3).trans rfl;have hcz39_4 : w38.cell? ⟨gb219,4,none⟩ = some (.int .i64 a0_4):=(c_ BK219.out 4).trans rfl;have hcz39_5 : w38.cell? ⟨gb219,5,none⟩ = some (.int .i64 a0_5):=(c_ BK219.out 5).trans rfl;have hcz39_6 : w38.cell? ⟨gb219,6,none⟩ = some (.string a0_6):=(c_ BK219.out 6).trans rfl)|((with_reducible refine gate_callee (f:=28) rfl ?_);refine goesL_ (some 5) rfl rfl Tryd.func28 (by kernel_rfl) rfl #[.agg #[.int .i64 a0_1,.int .i64 a0_2]] rfl (by (try simp only [List.map_toArray,List.map_cons,List.map_nil]);first|done|rfl|(simp only [List.length_drop,List.length_take];rfl)) ?_;(with_reducible refine (impl_End_any.calls a0_1 a0_2 true _ A2.out).mono ?_);rintro e w40 ⟨rfl,hb⟩;refine ⟨_,rfl,?_⟩;have n0_:=m_ (blk_below (g:=gb219) (o:=.cells #[.int .i64 a0_0,.int .i64 a0_1,.int .i64 a0_2,.int .i64 a0_3,.int .i64 a0_4,.int .i64 a0_5,.string a0_6] 26 (0,0)) (by (with_reducible repeat first|apply b1_|apply b2_|apply b3_);exact BK219.out) hb);have n1_:=m_ (l5_ (by repeat (first|(with_reducible first|exact HB.out|apply l1_|apply l2_|apply l3_|refine l4_ ?_ GE219.out)|exact HB.out)) hb);clear BK219;clear HB;have BK219:=n0_;have HB:=n1_;clear n0_ n1_;(try clear hb);(try clear hb2);(try clear hk);(try clear hi);have hcz41_0 : w40.cell? ⟨gb219,0,none⟩ = some (.int .i64 a0_0):=(c_ BK219.out 0).trans rfl;have hcz41_1 : w40.cell? ⟨gb219,1,none⟩ = some (.int .i64 a0_1):=(c_ BK219.out 1).trans rfl;have hcz41_2 : w40.cell? ⟨gb219,2,none⟩ = some (.int .i64 a0_2):=(c_ BK219.out 2).trans rfl;have hcz41_3 : w40.cell? ⟨gb219,3,none⟩ = some (.int .i64 a0_3):=(c_ BK219.out 3).trans rfl;have hcz41_4 : w40.cell? ⟨gb219,4,none⟩ = some (.int .i64 a0_4):=(c_ BK219.out 4).trans rfl;have hcz41_5 : w40.cell? ⟨gb219,5,none⟩ = some (.int .i64 a0_5):=(c_ BK219.out 5).trans rfl;have hcz41_6 : w40.cell? ⟨gb219,6,none⟩ = some (.string a0_6):=(c_ BK219.out 6).trans rfl)|(go_at_call 28;(with_reducible refine (impl_End_any.calls a0_3 a0_4 true _ A4.out).mono ?_);rintro e w42 ⟨rfl,hb⟩;have n0_:=m_ (blk_below (g:=gb219) (o:=.cells #[.int .i64 a0_0,.int .i64 a0_1,.int .i64 a0_2,.int .i64 a0_3,.int .i64 a0_4,.int .i64 a0_5,.string a0_6] 26 (0,0)) (by (with_reducible repeat first|apply b1_|apply b2_|apply b3_);exact BK219.out) hb);have n1_:=m_ (l5_ (by repeat (first|(with_reducible first|exact HB.out|apply l1_|apply l2_|apply l3_|refine l4_ ?_ GE219.out)|exact HB.out)) hb);clear BK219;clear HB;have BK219:=n0_;have HB:=n1_;clear n0_ n1_;(try clear hb);(try clear hb2);(try clear hk);(try clear hi);have hcz43_0 : w42.cell? ⟨gb219,0,none⟩ = some (.int .i64 a0_0):=(c_ BK219.out 0).trans rfl;have hcz43_1 : w42.cell? ⟨gb219,1,none⟩ = some (.int .i64 a0_1):=(c_ BK219.out 1).trans rfl;have hcz43_2 : w42.cell? ⟨gb219,2,none⟩ = some (.int .i64 a0_2):=(c_ BK219.out 2).trans rfl;have hcz43_3 : w42.cell? ⟨gb219,3,none⟩ = some (.int .i64 a0_3):=(c_ BK219.out 3).trans rfl;have hcz43_4 : w42.cell? ⟨gb219,4,none⟩ = some (.int .i64 a0_4):=(c_ BK219.out 4).trans rfl;have hcz43_5 : w42.cell? ⟨gb219,5,none⟩ = some (.int .i64 a0_5):=(c_ BK219.out 5).trans rfl;have hcz43_6 : w42.cell? ⟨gb219,6,none⟩ = some (.string a0_6):=(c_ BK219.out 6).trans rfl)|(go_at_call 24;(with_reducible refine (impl_within.calls a0_5 0 99 true _ A6.out).mono ?_);rintro e w' ⟨rfl,⟨nd,rfl⟩⟩)|(go_at_call 29;(with_reducible refine (impl_TextOk.calls a0_6 false _ A9.out).mono ?_);rintro e w44 ⟨rfl,hb⟩;have n0_:=m_ (blk_below (g:=gb219) (o:=.cells #[.int .i64 a0_0,.int .i64 a0_1,.int .i64 a0_2,.int .i64 a0_3,.int .i64 a0_4,.int .i64 a0_5,.string a0_6] 26 (0,0)) (by (with_reducible repeat first|apply b1_|apply b2_|apply b3_);exact BK219.out) hb);have n1_:=m_ (l5_ (by repeat (first|(with_reducible first|exact HB.out|apply l1_|apply l2_|apply l3_|refine l4_ ?_ GE219.out)|exact HB.out)) hb);clear BK219;clear HB;have BK219:=n0_;have HB:=n1_;clear n0_ n1_;(try clear hb);(try clear hb2);(try clear hk);(try clear hi);have hcz45_0 : w44.cell? ⟨gb219,0,none⟩ = some (.int .i64 a0_0):=(c_ BK219.out 0).trans rfl;have hcz45_1 : w44.cell? ⟨gb219,1,none⟩ = some (.int .i64 a0_1):=(c_ BK219.out 1).trans rfl;have hcz45_2 : w44.cell? ⟨gb219,2,none⟩ = some (.int .i64 a0_2):=(c_ BK219.out 2).trans rfl;have hcz45_3 : w44.cell? ⟨gb219,3,none⟩ = some (.int .i64 a0_3):=(c_ BK219.out 3).trans rfl;have hcz45_4 : w44.cell? ⟨gb219,4,none⟩ = some (.int .i64 a0_4):=(c_ BK219.out 4).trans rfl;have hcz45_5 : w44.cell? ⟨gb219,5,none⟩ = some (.int .i64 a0_5):=(c_ BK219.out 5).trans rfl;have hcz45_6 : w44.cell? ⟨gb219,6,none⟩ = some (.string a0_6):=(c_ BK219.out 6).trans rfl))
       go_ret
       exact ⟨by first|rfl|(simp [e1_,e2_] <;> rfl)|(simp [*,e1_,e2_] <;> rfl)|(simp [e1_,e2_,pk_empty1,pk_empty2];done)|(simp [*,e1_,e2_,pk_empty1,pk_empty2];done),by repeat (first|(with_reducible first|exact HB.out|apply l1_|apply l2_|apply l3_|refine l4_ ?_ GE219.out)|exact HB.out)⟩
      ·rw [if_neg c37] at H
       have c37b0 : (a0_0 == 2) = false:=beq_eq_false_iff_ne.mpr c37
       have c37b1 : (a0_0 != 2) = true:=bne_iff_ne.mpr c37
       obtain rfl:=Option.some.inj H
       go_enter Tryd.func11,Tryd.ntmps11
       go_wp2_with (first|((with_reducible refine gate_dst (N:=1) rfl ?_);refine box_event ?hg (N:=1) ?hd (cs:=#[.int .i64 a0_0,.int .i64 a0_1,.int .i64 a0_2,.int .i64 a0_3,.int .i64 a0_4,.int .i64 a0_5,.string a0_6]) (t:=26) ?hr ?_;(case hd=>rfl);(case hg=>rfl);(case hr=>first|(go_simp;done)|(go_simp;rfl));intro gb219 hg w46 hbox hb;have n0_:=m_ (l5_ (by repeat (first|(with_reducible first|exact HB.out|apply l1_|apply l2_|apply l3_)|exact HB.out)) hb);have n1_:=m_ (hbox);have n2_:=m_ ((by rw [hg];exact (l6_ (by repeat (first|(with_reducible first|exact HB.out|apply l1_|apply l2_|apply l3_)|exact HB.out))) : w.heap.size ≤ gb219));have n3_:=m_ ((by rw [hg];exact (l6_ (by repeat (first|(with_reducible first|exact HB.out|apply l1_|apply l2_|apply l3_)|exact HB.out))) : w.heap.size ≤ gb219));clear HB;have HB:=n0_;have BK219:=n1_;have GW219:=n2_;have GE219:=n3_;clear n0_ n1_ n2_ n3_;clear hb hbox hg;have hcz47_0 : w46.cell? ⟨gb219,0,none⟩ = some (.int .i64 a0_0):=(c_ BK219.out 0).trans rfl;have hcz47_1 : w46.cell? ⟨gb219,1,none⟩ = some (.int .i64 a0_1):=(c_ BK219.out 1).trans rfl;have hcz47_2 : w46.cell? ⟨gb219,2,none⟩ = some (.int .i64 a0_2):=(c_ BK219.out 2).trans rfl;have hcz47_3 : w46.cell? ⟨gb219,3,none⟩ = some (.int .i64 a0_3):=(c_ BK219.out 3).trans rfl;have hcz47_4 : w46.cell? ⟨gb219,4,none⟩ = some (.int .i64 a0_4):=(c_ BK219.out 4).trans rfl;have hcz47_5 : w46.cell? ⟨gb219,5,none⟩ = some (.int .i64 a0_5):=(c_ BK219.out 5).trans rfl;have hcz47_6 : w46.cell? ⟨gb219,6,none⟩ = some (.string a0_6):=(c_ BK219.out 6).trans rfl)|((with_reducible refine gate_callee (f:=28) rfl ?_);refine goesL_ (some 5) rfl rfl Tryd.func28 (by kernel_rfl) rfl #[.agg #[.int .i64 a0_1,.int .i64 a0_2]] rfl (by (try simp only [List.map_toArray,List.map_cons,List.map_nil]);first|done|rfl|(simp only [List.length_drop,List.length_take];rfl)) ?_;(with_reducible refine (impl_End_any.calls a0_1 a0_2 true _ A2.out).mono ?_);rintro e w48 ⟨rfl,hb⟩;refine ⟨_,rfl,?_⟩;have n0_:=m_ (blk_below (g:=gb219) (o:=.cells #[.int .i64 a0_0,.int .i64 a0_1,.int .i64 a0_2,.int .i64 a0_3,.int .i64 a0_4,.int .i64 a0_5,.string a0_6] 26 (0,0)) (by (with_reducible repeat first|apply b1_|apply b2_|apply b3_);exact BK219.out) hb);have n1_:=m_ (l5_ (by repeat (first|(with_reducible first|exact HB.out|apply l1_|apply l2_|apply l3_|refine l4_ ?_ GE219.out)|exact HB.out)) hb);clear BK219;clear HB;have BK219:=n0_;have HB:=n1_;clear n0_ n1_;(try clear hb);(try clear hb2);(try clear hk);(try clear hi);have hcz49_0 : w48.cell? ⟨gb219,0,none⟩ = some (.int .i64 a0_0):=(c_ BK219.out 0).trans rfl;have hcz49_1 : w48.cell? ⟨gb219,1,none⟩ = some (.int .i64 a0_1):=(c_ BK219.out 1).trans rfl;have hcz49_2 : w48.cell? ⟨gb219,2,none⟩ = some (.int .i64 a0_2):=(c_ BK219.out 2).trans rfl;have hcz49_3 : w48.cell? ⟨gb219,3,none⟩ = some (.int .i64 a0_3):=(c_ BK219.out 3).trans rfl;have hcz49_4 : w48.cell? ⟨gb219,4,none⟩ = some (.int .i64 a0_4):=(c_ BK219.out 4).trans rfl;have hcz49_5 : w48.cell? ⟨gb219,5,none⟩ = some (.int .i64 a0_5):=(c_ BK219.out 5).trans rfl;have hcz49_6 : w48.cell? ⟨gb219,6,none⟩ = some (.string a0_6):=(c_ BK219.out 6).trans rfl)|(go_at_call 28;(with_reducible refine (impl_End_any.calls a0_3 a0_4 true _ A4.out).mono ?_);rintro e w50 ⟨rfl,hb⟩;have n0_:=m_ (blk_below (g:=gb219) (o:=.cells #[.int .i64 a0_0,.int .i64 a0_1,.int .i64 a0_2,.int .i64 a0_3,.int .i64 a0_4,.int .i64 a0_5,.string a0_6] 26 (0,0)) (by (with_reducible repeat first|apply b1_|apply b2_|apply b3_);exact BK219.out) hb);have n1_:=m_ (l5_ (by repeat (first|(with_reducible first|exact HB.out|apply l1_|apply l2_|apply l3_|refine l4_ ?_ GE219.out)|exact HB.out)) hb);clear BK219;clear HB;have BK219:=n0_;have HB:=n1_;clear n0_ n1_;(try clear hb);(try clear hb2);(try clear hk);(try clear hi);have hcz51_0 : w50.cell? ⟨gb219,0,none⟩ = some (.int .i64 a0_0):=(c_ BK219.out 0).trans rfl;have hcz51_1 : w50.cell? ⟨gb219,1,none⟩ = some (.int .i64 a0_1):=(c_ BK219.out 1).trans rfl;have hcz51_2 : w50.cell? ⟨gb219,2,none⟩ = some (.int .i64 a0_2):=(c_ BK219.out 2).trans rfl;have hcz51_3 : w50.cell? ⟨gb219,3,none⟩ = some (.int .i64 a0_3):=(c_ BK219.out 3).trans rfl;have hcz51_4 : w50.cell? ⟨gb219,4,none⟩ = some (.int .i64 a0_4):=(c_ BK219.out 4).trans rfl;have hcz51_5 : w50.cell? ⟨gb219,5,none⟩ = some (.int .i64 a0_5):=(c_ BK219.out 5).trans rfl;have hcz51_6 : w50.cell? ⟨gb219,6,none⟩ = some (.string a0_6):=(c_ BK219.out 6).trans rfl)|(go_at_call 24;(with_reducible refine (impl_within.calls a0_5 0 99 true _ A6.out).mono ?_);rintro e w' ⟨rfl,⟨nd,rfl⟩⟩)|(go_at_call 29;(with_reducible refine (impl_TextOk.calls a0_6 false _ A9.out).mono ?_);rintro e w52 ⟨rfl,hb⟩;have n0_:=m_ (blk_below (g:=gb219) (o:=.cells #[.int .i64 a0_0,.int .i64 a0_1,.int .i64 a0_2,.int .i64 a0_3,.int .i64 a0_4,.int .i64 a0_5,.string a0_6] 26 (0,0)) (by (with_reducible repeat first|apply b1_|apply b2_|apply b3_);exact BK219.out) hb);have n1_:=m_ (l5_ (by repeat (first|(with_reducible first|exact HB.out|apply l1_|apply l2_|apply l3_|refine l4_ ?_ GE219.out)|exact HB.out)) hb);clear BK219;clear HB;have BK219:=n0_;have HB:=n1_;clear n0_ n1_;(try clear hb);(try clear hb2);(try clear hk);(try clear hi);have hcz53_0 : w52.cell? ⟨gb219,0,none⟩ = some (.int .i64 a0_0):=(c_ BK219.out 0).trans rfl;have hcz53_1 : w52.cell? ⟨gb219,1,none⟩ = some (.int .i64 a0_1):=(c_ BK219.out 1).trans rfl;have hcz53_2 : w52.cell? ⟨gb219,2,none⟩ = some (.int .i64 a0_2):=(c_ BK219.out 2).trans rfl;have hcz53_3 : w52.cell? ⟨gb219,3,none⟩ = some (.int .i64 a0_3):=(c_ BK219.out 3).trans rfl;have hcz53_4 : w52.cell? ⟨gb219,4,none⟩ = some (.int .i64 a0_4):=(c_ BK219.out 4).trans rfl;have hcz53_5 : w52.cell? ⟨gb219,5,none⟩ = some (.int .i64 a0_5):=(c_ BK219.out 5).trans rfl;have hcz53_6 : w52.cell? ⟨gb219,6,none⟩ = some (.string a0_6):=(c_ BK219.out 6).trans rfl))
       go_ret
       exact ⟨by first|rfl|(simp [e1_,e2_] <;> rfl)|(simp [*,e1_,e2_] <;> rfl)|(simp [e1_,e2_,pk_empty1,pk_empty2];done)|(simp [*,e1_,e2_,pk_empty1,pk_empty2];done),by repeat (first|(with_reducible first|exact HB.out|apply l1_|apply l2_|apply l3_|refine l4_ ?_ GE219.out)|exact HB.out)⟩
    ·rw [if_neg c8] at H
     have c8b0 : (a0_0 == 1) = false:=beq_eq_false_iff_ne.mpr c8
     have c8b1 : (a0_0 != 1) = true:=bne_iff_ne.mpr c8
     by_cases c54 : a0_0 = 2
     ·rw [if_pos c54] at H
      have c54b0 : (a0_0 == 2) = true:=beq_iff_eq.mpr c54
      have c54b1 : (a0_0 != 2) = false:=bne_eq_false_iff_eq.mpr c54
      clear c54
      obtain rfl:=Option.some.inj H
      go_enter Tryd.func11,Tryd.ntmps11
      go_wp2_with (first|((with_reducible refine gate_dst (N:=1) rfl ?_);refine box_event ?hg (N:=1) ?hd (cs:=#[.int .i64 a0_0,.int .i64 a0_1,.int .i64 a0_2,.int .i64 a0_3,.int .i64 a0_4,.int .i64 a0_5,.string a0_6]) (t:=26) ?hr ?_;(case hd=>rfl);(case hg=>rfl);(case hr=>first|(go_simp;done)|(go_simp;rfl));intro gb219 hg w55 hbox hb;have n0_:=m_ (l5_ (by repeat (first|(with_reducible first|exact HB.out|apply l1_|apply l2_|apply l3_)|exact HB.out)) hb);have n1_:=m_ (hbox);have n2_:=m_ ((by rw [hg];exact (l6_ (by repeat (first|(with_reducible first|exact HB.out|apply l1_|apply l2_|apply l3_)|exact HB.out))) : w.heap.size ≤ gb219));have n3_:=m_ ((by rw [hg];exact (l6_ (by repeat (first|(with_reducible first|exact HB.out|apply l1_|apply l2_|apply l3_)|exact HB.out))) : w.heap.size ≤ gb219));clear HB;have HB:=n0_;have BK219:=n1_;have GW219:=n2_;have GE219:=n3_;clear n0_ n1_ n2_ n3_;clear hb hbox hg;have hcz56_0 : w55.cell? ⟨gb219,0,none⟩ = some (.int .i64 a0_0):=(c_ BK219.out 0).trans rfl;have hcz56_1 : w55.cell? ⟨gb219,1,none⟩ = some (.int .i64 a0_1):=(c_ BK219.out 1).trans rfl;have hcz56_2 : w55.cell? ⟨gb219,2,none⟩ = some (.int .i64 a0_2):=(c_ BK219.out 2).trans rfl;have hcz56_3 : w55.cell? ⟨gb219,3,none⟩ = some (.int .i64 a0_3):=(c_ BK219.out 3).trans rfl;have hcz56_4 : w55.cell? ⟨gb219,4,none⟩ = some (.int .i64 a0_4):=(c_ BK219.out 4).trans rfl;have hcz56_5 : w55.cell? ⟨gb219,5,none⟩ = some (.int .i64 a0_5):=(c_ BK219.out 5).trans rfl;have hcz56_6 : w55.cell? ⟨gb219,6,none⟩ = some (.string a0_6):=(c_ BK219.out 6).trans rfl)|((with_reducible refine gate_callee (f:=28) rfl ?_);refine goesL_ (some 5) rfl rfl Tryd.func28 (by kernel_rfl) rfl #[.agg #[.int .i64 a0_1,.int .i64 a0_2]] rfl (by (try simp only [List.map_toArray,List.map_cons,List.map_nil]);first|done|rfl|(simp only [List.length_drop,List.length_take];rfl)) ?_;(with_reducible refine (impl_End_any.calls a0_1 a0_2 true _ A2.out).mono ?_);rintro e w57 ⟨rfl,hb⟩;refine ⟨_,rfl,?_⟩;have n0_:=m_ (blk_below (g:=gb219) (o:=.cells #[.int .i64 a0_0,.int .i64 a0_1,.int .i64 a0_2,.int .i64 a0_3,.int .i64 a0_4,.int .i64 a0_5,.string a0_6] 26 (0,0)) (by (with_reducible repeat first|apply b1_|apply b2_|apply b3_);exact BK219.out) hb);have n1_:=m_ (l5_ (by repeat (first|(with_reducible first|exact HB.out|apply l1_|apply l2_|apply l3_|refine l4_ ?_ GE219.out)|exact HB.out)) hb);clear BK219;clear HB;have BK219:=n0_;have HB:=n1_;clear n0_ n1_;(try clear hb);(try clear hb2);(try clear hk);(try clear hi);have hcz58_0 : w57.cell? ⟨gb219,0,none⟩ = some (.int .i64 a0_0):=(c_ BK219.out 0).trans rfl;have hcz58_1 : w57.cell? ⟨gb219,1,none⟩ = some (.int .i64 a0_1):=(c_ BK219.out 1).trans rfl;have hcz58_2 : w57.cell? ⟨gb219,2,none⟩ = some (.int .i64 a0_2):=(c_ BK219.out 2).trans rfl;have hcz58_3 : w57.cell? ⟨gb219,3,none⟩ = some (.int .i64 a0_3):=(c_ BK219.out 3).trans rfl;have hcz58_4 : w57.cell? ⟨gb219,4,none⟩ = some (.int .i64 a0_4):=(c_ BK219.out 4).trans rfl;have hcz58_5 : w57.cell? ⟨gb219,5,none⟩ = some (.int .i64 a0_5):=(c_ BK219.out 5).trans rfl;have hcz58_6 : w57.cell? ⟨gb219,6,none⟩ = some (.string a0_6):=(c_ BK219.out 6).trans rfl)|(go_at_call 28;(with_reducible refine (impl_End_any.calls a0_3 a0_4 true _ A4.out).mono ?_);rintro e w59 ⟨rfl,hb⟩;have n0_:=m_ (blk_below (g:=gb219) (o:=.cells #[.int .i64 a0_0,.int .i64 a0_1,.int .i64 a0_2,.int .i64 a0_3,.int .i64 a0_4,.int .i64 a0_5,.string a0_6] 26 (0,0)) (by (with_reducible repeat first|apply b1_|apply b2_|apply b3_);exact BK219.out) hb);have n1_:=m_ (l5_ (by repeat (first|(with_reducible first|exact HB.out|apply l1_|apply l2_|apply l3_|refine l4_ ?_ GE219.out)|exact HB.out)) hb);clear BK219;clear HB;have BK219:=n0_;have HB:=n1_;clear n0_ n1_;(try clear hb);(try clear hb2);(try clear hk);(try clear hi);have hcz60_0 : w59.cell? ⟨gb219,0,none⟩ = some (.int .i64 a0_0):=(c_ BK219.out 0).trans rfl;have hcz60_1 : w59.cell? ⟨gb219,1,none⟩ = some (.int .i64 a0_1):=(c_ BK219.out 1).trans rfl;have hcz60_2 : w59.cell? ⟨gb219,2,none⟩ = some (.int .i64 a0_2):=(c_ BK219.out 2).trans rfl;have hcz60_3 : w59.cell? ⟨gb219,3,none⟩ = some (.int .i64 a0_3):=(c_ BK219.out 3).trans rfl;have hcz60_4 : w59.cell? ⟨gb219,4,none⟩ = some (.int .i64 a0_4):=(c_ BK219.out 4).trans rfl;have hcz60_5 : w59.cell? ⟨gb219,5,none⟩ = some (.int .i64 a0_5):=(c_ BK219.out 5).trans rfl;have hcz60_6 : w59.cell? ⟨gb219,6,none⟩ = some (.string a0_6):=(c_ BK219.out 6).trans rfl)|(go_at_call 24;(with_reducible refine (impl_within.calls a0_5 0 99 true _ A6.out).mono ?_);rintro e w' ⟨rfl,⟨nd,rfl⟩⟩))
      go_ret
      exact ⟨by first|rfl|(simp [e1_,e2_] <;> rfl)|(simp [*,e1_,e2_] <;> rfl)|(simp [e1_,e2_,pk_empty1,pk_empty2];done)|(simp [*,e1_,e2_,pk_empty1,pk_empty2];done),by repeat (first|(with_reducible first|exact HB.out|apply l1_|apply l2_|apply l3_|refine l4_ ?_ GE219.out)|exact HB.out)⟩
     ·rw [if_neg c54] at H
      have c54b0 : (a0_0 == 2) = false:=beq_eq_false_iff_ne.mpr c54
      have c54b1 : (a0_0 != 2) = true:=bne_iff_ne.mpr c54
      obtain rfl:=Option.some.inj H
      go_enter Tryd.func11,Tryd.ntmps11
      go_wp2_with (first|((with_reducible refine gate_dst (N:=1) rfl ?_);refine box_event ?hg (N:=1) ?hd (cs:=#[.int .i64 a0_0,.int .i64 a0_1,.int .i64 a0_2,.int .i64 a0_3,.int .i64 a0_4,.int .i64 a0_5,.string a0_6]) (t:=26) ?hr ?_;(case hd=>rfl);(case hg=>rfl);(case hr=>first|(go_simp;done)|(go_simp;rfl));intro gb219 hg w61 hbox hb;have n0_:=m_ (l5_ (by repeat (first|(with_reducible first|exact HB.out|apply l1_|apply l2_|apply l3_)|exact HB.out)) hb);have n1_:=m_ (hbox);have n2_:=m_ ((by rw [hg];exact (l6_ (by repeat (first|(with_reducible first|exact HB.out|apply l1_|apply l2_|apply l3_)|exact HB.out))) : w.heap.size ≤ gb219));have n3_:=m_ ((by rw [hg];exact (l6_ (by repeat (first|(with_reducible first|exact HB.out|apply l1_|apply l2_|apply l3_)|exact HB.out))) : w.heap.size ≤ gb219));clear HB;have HB:=n0_;have BK219:=n1_;have GW219:=n2_;have GE219:=n3_;clear n0_ n1_ n2_ n3_;clear hb hbox hg;have hcz62_0 : w61.cell? ⟨gb219,0,none⟩ = some (.int .i64 a0_0):=(c_ BK219.out 0).trans rfl;have hcz62_1 : w61.cell? ⟨gb219,1,none⟩ = some (.int .i64 a0_1):=(c_ BK219.out 1).trans rfl;have hcz62_2 : w61.cell? ⟨gb219,2,none⟩ = some (.int .i64 a0_2):=(c_ BK219.out 2).trans rfl;have hcz62_3 : w61.cell? ⟨gb219,3,none⟩ = some (.int .i64 a0_3):=(c_ BK219.out 3).trans rfl;have hcz62_4 : w61.cell? ⟨gb219,4,none⟩ = some (.int .i64 a0_4):=(c_ BK219.out 4).trans rfl;have hcz62_5 : w61.cell? ⟨gb219,5,none⟩ = some (.int .i64 a0_5):=(c_ BK219.out 5).trans rfl;have hcz62_6 : w61.cell? ⟨gb219,6,none⟩ = some (.string a0_6):=(c_ BK219.out 6).trans rfl)|((with_reducible refine gate_callee (f:=28) rfl ?_);refine goesL_ (some 5) rfl rfl Tryd.func28 (by kernel_rfl) rfl #[.agg #[.int .i64 a0_1,.int .i64 a0_2]] rfl (by (try simp only [List.map_toArray,List.map_cons,List.map_nil]);first|done|rfl|(simp only [List.length_drop,List.length_take];rfl)) ?_;(with_reducible refine (impl_End_any.calls a0_1 a0_2 true _ A2.out).mono ?_);rintro e w63 ⟨rfl,hb⟩;refine ⟨_,rfl,?_⟩;have n0_:=m_ (blk_below (g:=gb219) (o:=.cells #[.int .i64 a0_0,.int .i64 a0_1,.int .i64 a0_2,.int .i64 a0_3,.int .i64 a0_4,.int .i64 a0_5,.string a0_6] 26 (0,0)) (by (with_reducible repeat first|apply b1_|apply b2_|apply b3_);exact BK219.out) hb);have n1_:=m_ (l5_ (by repeat (first|(with_reducible first|exact HB.out|apply l1_|apply l2_|apply l3_|refine l4_ ?_ GE219.out)|exact HB.out)) hb);clear BK219;clear HB;have BK219:=n0_;have HB:=n1_;clear n0_ n1_;(try clear hb);(try clear hb2);(try clear hk);(try clear hi);have hcz64_0 : w63.cell? ⟨gb219,0,none⟩ = some (.int .i64 a0_0):=(c_ BK219.out 0).trans rfl;have hcz64_1 : w63.cell? ⟨gb219,1,none⟩ = some (.int .i64 a0_1):=(c_ BK219.out 1).trans rfl;have hcz64_2 : w63.cell? ⟨gb219,2,none⟩ = some (.int .i64 a0_2):=(c_ BK219.out 2).trans rfl;have hcz64_3 : w63.cell? ⟨gb219,3,none⟩ = some (.int .i64 a0_3):=(c_ BK219.out 3).trans rfl;have hcz64_4 : w63.cell? ⟨gb219,4,none⟩ = some (.int .i64 a0_4):=(c_ BK219.out 4).trans rfl;have hcz64_5 : w63.cell? ⟨gb219,5,none⟩ = some (.int .i64 a0_5):=(c_ BK219.out 5).trans rfl;have hcz64_6 : w63.cell? ⟨gb219,6,none⟩ = some (.string a0_6):=(c_ BK219.out 6).trans rfl)|(go_at_call 28;(with_reducible refine (impl_End_any.calls a0_3 a0_4 true _ A4.out).mono ?_);rintro e w65 ⟨rfl,hb⟩;have n0_:=m_ (blk_below (g:=gb219) (o:=.cells #[.int .i64 a0_0,.int .i64 a0_1,.int .i64 a0_2,.int .i64 a0_3,.int .i64 a0_4,.int .i64 a0_5,.string a0_6] 26 (0,0)) (by (with_reducible repeat first|apply b1_|apply b2_|apply b3_);exact BK219.out) hb);have n1_:=m_ (l5_ (by repeat (first|(with_reducible first|exact HB.out|apply l1_|apply l2_|apply l3_|refine l4_ ?_ GE219.out)|exact HB.out)) hb);clear BK219;clear HB;have BK219:=n0_;have HB:=n1_;clear n0_ n1_;(try clear hb);(try clear hb2);(try clear hk);(try clear hi);have hcz66_0 : w65.cell? ⟨gb219,0,none⟩ = some (.int .i64 a0_0):=(c_ BK219.out 0).trans rfl;have hcz66_1 : w65.cell? ⟨gb219,1,none⟩ = some (.int .i64 a0_1):=(c_ BK219.out 1).trans rfl;have hcz66_2 : w65.cell? ⟨gb219,2,none⟩ = some (.int .i64 a0_2):=(c_ BK219.out 2).trans rfl;have hcz66_3 : w65.cell? ⟨gb219,3,none⟩ = some (.int .i64 a0_3):=(c_ BK219.out 3).trans rfl;have hcz66_4 : w65.cell? ⟨gb219,4,none⟩ = some (.int .i64 a0_4):=(c_ BK219.out 4).trans rfl;have hcz66_5 : w65.cell? ⟨gb219,5,none⟩ = some (.int .i64 a0_5):=(c_ BK219.out 5).trans rfl;have hcz66_6 : w65.cell? ⟨gb219,6,none⟩ = some (.string a0_6):=(c_ BK219.out 6).trans rfl)|(go_at_call 24;(with_reducible refine (impl_within.calls a0_5 0 99 true _ A6.out).mono ?_);rintro e w' ⟨rfl,⟨nd,rfl⟩⟩))
      go_ret
      exact ⟨by first|rfl|(simp [e1_,e2_] <;> rfl)|(simp [*,e1_,e2_] <;> rfl)|(simp [e1_,e2_,pk_empty1,pk_empty2];done)|(simp [*,e1_,e2_,pk_empty1,pk_empty2];done),by repeat (first|(with_reducible first|exact HB.out|apply l1_|apply l2_|apply l3_|refine l4_ ?_ GE219.out)|exact HB.out)⟩
   ·replace c7:=Bool.eq_false_iff.mpr c7
    subst c7
    have H1 : (some false) = some r:=by rw [if_neg (show ¬ (false = true) by decide)] at H;exact H
    clear H
    have H:=H1
    clear H1
    obtain rfl:=Option.some.inj H
    go_enter Tryd.func11,Tryd.ntmps11
    go_wp2_with (first|((with_reducible refine gate_dst (N:=1) rfl ?_);refine box_event ?hg (N:=1) ?hd (cs:=#[.int .i64 a0_0,.int .i64 a0_1,.int .i64 a0_2,.int .i64 a0_3,.int .i64 a0_4,.int .i64 a0_5,.string a0_6]) (t:=26) ?hr ?_;(case hd=>rfl);(case hg=>rfl);(case hr=>first|(go_simp;done)|(go_simp;rfl));intro gb219 hg w67 hbox hb;have n0_:=m_ (l5_ (by repeat (first|(with_reducible first|exact HB.out|apply l1_|apply l2_|apply l3_)|exact HB.out)) hb);have n1_:=m_ (hbox);have n2_:=m_ ((by rw [hg];exact (l6_ (by repeat (first|(with_reducible first|exact HB.out|apply l1_|apply l2_|apply l3_)|exact HB.out))) : w.heap.size ≤ gb219));have n3_:=m_ ((by rw [hg];exact (l6_ (by repeat (first|(with_reducible first|exact HB.out|apply l1_|apply l2_|apply l3_)|exact HB.out))) : w.heap.size ≤ gb219));clear HB;have HB:=n0_;have BK219:=n1_;have GW219:=n2_;have GE219:=n3_;clear n0_ n1_ n2_ n3_;clear hb hbox hg;have hcz68_0 : w67.cell? ⟨gb219,0,none⟩ = some (.int .i64 a0_0):=(c_ BK219.out 0).trans rfl;have hcz68_1 : w67.cell? ⟨gb219,1,none⟩ = some (.int .i64 a0_1):=(c_ BK219.out 1).trans rfl;have hcz68_2 : w67.cell? ⟨gb219,2,none⟩ = some (.int .i64 a0_2):=(c_ BK219.out 2).trans rfl;have hcz68_3 : w67.cell? ⟨gb219,3,none⟩ = some (.int .i64 a0_3):=(c_ BK219.out 3).trans rfl;have hcz68_4 : w67.cell? ⟨gb219,4,none⟩ = some (.int .i64 a0_4):=(c_ BK219.out 4).trans rfl;have hcz68_5 : w67.cell? ⟨gb219,5,none⟩ = some (.int .i64 a0_5):=(c_ BK219.out 5).trans rfl;have hcz68_6 : w67.cell? ⟨gb219,6,none⟩ = some (.string a0_6):=(c_ BK219.out 6).trans rfl)|((with_reducible refine gate_callee (f:=28) rfl ?_);refine goesL_ (some 5) rfl rfl Tryd.func28 (by kernel_rfl) rfl #[.agg #[.int .i64 a0_1,.int .i64 a0_2]] rfl (by (try simp only [List.map_toArray,List.map_cons,List.map_nil]);first|done|rfl|(simp only [List.length_drop,List.length_take];rfl)) ?_;(with_reducible refine (impl_End_any.calls a0_1 a0_2 true _ A2.out).mono ?_);rintro e w69 ⟨rfl,hb⟩;refine ⟨_,rfl,?_⟩;have n0_:=m_ (blk_below (g:=gb219) (o:=.cells #[.int .i64 a0_0,.int .i64 a0_1,.int .i64 a0_2,.int .i64 a0_3,.int .i64 a0_4,.int .i64 a0_5,.string a0_6] 26 (0,0)) (by (with_reducible repeat first|apply b1_|apply b2_|apply b3_);exact BK219.out) hb);have n1_:=m_ (l5_ (by repeat (first|(with_reducible first|exact HB.out|apply l1_|apply l2_|apply l3_|refine l4_ ?_ GE219.out)|exact HB.out)) hb);clear BK219;clear HB;have BK219:=n0_;have HB:=n1_;clear n0_ n1_;(try clear hb);(try clear hb2);(try clear hk);(try clear hi);have hcz70_0 : w69.cell? ⟨gb219,0,none⟩ = some (.int .i64 a0_0):=(c_ BK219.out 0).trans rfl;have hcz70_1 : w69.cell? ⟨gb219,1,none⟩ = some (.int .i64 a0_1):=(c_ BK219.out 1).trans rfl;have hcz70_2 : w69.cell? ⟨gb219,2,none⟩ = some (.int .i64 a0_2):=(c_ BK219.out 2).trans rfl;have hcz70_3 : w69.cell? ⟨gb219,3,none⟩ = some (.int .i64 a0_3):=(c_ BK219.out 3).trans rfl;have hcz70_4 : w69.cell? ⟨gb219,4,none⟩ = some (.int .i64 a0_4):=(c_ BK219.out 4).trans rfl;have hcz70_5 : w69.cell? ⟨gb219,5,none⟩ = some (.int .i64 a0_5):=(c_ BK219.out 5).trans rfl;have hcz70_6 : w69.cell? ⟨gb219,6,none⟩ = some (.string a0_6):=(c_ BK219.out 6).trans rfl)|(go_at_call 28;(with_reducible refine (impl_End_any.calls a0_3 a0_4 true _ A4.out).mono ?_);rintro e w71 ⟨rfl,hb⟩;have n0_:=m_ (blk_below (g:=gb219) (o:=.cells #[.int .i64 a0_0,.int .i64 a0_1,.int .i64 a0_2,.int .i64 a0_3,.int .i64 a0_4,.int .i64 a0_5,.string a0_6] 26 (0,0)) (by (with_reducible repeat first|apply b1_|apply b2_|apply b3_);exact BK219.out) hb);have n1_:=m_ (l5_ (by repeat (first|(with_reducible first|exact HB.out|apply l1_|apply l2_|apply l3_|refine l4_ ?_ GE219.out)|exact HB.out)) hb);clear BK219;clear HB;have BK219:=n0_;have HB:=n1_;clear n0_ n1_;(try clear hb);(try clear hb2);(try clear hk);(try clear hi);have hcz72_0 : w71.cell? ⟨gb219,0,none⟩ = some (.int .i64 a0_0):=(c_ BK219.out 0).trans rfl;have hcz72_1 : w71.cell? ⟨gb219,1,none⟩ = some (.int .i64 a0_1):=(c_ BK219.out 1).trans rfl;have hcz72_2 : w71.cell? ⟨gb219,2,none⟩ = some (.int .i64 a0_2):=(c_ BK219.out 2).trans rfl;have hcz72_3 : w71.cell? ⟨gb219,3,none⟩ = some (.int .i64 a0_3):=(c_ BK219.out 3).trans rfl;have hcz72_4 : w71.cell? ⟨gb219,4,none⟩ = some (.int .i64 a0_4):=(c_ BK219.out 4).trans rfl;have hcz72_5 : w71.cell? ⟨gb219,5,none⟩ = some (.int .i64 a0_5):=(c_ BK219.out 5).trans rfl;have hcz72_6 : w71.cell? ⟨gb219,6,none⟩ = some (.string a0_6):=(c_ BK219.out 6).trans rfl)|(go_at_call 24;(with_reducible refine (impl_within.calls a0_5 0 99 false _ A6.out).mono ?_);rintro e w' ⟨rfl,⟨nd,rfl⟩⟩))
    go_ret
    exact ⟨by first|rfl|(simp [e1_,e2_] <;> rfl)|(simp [*,e1_,e2_] <;> rfl)|(simp [e1_,e2_,pk_empty1,pk_empty2];done)|(simp [*,e1_,e2_,pk_empty1,pk_empty2];done),by repeat (first|(with_reducible first|exact HB.out|apply l1_|apply l2_|apply l3_|refine l4_ ?_ GE219.out)|exact HB.out)⟩
  ·replace c5:=Bool.eq_false_iff.mpr c5
   subst c5
   have H1 : (some false) = some r:=by rw [if_neg (show ¬ (false = true) by decide)] at H;exact H
   clear H
   have H:=H1
   clear H1
   obtain rfl:=Option.some.inj H
   go_enter Tryd.func11,Tryd.ntmps11
   go_wp2_with (first|((with_reducible refine gate_dst (N:=1) rfl ?_);refine box_event ?hg (N:=1) ?hd (cs:=#[.int .i64 a0_0,.int .i64 a0_1,.int .i64 a0_2,.int .i64 a0_3,.int .i64 a0_4,.int .i64 a0_5,.string a0_6]) (t:=26) ?hr ?_;(case hd=>rfl);(case hg=>rfl);(case hr=>first|(go_simp;done)|(go_simp;rfl));intro gb219 hg w73 hbox hb;have n0_:=m_ (l5_ (by repeat (first|(with_reducible first|exact HB.out|apply l1_|apply l2_|apply l3_)|exact HB.out)) hb);have n1_:=m_ (hbox);have n2_:=m_ ((by rw [hg];exact (l6_ (by repeat (first|(with_reducible first|exact HB.out|apply l1_|apply l2_|apply l3_)|exact HB.out))) : w.heap.size ≤ gb219));have n3_:=m_ ((by rw [hg];exact (l6_ (by repeat (first|(with_reducible first|exact HB.out|apply l1_|apply l2_|apply l3_)|exact HB.out))) : w.heap.size ≤ gb219));clear HB;have HB:=n0_;have BK219:=n1_;have GW219:=n2_;have GE219:=n3_;clear n0_ n1_ n2_ n3_;clear hb hbox hg;have hcz74_0 : w73.cell? ⟨gb219,0,none⟩ = some (.int .i64 a0_0):=(c_ BK219.out 0).trans rfl;have hcz74_1 : w73.cell? ⟨gb219,1,none⟩ = some (.int .i64 a0_1):=(c_ BK219.out 1).trans rfl;have hcz74_2 : w73.cell? ⟨gb219,2,none⟩ = some (.int .i64 a0_2):=(c_ BK219.out 2).trans rfl;have hcz74_3 : w73.cell? ⟨gb219,3,none⟩ = some (.int .i64 a0_3):=(c_ BK219.out 3).trans rfl;have hcz74_4 : w73.cell? ⟨gb219,4,none⟩ = some (.int .i64 a0_4):=(c_ BK219.out 4).trans rfl;have hcz74_5 : w73.cell? ⟨gb219,5,none⟩ = some (.int .i64 a0_5):=(c_ BK219.out 5).trans rfl;have hcz74_6 : w73.cell? ⟨gb219,6,none⟩ = some (.string a0_6):=(c_ BK219.out 6).trans rfl)|((with_reducible refine gate_callee (f:=28) rfl ?_);refine goesL_ (some 5) rfl rfl Tryd.func28 (by kernel_rfl) rfl #[.agg #[.int .i64 a0_1,.int .i64 a0_2]] rfl (by (try simp only [List.map_toArray,List.map_cons,List.map_nil]);first|done|rfl|(simp only [List.length_drop,List.length_take];rfl)) ?_;(with_reducible refine (impl_End_any.calls a0_1 a0_2 true _ A2.out).mono ?_);rintro e w75 ⟨rfl,hb⟩;refine ⟨_,rfl,?_⟩;have n0_:=m_ (blk_below (g:=gb219) (o:=.cells #[.int .i64 a0_0,.int .i64 a0_1,.int .i64 a0_2,.int .i64 a0_3,.int .i64 a0_4,.int .i64 a0_5,.string a0_6] 26 (0,0)) (by (with_reducible repeat first|apply b1_|apply b2_|apply b3_);exact BK219.out) hb);have n1_:=m_ (l5_ (by repeat (first|(with_reducible first|exact HB.out|apply l1_|apply l2_|apply l3_|refine l4_ ?_ GE219.out)|exact HB.out)) hb);clear BK219;clear HB;have BK219:=n0_;have HB:=n1_;clear n0_ n1_;(try clear hb);(try clear hb2);(try clear hk);(try clear hi);have hcz76_0 : w75.cell? ⟨gb219,0,none⟩ = some (.int .i64 a0_0):=(c_ BK219.out 0).trans rfl;have hcz76_1 : w75.cell? ⟨gb219,1,none⟩ = some (.int .i64 a0_1):=(c_ BK219.out 1).trans rfl;have hcz76_2 : w75.cell? ⟨gb219,2,none⟩ = some (.int .i64 a0_2):=(c_ BK219.out 2).trans rfl;have hcz76_3 : w75.cell? ⟨gb219,3,none⟩ = some (.int .i64 a0_3):=(c_ BK219.out 3).trans rfl;have hcz76_4 : w75.cell? ⟨gb219,4,none⟩ = some (.int .i64 a0_4):=(c_ BK219.out 4).trans rfl;have hcz76_5 : w75.cell? ⟨gb219,5,none⟩ = some (.int .i64 a0_5):=(c_ BK219.out 5).trans rfl;have hcz76_6 : w75.cell? ⟨gb219,6,none⟩ = some (.string a0_6):=(c_ BK219.out 6).trans rfl)|(go_at_call 28;(with_reducible refine (impl_End_any.calls a0_3 a0_4 false _ A4.out).mono ?_);rintro e w77 ⟨rfl,hb⟩;have n0_:=m_ (blk_below (g:=gb219) (o:=.cells #[.int .i64 a0_0,.int .i64 a0_1,.int .i64 a0_2,.int .i64 a0_3,.int .i64 a0_4,.int .i64 a0_5,.string a0_6] 26 (0,0)) (by (with_reducible repeat first|apply b1_|apply b2_|apply b3_);exact BK219.out) hb);have n1_:=m_ (l5_ (by repeat (first|(with_reducible first|exact HB.out|apply l1_|apply l2_|apply l3_|refine l4_ ?_ GE219.out)|exact HB.out)) hb);clear BK219;clear HB;have BK219:=n0_;have HB:=n1_;clear n0_ n1_;(try clear hb);(try clear hb2);(try clear hk);(try clear hi)))
   go_ret
   exact ⟨by first|rfl|(simp [e1_,e2_] <;> rfl)|(simp [*,e1_,e2_] <;> rfl)|(simp [e1_,e2_,pk_empty1,pk_empty2];done)|(simp [*,e1_,e2_,pk_empty1,pk_empty2];done),by repeat (first|(with_reducible first|exact HB.out|apply l1_|apply l2_|apply l3_|refine l4_ ?_ GE219.out)|exact HB.out)⟩
 ·replace c3:=Bool.eq_false_iff.mpr c3
  subst c3
  have H1 : (some false) = some r:=by rw [if_neg (show ¬ (false = true) by decide)] at H;exact H
  clear H
  have H:=H1
  clear H1
  obtain rfl:=Option.some.inj H
  go_enter Tryd.func11,Tryd.ntmps11
  go_wp2_with (first|((with_reducible refine gate_dst (N:=1) rfl ?_);refine box_event ?hg (N:=1) ?hd (cs:=#[.int .i64 a0_0,.int .i64 a0_1,.int .i64 a0_2,.int .i64 a0_3,.int .i64 a0_4,.int .i64 a0_5,.string a0_6]) (t:=26) ?hr ?_;(case hd=>rfl);(case hg=>rfl);(case hr=>first|(go_simp;done)|(go_simp;rfl));intro gb219 hg w78 hbox hb;have n0_:=m_ (l5_ (by repeat (first|(with_reducible first|exact HB.out|apply l1_|apply l2_|apply l3_)|exact HB.out)) hb);have n1_:=m_ (hbox);have n2_:=m_ ((by rw [hg];exact (l6_ (by repeat (first|(with_reducible first|exact HB.out|apply l1_|apply l2_|apply l3_)|exact HB.out))) : w.heap.size ≤ gb219));have n3_:=m_ ((by rw [hg];exact (l6_ (by repeat (first|(with_reducible first|exact HB.out|apply l1_|apply l2_|apply l3_)|exact HB.out))) : w.heap.size ≤ gb219));clear HB;have HB:=n0_;have BK219:=n1_;have GW219:=n2_;have GE219:=n3_;clear n0_ n1_ n2_ n3_;clear hb hbox hg;have hcz79_0 : w78.cell? ⟨gb219,0,none⟩ = some (.int .i64 a0_0):=(c_ BK219.out 0).trans rfl;have hcz79_1 : w78.cell? ⟨gb219,1,none⟩ = some (.int .i64 a0_1):=(c_ BK219.out 1).trans rfl;have hcz79_2 : w78.cell? ⟨gb219,2,none⟩ = some (.int .i64 a0_2):=(c_ BK219.out 2).trans rfl;have hcz79_3 : w78.cell? ⟨gb219,3,none⟩ = some (.int .i64 a0_3):=(c_ BK219.out 3).trans rfl;have hcz79_4 : w78.cell? ⟨gb219,4,none⟩ = some (.int .i64 a0_4):=(c_ BK219.out 4).trans rfl;have hcz79_5 : w78.cell? ⟨gb219,5,none⟩ = some (.int .i64 a0_5):=(c_ BK219.out 5).trans rfl;have hcz79_6 : w78.cell? ⟨gb219,6,none⟩ = some (.string a0_6):=(c_ BK219.out 6).trans rfl)|((with_reducible refine gate_callee (f:=28) rfl ?_);refine goesL_ (some 5) rfl rfl Tryd.func28 (by kernel_rfl) rfl #[.agg #[.int .i64 a0_1,.int .i64 a0_2]] rfl (by (try simp only [List.map_toArray,List.map_cons,List.map_nil]);first|done|rfl|(simp only [List.length_drop,List.length_take];rfl)) ?_;(with_reducible refine (impl_End_any.calls a0_1 a0_2 false _ A2.out).mono ?_);rintro e w80 ⟨rfl,hb⟩;refine ⟨_,rfl,?_⟩;have n0_:=m_ (blk_below (g:=gb219) (o:=.cells #[.int .i64 a0_0,.int .i64 a0_1,.int .i64 a0_2,.int .i64 a0_3,.int .i64 a0_4,.int .i64 a0_5,.string a0_6] 26 (0,0)) (by (with_reducible repeat first|apply b1_|apply b2_|apply b3_);exact BK219.out) hb);have n1_:=m_ (l5_ (by repeat (first|(with_reducible first|exact HB.out|apply l1_|apply l2_|apply l3_|refine l4_ ?_ GE219.out)|exact HB.out)) hb);clear BK219;clear HB;have BK219:=n0_;have HB:=n1_;clear n0_ n1_;(try clear hb);(try clear hb2);(try clear hk);(try clear hi)))
  go_ret
  exact ⟨by first|rfl|(simp [e1_,e2_] <;> rfl)|(simp [*,e1_,e2_] <;> rfl)|(simp [e1_,e2_,pk_empty1,pk_empty2];done)|(simp [*,e1_,e2_,pk_empty1,pk_empty2];done),by repeat (first|(with_reducible first|exact HB.out|apply l1_|apply l2_|apply l3_|refine l4_ ?_ GE219.out)|exact HB.out)⟩

/-! ### strconv_Itoa: function 18 -/
/-- Of a number from 0 to 99: its decimals. -/
def strconv_Itoa.f (a0 : Int) : Option (ByteArray) := if 0 ≤ a0 ∧ a0 ≤ 99 then some ⟨(Lib.decDigits a0.toNat).toArray⟩ else none
theorem strconv_Itoa.calls (a0 : Int) (r : ByteArray) (w : World) (h : strconv_Itoa.f a0 = some r) :
  Calls Tryd.prog 18 #[.int .i64 a0] w fun e w'=>e = .returned (.string r) ∧ Below w.heap.size w w':=by
 unfold strconv_Itoa.f at h
 by_cases hs : 0 ≤ a0 ∧ a0 ≤ 99
 ·rw [if_pos hs] at h
  obtain rfl:=Option.some.inj h
  have e : (.int .i64 a0 : Value) = .int .i64 ((a0.toNat : Nat) : Int):=by rw [Int.toNat_of_nonneg hs.1]
  rw [e]
  refine (Go.Proofs.Tryd.strconv_Itoa_small a0.toNat (by omega) w).mono ?_
  rintro e w' ⟨rfl,rfl⟩
  exact ⟨rfl,Below.refl _ _⟩
 ·rw [if_neg hs] at h;cases h

end Go.Proofs.YtejpgpjjocbbjaaDoor.A
