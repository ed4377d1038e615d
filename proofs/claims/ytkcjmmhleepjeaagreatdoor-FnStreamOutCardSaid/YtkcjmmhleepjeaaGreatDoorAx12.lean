-- Printed by myprint.py (wip/tools) out of the translation. Not trusted: Lean checks it.
import Derived.Test.YtkcjmmhleepjeaaGreatDoorAx0
namespace Go.Proofs.YtkcjmmhleepjeaaGreatDoor.A
open Go.RowKit Go.Proofs.YtkcjmmhleepjeaaGreatDoorW.PrintWords Go.Proofs.YtkcjmmhleepjeaaGreatDoorW.PrintLast Go.Proofs.YtkcjmmhleepjeaaGreatDoorW.PrintMore
attribute [local go_sem] max2_int min2_int max_two min_two max_three min_three max_four min_four
set_option linter.unusedVariables false
set_option maxHeartbeats 8000000
set_option maxRecDepth 100000
set_option linter.unusedSimpArgs false

/-! ### impl_figure: function 50 -/
def impl_figure.f (a0 : Int) (a1 : Int) : Option (Bool) := if a0 ≥ a1 then (some (decide (a0 ≤ 57))) else (some false)
theorem impl_figure.calls (a0 : Int) (a1 : Int) (r : Bool) (w : World) (h : impl_figure.f a0 a1 = some r) :
  Calls Tryz.prog 50 #[.int .u8 a0,.int .u8 a1] w fun e w'=>e = .returned (.bool r) ∧ Drawn0 w w':=by
 have H : (if a0 ≥ a1 then (some (decide (a0 ≤ 57))) else (some false)) = some r:=h
 clear h
 by_cases c3 : a0 ≥ a1
 ·rw [if_pos c3] at H
  have c3b0 : decide (a1 ≤ a0) = true:=decide_eq_true c3
  clear c3
  obtain rfl:=Option.some.inj H
  go_enter Tryz.func50,Tryz.ntmps50
  go_wp2
  go_ret
  exact ⟨by first|rfl|(simp;done)|(simp [*];done),drn⟩
 ·rw [if_neg c3] at H
  have c3b0 : decide (a1 ≤ a0) = false:=decide_eq_false c3
  clear c3
  obtain rfl:=Option.some.inj H
  go_enter Tryz.func50,Tryz.ntmps50
  go_wp2
  go_ret
  exact ⟨by first|rfl|(simp;done)|(simp [*];done),drn⟩

/-! ### impl_TextOk: function 35 -/
def tokb (c : Int) : Bool := decide ((97 ≤ c ∧ c ≤ 122) ∨ (48 ≤ c ∧ c ≤ 57) ∨ c = 64 ∨ c = 58 ∨ c = 59)
def impl_TextOk.f (a0 : ByteArray) : Option (Bool) := if a0.size ≤ 140737488355328 then some ((bytesOf a0).all tokb && decide (a0.size ≤ 40)) else none
theorem tok_cell (s : ByteArray) (k : Nat) (h : k < s.size) : ((s.data.toList.getD k 0).toNat : Int) = bt s k := by
 have h' : k < s.data.toList.length:=by rw [data_length];exact h
 simp [bt,h,List.getD_eq_getElem?_getD,List.getElem?_eq_getElem h']
 rfl
set_option maxHeartbeats 4000000 in
set_option maxRecDepth 100000 in
theorem impl_TextOk.calls (a0 : ByteArray) (r : Bool) (w : World) (h : impl_TextOk.f a0 = some r) :
  Calls Tryz.prog 35 #[.string a0] w fun e w'=>e = .returned (.bool r) ∧ Below w.heap.size w w':=by
 unfold impl_TextOk.f at h
 by_cases hs : a0.size ≤ 140737488355328
 ·rw [if_pos hs] at h
  have HR:=m_ (Option.some.inj h)
  clear h
  have kb:=fun W=>print_bytes (P:=Tryz.prog) 9 22 5 Tryz.underlying9 Tryz.underlying22 Tryz.underlying5 a0 W
  go_enter Tryz.func35,Tryz.ntmps35
  go_wp2
  go_loopw [8] (fun i wr=>∃ k : Nat,k ≤ a0.size ∧ i = .int .i64 k ∧ Aside0 (∀ j : Nat,j < k → tokb (bt a0 j) = true) ∧ Aside0 (Drawn0 (Lib.bytesWorld w 5 a0) wr)) (fun i _=>a0.size - (intOf i).toNat)
  case atStart=>exact ⟨0,Nat.zero_le _,rfl,⟨fun j hj=>absurd hj (Nat.not_lt_zero _)⟩,⟨Drawn0.refl _⟩⟩
  case round =>
   obtain ⟨k,hk,rfl,hall,hd⟩:=hrel
   have hb:=bt_range a0 k
   by_cases hlt : k < a0.size
   ·have hcell : wr.cell? ⟨w.heap.size,k,none⟩ = some (.int .u8 (bt a0 k)):=by
     obtain ⟨⟨m,rfl⟩⟩:=hd.out
     show (Lib.bytesWorld w 5 a0).cell? _ = _
     rw [Lib.bytesWorld_cell w 5 a0 k hlt,tok_cell a0 k hlt]
    have hnext:=fun (h1 : tokb (bt a0 k) = true)=>m_ (show ∀ j : Nat,j < k + 1 → tokb (bt a0 j) = true from fun j hj=>by
     by_cases e : j = k
     ·subst e;exact h1
     ·exact hall.out j (by omega))
    have hok : Aside0 (tokb (bt a0 k) = decide ((97 ≤ bt a0 k ∧ bt a0 k ≤ 122) ∨ (48 ≤ bt a0 k ∧ bt a0 k ≤ 57) ∨ bt a0 k = 64 ∨ bt a0 k = 58 ∨ bt a0 k = 59)):=⟨rfl⟩
    have hbad:=fun (h1 : tokb (bt a0 k) = false)=>m_ (show ((bytesOf a0).all tokb && decide (a0.size ≤ 40)) = false from by
     rw [Bool.and_eq_false_iff];left
     rw [List.all_eq_false]
     refine ⟨bt a0 k,?_,by rw [h1];decide⟩
     have hl : k < (bytesOf a0).length:=by rw [bytesOf_length];exact hlt
     have:=List.getElem_mem hl
     rwa [show (bytesOf a0)[k] = bt a0 k from by rw [← rd_bytesOf];simp [rd,List.getD_eq_getElem?_getD,List.getElem?_eq_getElem hl]] at this)
    generalize bt a0 k = c at hb hcell hnext hok hbad
    clear hall
    by_cases c1 : 48 ≤ c ∧ c ≤ 57
    ·have hn:=hnext (by rw [hok.out];exact decide_eq_true (by omega))
     clear hnext hbad hok
     have hf : impl_figure.f c 48 = some true:=by unfold impl_figure.f;rw [if_pos c1.1,decide_eq_true c1.2]
     have HF:=m_ hf
     clear hf c1
     go_wp2_with (go_at_call 50;refine (impl_figure.calls c 48 true _ HF.out).mono ?_;rintro e w' ⟨rfl,⟨nd,rfl⟩⟩)
     go_roundw
     case rel=>exact ⟨k + 1,by omega,by go_num,hn,⟨hd.out.step nd⟩⟩
     case measure=>simp [intOf];omega
    ·skip
     by_cases d64 : c = 64
     ·subst d64
      have hn:=hnext (by rw [hok.out];decide)
      clear hnext hbad hok c1
      have HF:=m_ (show impl_figure.f 64 48 = some false from rfl)
      go_wp2_with (go_at_call 50;refine (impl_figure.calls 64 48 false _ HF.out).mono ?_;rintro e w' ⟨rfl,⟨nd,rfl⟩⟩)
      go_roundw
      case rel=>exact ⟨k + 1,by omega,by go_num,hn,⟨hd.out.step nd⟩⟩
      case measure=>simp [intOf];omega
     by_cases d58 : c = 58
     ·subst d58
      have hn:=hnext (by rw [hok.out];decide)
      clear hnext hbad hok c1
      have HF:=m_ (show impl_figure.f 58 48 = some false from rfl)
      go_wp2_with (go_at_call 50;refine (impl_figure.calls 58 48 false _ HF.out).mono ?_;rintro e w' ⟨rfl,⟨nd,rfl⟩⟩)
      go_roundw
      case rel=>exact ⟨k + 1,by omega,by go_num,hn,⟨hd.out.step nd⟩⟩
      case measure=>simp [intOf];omega
     by_cases d59 : c = 59
     ·subst d59
      have hn:=hnext (by rw [hok.out];decide)
      clear hnext hbad hok c1
      have HF:=m_ (show impl_figure.f 59 48 = some false from rfl)
      go_wp2_with (go_at_call 50;refine (impl_figure.calls 59 48 false _ HF.out).mono ?_;rintro e w' ⟨rfl,⟨nd,rfl⟩⟩)
      go_roundw
      case rel=>exact ⟨k + 1,by omega,by go_num,hn,⟨hd.out.step nd⟩⟩
      case measure=>simp [intOf];omega
     have hf : impl_figure.f c 48 = some false:=by
      unfold impl_figure.f
      by_cases e : c ≥ 48
      ·rw [if_pos e,decide_eq_false (by omega)]
      ·rw [if_neg e]
     have HF:=m_ hf
     have n1 : (c != 64) = true:=bne_iff_ne.2 d64
     have n2 : (c != 58) = true:=bne_iff_ne.2 d58
     have n3 : (c != 59) = true:=bne_iff_ne.2 d59
     clear hf d64 d58 d59
     by_cases c2 : c < 97
     ·obtain rfl : r = false:=by rw [← HR.out];exact (hbad (by rw [hok.out];exact decide_eq_false (by have:=bne_iff_ne.1 n1;have:=bne_iff_ne.1 n2;have:=bne_iff_ne.1 n3;omega))).out
      clear hnext hbad hok c1
      have c2b : decide (c < 97) = true:=decide_eq_true c2
      clear c2
      go_wp2_with (go_at_call 50;refine (impl_figure.calls c 48 false _ HF.out).mono ?_;rintro e w' ⟨rfl,⟨nd,rfl⟩⟩)
      go_ret
      exact ⟨rfl,(bytes_below (Below.refl w.heap.size w) (Nat.le_refl _) 5 a0).trans ((hd.out.step nd).below.mono (by rw [Lib.bytesWorld_size];omega))⟩
     ·by_cases c3 : 122 < c
      ·obtain rfl : r = false:=by rw [← HR.out];exact (hbad (by rw [hok.out];exact decide_eq_false (by have:=bne_iff_ne.1 n1;have:=bne_iff_ne.1 n2;have:=bne_iff_ne.1 n3;omega))).out
       clear hnext hbad hok c1
       have c2b : decide (c < 97) = false:=decide_eq_false c2
       have c3b : decide (122 < c) = true:=decide_eq_true c3
       clear c2 c3
       go_wp2_with (go_at_call 50;refine (impl_figure.calls c 48 false _ HF.out).mono ?_;rintro e w' ⟨rfl,⟨nd,rfl⟩⟩)
       go_ret
       exact ⟨rfl,(bytes_below (Below.refl w.heap.size w) (Nat.le_refl _) 5 a0).trans ((hd.out.step nd).below.mono (by rw [Lib.bytesWorld_size];omega))⟩
      ·have hn:=hnext (by rw [hok.out];exact decide_eq_true (by omega))
       clear hnext hbad hok c1
       have c2b : decide (c < 97) = false:=decide_eq_false c2
       have c3b : decide (122 < c) = false:=decide_eq_false c3
       clear c2 c3
       go_wp2_with (go_at_call 50;refine (impl_figure.calls c 48 false _ HF.out).mono ?_;rintro e w' ⟨rfl,⟨nd,rfl⟩⟩)
       go_roundw
       case rel=>exact ⟨k + 1,by omega,by go_num,hn,⟨hd.out.step nd⟩⟩
       case measure=>simp [intOf];omega
   ·have hk2 : k = a0.size:=by omega
    have hfin : Aside0 (r = decide ((a0.size : Int) ≤ 40)):=⟨by
     rw [← HR.out]
     have : (bytesOf a0).all tokb = true:=by
      rw [List.all_eq_true]
      intro x hx
      obtain ⟨j,hj,rfl⟩:=List.getElem_of_mem hx
      have hj2 : j < a0.size:=by rwa [bytesOf_length] at hj
      have:=hall.out j (by omega)
      rw [← rd_bytesOf] at this
      simpa [rd,List.getD_eq_getElem?_getD,List.getElem?_eq_getElem hj] using this
     rw [this,Bool.true_and]
     by_cases e : a0.size ≤ 40
     ·rw [decide_eq_true e,decide_eq_true (by omega)]
     ·rw [decide_eq_false e,decide_eq_false (by omega)]⟩
    clear hall hk2
    obtain rfl:=hfin.out
    clear hfin
    go_wp2
    go_ret
    exact ⟨rfl,(bytes_below (Below.refl w.heap.size w) (Nat.le_refl _) 5 a0).trans (hd.out.below.mono (by rw [Lib.bytesWorld_size];omega))⟩
 ·rw [if_neg hs] at h;cases h

/-! ### impl_beginning: function 51 -/
/-- May this byte stand at this place of a name's beginning. -/
def begb (i : Nat) (c : Int) : Bool := if i = 0 then c == 64 else if i = 1 ∨ i = 3 then decide (49 ≤ c ∧ c ≤ 57) else if i = 2 then c == 58 else if i = 4 then decide (48 ≤ c ∧ c ≤ 57) else false
def impl_beginning.f (a0 : ByteArray) : Option (Bool) := if a0.size ≤ 140737488355328 then some ((List.range a0.size).all fun i => begb i (bt a0 i)) else none
theorem beg_cell (s : ByteArray) (k : Nat) (h : k < s.size) : ((s.data.toList.getD k 0).toNat : Int) = bt s k := by
 have h' : k < s.data.toList.length:=by rw [data_length];exact h
 simp [bt,h,List.getD_eq_getElem?_getD,List.getElem?_eq_getElem h']
 rfl
set_option maxHeartbeats 4000000 in
set_option maxRecDepth 100000 in
theorem impl_beginning.calls (a0 : ByteArray) (r : Bool) (w : World) (h : impl_beginning.f a0 = some r) :
  Calls Tryz.prog 51 #[.string a0] w fun e w'=>e = .returned (.bool r) ∧ Below w.heap.size w w':=by
 unfold impl_beginning.f at h
 by_cases hs : a0.size ≤ 140737488355328
 ·rw [if_pos hs] at h
  have HR:=m_ (Option.some.inj h)
  clear h
  have kb:=fun W=>print_bytes (P:=Tryz.prog) 9 22 5 Tryz.underlying9 Tryz.underlying22 Tryz.underlying5 a0 W
  go_enter Tryz.func51,Tryz.ntmps51
  go_wp2
  go_loopw [9] (fun i wr=>∃ k : Nat,k ≤ a0.size ∧ i = .int .i64 k ∧ Aside0 (∀ j : Nat,j < k → begb j (bt a0 j) = true) ∧ Aside0 (Drawn0 (Lib.bytesWorld w 5 a0) wr)) (fun i _=>a0.size - (intOf i).toNat)
  case atStart=>exact ⟨0,Nat.zero_le _,rfl,⟨fun j hj=>absurd hj (Nat.not_lt_zero _)⟩,⟨Drawn0.refl _⟩⟩
  case round =>
   obtain ⟨k,hk,rfl,hall,hd⟩:=hrel
   have hb:=bt_range a0 k
   by_cases hlt : k < a0.size
   ·have hcell : wr.cell? ⟨w.heap.size,k,none⟩ = some (.int .u8 (bt a0 k)):=by
     obtain ⟨⟨m,rfl⟩⟩:=hd.out
     show (Lib.bytesWorld w 5 a0).cell? _ = _
     rw [Lib.bytesWorld_cell w 5 a0 k hlt,beg_cell a0 k hlt]
    have hnext:=fun (h1 : begb k (bt a0 k) = true)=>m_ (show ∀ j : Nat,j < k + 1 → begb j (bt a0 j) = true from fun j hj=>by
     by_cases e : j = k
     ·subst e;exact h1
     ·exact hall.out j (by omega))
    have hbad:=fun (h1 : begb k (bt a0 k) = false)=>m_ (show ((List.range a0.size).all fun i=>begb i (bt a0 i)) = false from by
     rw [List.all_eq_false]
     exact ⟨k,List.mem_range.2 hlt,by rw [h1];decide⟩)
    generalize bt a0 k = c at hb hcell hnext hbad
    clear hall
    by_cases k0 : k = 0
    ·have hbb : begb k c = (c == 64):=by subst k0;rfl
     have e0 : ((k : Int) == 0) = true:=beq_iff_eq.2 (by omega)
     have e1 : ((k : Int) == 1) = false:=beq_eq_false_iff_ne.2 (by omega)
     have e3 : ((k : Int) == 3) = false:=beq_eq_false_iff_ne.2 (by omega)
     have e2 : ((k : Int) == 2) = false:=beq_eq_false_iff_ne.2 (by omega)
     have e4 : ((k : Int) == 4) = false:=beq_eq_false_iff_ne.2 (by omega)
     clear k0
     by_cases d : c = 64
     ·have hn:=hnext (by rw [hbb];exact beq_iff_eq.2 d)
      clear hnext hbad hbb
      have d1 : (c == 64) = true:=beq_iff_eq.2 d
      clear d
      go_wp2
      go_roundw
      case rel=>exact ⟨k + 1,by omega,by go_num,hn,⟨hd.out⟩⟩
      case measure=>simp [intOf];omega
     ·obtain rfl : r = false:=by rw [← HR.out];exact (hbad (by rw [hbb];exact beq_eq_false_iff_ne.2 d)).out
      clear hnext hbad hbb
      have d1 : (c == 64) = false:=beq_eq_false_iff_ne.2 d
      clear d
      go_wp2
      go_ret
      exact ⟨rfl,(bytes_below (Below.refl w.heap.size w) (Nat.le_refl _) 5 a0).trans ((hd.out).below.mono (by rw [Lib.bytesWorld_size];omega))⟩
    ·skip
     by_cases k1 : k = 1
     ·have hbb : begb k c = decide (49 ≤ c ∧ c ≤ 57):=by subst k1;rfl
      have e0 : ((k : Int) == 0) = false:=beq_eq_false_iff_ne.2 (by omega)
      have e1 : ((k : Int) == 1) = true:=beq_iff_eq.2 (by omega)
      have e3 : ((k : Int) == 3) = false:=beq_eq_false_iff_ne.2 (by omega)
      have e2 : ((k : Int) == 2) = false:=beq_eq_false_iff_ne.2 (by omega)
      have e4 : ((k : Int) == 4) = false:=beq_eq_false_iff_ne.2 (by omega)
      clear k0 k1
      by_cases d : 49 ≤ c ∧ c ≤ 57
      ·have hn:=hnext (by rw [hbb];exact decide_eq_true d)
       clear hnext hbad hbb
       have HF:=m_ (show impl_figure.f c 49 = some true by unfold impl_figure.f;rw [if_pos d.1,decide_eq_true d.2])
       clear d
       go_wp2_with (go_at_call 50;refine (impl_figure.calls c 49 true _ HF.out).mono ?_;rintro e w' ⟨rfl,⟨nd,rfl⟩⟩)
       go_roundw
       case rel=>exact ⟨k + 1,by omega,by go_num,hn,⟨hd.out.step nd⟩⟩
       case measure=>simp [intOf];omega
      ·obtain rfl : r = false:=by rw [← HR.out];exact (hbad (by rw [hbb];exact decide_eq_false d)).out
       clear hnext hbad hbb
       have HF:=m_ (show impl_figure.f c 49 = some false by
        unfold impl_figure.f
        by_cases e : c ≥ 49
        ·rw [if_pos e,decide_eq_false (by omega)]
        ·rw [if_neg e])
       clear d
       go_wp2_with (go_at_call 50;refine (impl_figure.calls c 49 false _ HF.out).mono ?_;rintro e w' ⟨rfl,⟨nd,rfl⟩⟩)
       go_ret
       exact ⟨rfl,(bytes_below (Below.refl w.heap.size w) (Nat.le_refl _) 5 a0).trans ((hd.out.step nd).below.mono (by rw [Lib.bytesWorld_size];omega))⟩
     ·skip
      by_cases k2 : k = 2
      ·have hbb : begb k c = (c == 58):=by subst k2;rfl
       have e0 : ((k : Int) == 0) = false:=beq_eq_false_iff_ne.2 (by omega)
       have e1 : ((k : Int) == 1) = false:=beq_eq_false_iff_ne.2 (by omega)
       have e3 : ((k : Int) == 3) = false:=beq_eq_false_iff_ne.2 (by omega)
       have e2 : ((k : Int) == 2) = true:=beq_iff_eq.2 (by omega)
       have e4 : ((k : Int) == 4) = false:=beq_eq_false_iff_ne.2 (by omega)
       clear k0 k1 k2
       by_cases d : c = 58
       ·have hn:=hnext (by rw [hbb];exact beq_iff_eq.2 d)
        clear hnext hbad hbb
        have d1 : (c == 58) = true:=beq_iff_eq.2 d
        clear d
        go_wp2
        go_roundw
        case rel=>exact ⟨k + 1,by omega,by go_num,hn,⟨hd.out⟩⟩
        case measure=>simp [intOf];omega
       ·obtain rfl : r = false:=by rw [← HR.out];exact (hbad (by rw [hbb];exact beq_eq_false_iff_ne.2 d)).out
        clear hnext hbad hbb
        have d1 : (c == 58) = false:=beq_eq_false_iff_ne.2 d
        clear d
        go_wp2
        go_ret
        exact ⟨rfl,(bytes_below (Below.refl w.heap.size w) (Nat.le_refl _) 5 a0).trans ((hd.out).below.mono (by rw [Lib.bytesWorld_size];omega))⟩
      ·skip
       by_cases k3 : k = 3
       ·have hbb : begb k c = decide (49 ≤ c ∧ c ≤ 57):=by subst k3;rfl
        have e0 : ((k : Int) == 0) = false:=beq_eq_false_iff_ne.2 (by omega)
        have e1 : ((k : Int) == 1) = false:=beq_eq_false_iff_ne.2 (by omega)
        have e3 : ((k : Int) == 3) = true:=beq_iff_eq.2 (by omega)
        have e2 : ((k : Int) == 2) = false:=beq_eq_false_iff_ne.2 (by omega)
        have e4 : ((k : Int) == 4) = false:=beq_eq_false_iff_ne.2 (by omega)
        clear k0 k1 k2 k3
        by_cases d : 49 ≤ c ∧ c ≤ 57
        ·have hn:=hnext (by rw [hbb];exact decide_eq_true d)
         clear hnext hbad hbb
         have HF:=m_ (show impl_figure.f c 49 = some true by unfold impl_figure.f;rw [if_pos d.1,decide_eq_true d.2])
         clear d
         go_wp2_with (go_at_call 50;refine (impl_figure.calls c 49 true _ HF.out).mono ?_;rintro e w' ⟨rfl,⟨nd,rfl⟩⟩)
         go_roundw
         case rel=>exact ⟨k + 1,by omega,by go_num,hn,⟨hd.out.step nd⟩⟩
         case measure=>simp [intOf];omega
        ·obtain rfl : r = false:=by rw [← HR.out];exact (hbad (by rw [hbb];exact decide_eq_false d)).out
         clear hnext hbad hbb
         have HF:=m_ (show impl_figure.f c 49 = some false by
          unfold impl_figure.f
          by_cases e : c ≥ 49
          ·rw [if_pos e,decide_eq_false (by omega)]
          ·rw [if_neg e])
         clear d
         go_wp2_with (go_at_call 50;refine (impl_figure.calls c 49 false _ HF.out).mono ?_;rintro e w' ⟨rfl,⟨nd,rfl⟩⟩)
         go_ret
         exact ⟨rfl,(bytes_below (Below.refl w.heap.size w) (Nat.le_refl _) 5 a0).trans ((hd.out.step nd).below.mono (by rw [Lib.bytesWorld_size];omega))⟩
       ·skip
        by_cases k4 : k = 4
        ·have hbb : begb k c = decide (48 ≤ c ∧ c ≤ 57):=by subst k4;rfl
         have e0 : ((k : Int) == 0) = false:=beq_eq_false_iff_ne.2 (by omega)
         have e1 : ((k : Int) == 1) = false:=beq_eq_false_iff_ne.2 (by omega)
         have e3 : ((k : Int) == 3) = false:=beq_eq_false_iff_ne.2 (by omega)
         have e2 : ((k : Int) == 2) = false:=beq_eq_false_iff_ne.2 (by omega)
         have e4 : ((k : Int) == 4) = true:=beq_iff_eq.2 (by omega)
         clear k0 k1 k2 k3 k4
         by_cases d : 48 ≤ c ∧ c ≤ 57
         ·have hn:=hnext (by rw [hbb];exact decide_eq_true d)
          clear hnext hbad hbb
          have HF:=m_ (show impl_figure.f c 48 = some true by unfold impl_figure.f;rw [if_pos d.1,decide_eq_true d.2])
          clear d
          go_wp2_with (go_at_call 50;refine (impl_figure.calls c 48 true _ HF.out).mono ?_;rintro e w' ⟨rfl,⟨nd,rfl⟩⟩)
          go_roundw
          case rel=>exact ⟨k + 1,by omega,by go_num,hn,⟨hd.out.step nd⟩⟩
          case measure=>simp [intOf];omega
         ·obtain rfl : r = false:=by rw [← HR.out];exact (hbad (by rw [hbb];exact decide_eq_false d)).out
          clear hnext hbad hbb
          have HF:=m_ (show impl_figure.f c 48 = some false by
           unfold impl_figure.f
           by_cases e : c ≥ 48
           ·rw [if_pos e,decide_eq_false (by omega)]
           ·rw [if_neg e])
          clear d
          go_wp2_with (go_at_call 50;refine (impl_figure.calls c 48 false _ HF.out).mono ?_;rintro e w' ⟨rfl,⟨nd,rfl⟩⟩)
          go_ret
          exact ⟨rfl,(bytes_below (Below.refl w.heap.size w) (Nat.le_refl _) 5 a0).trans ((hd.out.step nd).below.mono (by rw [Lib.bytesWorld_size];omega))⟩
        ·skip
         have hbb : begb k c = false:=by unfold begb;rw [if_neg k0,if_neg (by omega),if_neg k2,if_neg k4]
         have e0 : ((k : Int) == 0) = false:=beq_eq_false_iff_ne.2 (by omega)
         have e1 : ((k : Int) == 1) = false:=beq_eq_false_iff_ne.2 (by omega)
         have e3 : ((k : Int) == 3) = false:=beq_eq_false_iff_ne.2 (by omega)
         have e2 : ((k : Int) == 2) = false:=beq_eq_false_iff_ne.2 (by omega)
         have e4 : ((k : Int) == 4) = false:=beq_eq_false_iff_ne.2 (by omega)
         clear k0 k1 k2 k3 k4
         obtain rfl : r = false:=by rw [← HR.out];exact (hbad hbb).out
         clear hnext hbad hbb
         go_wp2
         go_ret
         exact ⟨rfl,(bytes_below (Below.refl w.heap.size w) (Nat.le_refl _) 5 a0).trans ((hd.out).below.mono (by rw [Lib.bytesWorld_size];omega))⟩
   ·have hk2 : k = a0.size:=by omega
    have hfin : Aside0 (r = true):=⟨by
     rw [← HR.out,List.all_eq_true]
     intro x hx
     exact hall.out x (by have:=List.mem_range.1 hx;omega)⟩
    clear hall hk2
    obtain rfl:=hfin.out
    clear hfin
    go_wp2
    go_ret
    exact ⟨rfl,(bytes_below (Below.refl w.heap.size w) (Nat.le_refl _) 5 a0).trans (hd.out.below.mono (by rw [Lib.bytesWorld_size];omega))⟩
 ·rw [if_neg hs] at h;cases h

/-! ### impl_held: function 36 -/
def impl_held.l0 : Nat → ByteArray → Int → Option (Int)
 | 0, _, _ => none
 | k + 1, x0, x3 => if x3 > 0 then (if 0 ≤ (wrap64 ((x0.size : Int) - x3)) then (if (wrap64 ((x0.size : Int) - x3)) ≤ (x0.size : Int) then ((impl_beginning.f (x0.extract ((wrap64 ((x0.size : Int) - x3)) : Int).toNat x0.size)).bind fun t360 => (if t360 = true then (some x3) else (impl_held.l0 k x0 (wrap64 (x3 - 1))))) else (none)) else (none)) else (some 0)
def impl_held.f (k : Nat) (a0 : ByteArray) : Option (Int) := impl_held.l0 k a0 (mn 5 (a0.size : Int))
theorem impl_held.mono_l : ∀ k, (∀ y0 y1, LeO (impl_held.l0 k y0 y1) (impl_held.l0 (k + 1) y0 y1))
 | 0 => fun _ _ r h => by simp [impl_held.l0] at h
 | k + 1 => by
  have ih0:=impl_held.mono_l k
  ·intro y0 y1
   unfold impl_held.l0
   exact leo1 ih0
theorem impl_held.mono : ∀ a0 k, LeO (impl_held.f k a0) (impl_held.f (k + 1) a0) := by
 intro a0 k
 have ih0:=impl_held.mono_l k
 unfold impl_held.f
 exact leo1 ih0
theorem impl_held.calls (k : Nat) (a0 : ByteArray) (r : Int) (w : World) (h : impl_held.f k a0 = some r) :
  Calls Tryz.prog 36 #[.string a0] w fun e w'=>e = .returned (.int .i64 r) ∧ Below w.heap.size w w':=by
 have HB:=m_ (Below.refl w.heap.size w)
 have H : (impl_held.l0 k a0 (mn 5 (a0.size : Int))) = some r:=h
 clear h
 obtain ⟨ji2,hji2⟩ : ∃ j_ : Int,(mn 5 (a0.size : Int)) = j_:=⟨_,rfl⟩
 replace H : (impl_held.l0 k a0 ji2) = some r:=by first|(rw [hji2] at H;exact H)|(simp only [hji2] at H ⊢;exact H)
 (try (have hji2h : ji2 ≤ 5:=by (rw [← hji2];unfold mn;(repeat' split) <;> omega)))
 (try (have hji2g : ji2 ≤ 64:=by omega))
 (try (have hji2l : 0 ≤ ji2:=by (rw [← hji2];unfold mn;(repeat' split) <;> omega)))
 (try (have hji2m : 0 ≤ ji2:=by omega))
 have hji2_ : (if (a0.size : Int) < 5 then (a0.size : Int) else 5) = ji2:=hji2
 have H':=m_ H
 clear H
 go_enter Tryz.func36,Tryz.ntmps36
 go_wp2
 go_loopg [3] k (fun kq v3 w'=>∃ (x3_1 : Int),v3 = .int .i64 x3_1 ∧ Aside0 (impl_held.l0 kq a0 x3_1 = some r) ∧ Aside0 (kq ≤ k) ∧ Aside0 (Below w.heap.size w w'))
 case atStart=>exact ⟨(ji2),(by first|rfl|(simp;done)|(simp only [← hji2] <;> (first|rfl|simp))|(simp [*];done)),H',⟨Nat.le_refl _⟩,⟨puL HB.out⟩⟩
 case round =>
  clear H'
  try clear p2
  obtain ⟨x3_1,rfl,HA,HK1,HB⟩:=hrel
  cases gk with
  | zero => exact absurd HA.out (by simp [impl_held.l0])
  | succ k1 =>
   have H:=HA.out
   clear HA
   simp only [impl_held.l0] at H
   by_cases c3 : x3_1 > 0
   ·rw [if_pos c3] at H
    have c3b0 : decide (0 < x3_1) = true:=decide_eq_true c3
    clear c3
    obtain ⟨ji4,hji4⟩ : ∃ j_ : Int,(wrap64 ((a0.size : Int) - x3_1)) = j_:=⟨_,rfl⟩
    replace H : (if 0 ≤ (ji4) then (if (ji4) ≤ (a0.size : Int) then ((impl_beginning.f (a0.extract ((ji4) : Int).toNat a0.size)).bind fun t360=>(if t360 = true then (some x3_1) else (impl_held.l0 k1 a0 (wrap64 (x3_1 - 1))))) else (none)) else (none)) = some r:=by first|(rw [hji4] at H;exact H)|(simp only [hji4] at H ⊢;exact H)
    have hji4w : (IntKind.i64.wrap ((a0.size : Int) - x3_1)) = ji4:=(i64_w _).trans hji4
    by_cases c5 : 0 ≤ (ji4)
    rotate_left
    ·rw [if_neg c5] at H
     exact absurd H (by simp)
    rw [if_pos c5] at H
    have c5b0:=eq_true c5
    have c5b1:=decide_eq_true c5
    clear c5
    by_cases c6 : (ji4) ≤ (a0.size : Int)
    rotate_left
    ·rw [if_neg c6] at H
     exact absurd H (by simp)
    rw [if_pos c6] at H
    have c6b0:=eq_true c6
    have c6b1:=decide_eq_true c6
    clear c6
    replace H:=Option.bind_eq_some_iff.mp H
    obtain ⟨t360,A70,H⟩:=H
    have A7:=m_ A70
    clear A70
    by_cases c8 : t360 = true
    ·subst c8
     replace H:=ifp H rfl
     obtain rfl:=Option.some.inj H
     go_wp2_with (first|((with_reducible refine gate_callee (f:=51) rfl ?_);refine goesL_ (some 17) rfl rfl Tryz.func51 (by kernel_rfl) rfl #[.string (a0.extract ((ji4) : Int).toNat a0.size)] rfl (by (try simp only [List.map_toArray,List.map_cons,List.map_nil]);first|done|(simp only [hji4];rfl)|rfl|(simp only [List.length_drop,List.length_take];rfl)) ?_;(with_reducible refine (impl_beginning.calls (a0.extract ((ji4) : Int).toNat a0.size) true _ A7.out).mono ?_);rintro e w9 ⟨rfl,hb⟩;refine ⟨_,rfl,?_⟩;have n0_:=m_ (l5_ (puL HB.out) hb);revert n0_;clear HB;intro HB;(try clear hb);(try clear hb2);(try clear hk);(try clear hi)))
     go_ret
     exact ⟨by first|rfl|(simp [e1_,e2_] <;> rfl)|(simp only [← hji2,← hji4];first|rfl|(simp [e1_,e2_] <;> rfl))|(simp [*,e1_,e2_] <;> rfl)|(simp [e1_,e2_,pk_empty1,pk_empty2];done)|(simp [*,e1_,e2_,pk_empty1,pk_empty2];done),puL HB.out⟩
    ·replace c8:=Bool.eq_false_iff.mpr c8
     subst c8
     replace H:=ifn H
     have H':=m_ H
     clear H
     go_wp2_with (first|((with_reducible refine gate_callee (f:=51) rfl ?_);refine goesL_ (some 17) rfl rfl Tryz.func51 (by kernel_rfl) rfl #[.string (a0.extract ((ji4) : Int).toNat a0.size)] rfl (by (try simp only [List.map_toArray,List.map_cons,List.map_nil]);first|done|(simp only [hji4];rfl)|rfl|(simp only [List.length_drop,List.length_take];rfl)) ?_;(with_reducible refine (impl_beginning.calls (a0.extract ((ji4) : Int).toNat a0.size) false _ A7.out).mono ?_);rintro e w10 ⟨rfl,hb⟩;refine ⟨_,rfl,?_⟩;have n0_:=m_ (l5_ (puL HB.out) hb);revert n0_;clear HB;intro HB;(try clear hb);(try clear hb2);(try clear hk);(try clear hi)))
     go_roundg k1
     case measure=>have:=HK1.out;omega
     case rel=>exact ⟨(wrap64 (x3_1 - 1)),(by first|rfl|(simp;done)|(simp [*];done)),H',⟨by have:=HK1.out;omega⟩,⟨puL HB.out⟩⟩
   ·rw [if_neg c3] at H
    have c3b0 : decide (0 < x3_1) = false:=decide_eq_false c3
    clear c3
    obtain rfl:=Option.some.inj H
    go_wp2
    go_ret
    exact ⟨by first|rfl|(simp [e1_,e2_] <;> rfl)|(simp only [← hji2];first|rfl|(simp [e1_,e2_] <;> rfl))|(simp [*,e1_,e2_] <;> rfl)|(simp [e1_,e2_,pk_empty1,pk_empty2];done)|(simp [*,e1_,e2_,pk_empty1,pk_empty2];done),puL HB.out⟩

/-! ### stringslite_HasPrefix: function 81 -/
def stringslite_HasPrefix.f (a0 : ByteArray) (a1 : ByteArray) : Option (Bool) := if (a0.size : Int) ≥ (a1.size : Int) then (if 0 ≤ (a1.size : Int) then (if (a1.size : Int) ≤ (a0.size : Int) then (some ((a0.extract 0 ((a1.size : Int) : Int).toNat).toList == a1.toList)) else (none)) else (none)) else (some false)
theorem stringslite_HasPrefix.calls (a0 : ByteArray) (a1 : ByteArray) (r : Bool) (w : World) (h : stringslite_HasPrefix.f a0 a1 = some r) :
  Calls Tryz.prog 81 #[.string a0,.string a1] w fun e w'=>e = .returned (.bool r) ∧ Drawn0 w w':=by
 have H : (if (a0.size : Int) ≥ (a1.size : Int) then (if 0 ≤ (a1.size : Int) then (if (a1.size : Int) ≤ (a0.size : Int) then (some ((a0.extract 0 ((a1.size : Int) : Int).toNat).toList == a1.toList)) else (none)) else (none)) else (some false)) = some r:=h
 clear h
 by_cases c3 : (a0.size : Int) ≥ (a1.size : Int)
 ·rw [if_pos c3] at H
  have c3b0 : decide ((a1.size : Int) ≤ (a0.size : Int)) = true:=decide_eq_true c3
  have c3b1 : decide (a1.size ≤ a0.size) = true:=decide_eq_true (Int.ofNat_le.mp c3)
  clear c3
  by_cases c4 : 0 ≤ (a1.size : Int)
  rotate_left
  ·rw [if_neg c4] at H
   exact absurd H (by simp)
  rw [if_pos c4] at H
  have c4b0:=eq_true c4
  have c4b1:=decide_eq_true c4
  clear c4
  by_cases c5 : (a1.size : Int) ≤ (a0.size : Int)
  ·rw [if_pos c5] at H
   have c5b0:=eq_true c5
   have c5b1:=decide_eq_true c5
   clear c5
   obtain rfl:=Option.some.inj H
   go_enter Tryz.func81,Tryz.ntmps81
   go_wp2
   go_ret
   exact ⟨by first|rfl|(simp;done)|(simp [*];done),drn⟩
  ·rw [if_neg c5] at H
   exact absurd H (by simp)
 ·rw [if_neg c3] at H
  have c3b0 : decide ((a1.size : Int) ≤ (a0.size : Int)) = false:=decide_eq_false c3
  have c3b1 : decide (a1.size ≤ a0.size) = false:=decide_eq_false (fun h=>c3 (Int.ofNat_le.mpr h))
  clear c3
  obtain rfl:=Option.some.inj H
  go_enter Tryz.func81,Tryz.ntmps81
  go_wp2
  go_ret
  exact ⟨by first|rfl|(simp;done)|(simp [*];done),drn⟩

/-! ### stringslite_CutPrefix: function 75 -/
def stringslite_CutPrefix.f (a0 : ByteArray) (a1 : ByteArray) : Option (ByteArray × Bool) := (stringslite_HasPrefix.f a0 a1).bind fun t361 => (if t361 = true then (if 0 ≤ (a1.size : Int) then (if (a1.size : Int) ≤ (a0.size : Int) then (some (a0.extract ((a1.size : Int) : Int).toNat a0.size, true)) else (none)) else (none)) else (some (a0, false)))
theorem stringslite_CutPrefix.calls (a0 : ByteArray) (a1 : ByteArray) (r1 : ByteArray) (r2 : Bool) (w : World) (h : stringslite_CutPrefix.f a0 a1 = some (r1, r2)) :
  Calls Tryz.prog 75 #[.string a0,.string a1] w fun e w'=>e = .returned (.tuple #[.string r1,.bool r2]) ∧ Drawn0 w w':=by
 have H : ((stringslite_HasPrefix.f a0 a1).bind fun t361=>(if t361 = true then (if 0 ≤ (a1.size : Int) then (if (a1.size : Int) ≤ (a0.size : Int) then (some (a0.extract ((a1.size : Int) : Int).toNat a0.size,true)) else (none)) else (none)) else (some (a0,false)))) = some (r1,r2):=h
 clear h
 replace H:=Option.bind_eq_some_iff.mp H
 obtain ⟨t361,A30,H⟩:=H
 have A3:=m_ A30
 clear A30
 by_cases c4 : t361 = true
 ·subst c4
  replace H:=ifp H rfl
  by_cases c5 : 0 ≤ (a1.size : Int)
  rotate_left
  ·rw [if_neg c5] at H
   exact absurd H (by simp)
  rw [if_pos c5] at H
  have c5b0:=eq_true c5
  have c5b1:=decide_eq_true c5
  clear c5
  by_cases c6 : (a1.size : Int) ≤ (a0.size : Int)
  ·rw [if_pos c6] at H
   have c6b0:=eq_true c6
   have c6b1:=decide_eq_true c6
   clear c6
   simp only [Option.some.injEq,Prod.mk.injEq] at H
   obtain ⟨rfl,rfl⟩:=H
   go_enter Tryz.func75,Tryz.ntmps75
   go_wp2_with (first|((with_reducible refine gate_callee (f:=81) rfl ?_);refine goesL_ (some 8) rfl rfl Tryz.func81 (by kernel_rfl) rfl #[.string a0,.string a1] rfl lens ?_;(with_reducible refine (stringslite_HasPrefix.calls a0 a1 true _ A3.out).mono ?_);rintro e w' ⟨rfl,⟨nd,rfl⟩⟩;refine ⟨_,rfl,?_⟩))
   go_ret2
   exact ⟨by first|rfl|(simp;done)|(simp [*];done),drn⟩
  ·rw [if_neg c6] at H
   exact absurd H (by simp)
 ·replace c4:=Bool.eq_false_iff.mpr c4
  subst c4
  replace H:=ifn H
  simp only [Option.some.injEq,Prod.mk.injEq] at H
  obtain ⟨rfl,rfl⟩:=H
  go_enter Tryz.func75,Tryz.ntmps75
  go_wp2_with (first|((with_reducible refine gate_callee (f:=81) rfl ?_);refine goesL_ (some 8) rfl rfl Tryz.func81 (by kernel_rfl) rfl #[.string a0,.string a1] rfl lens ?_;(with_reducible refine (stringslite_HasPrefix.calls a0 a1 false _ A3.out).mono ?_);rintro e w' ⟨rfl,⟨nd,rfl⟩⟩;refine ⟨_,rfl,?_⟩))
  go_ret2
  exact ⟨by first|rfl|(simp;done)|(simp [*];done),drn⟩

/-! ### strings_CutPrefix: function 64 -/
def strings_CutPrefix.f (a0 : ByteArray) (a1 : ByteArray) : Option (ByteArray × Bool) := (stringslite_CutPrefix.f a0 a1).bind fun bt362 => (some (bt362.1, bt362.2))
theorem strings_CutPrefix.calls (a0 : ByteArray) (a1 : ByteArray) (r1 : ByteArray) (r2 : Bool) (w : World) (h : strings_CutPrefix.f a0 a1 = some (r1, r2)) :
  Calls Tryz.prog 64 #[.string a0,.string a1] w fun e w'=>e = .returned (.tuple #[.string r1,.bool r2]) ∧ Drawn0 w w':=by
 have H : ((stringslite_CutPrefix.f a0 a1).bind fun bt362=>(some (bt362.1,bt362.2))) = some (r1,r2):=h
 clear h
 replace H:=Option.bind_eq_some_iff.mp H
 obtain ⟨⟨t362,t363⟩,A30,H⟩:=H
 replace H : (some (t362,t363)) = some (r1,r2):=H
 have A3:=m_ A30
 clear A30
 simp only [Option.some.injEq,Prod.mk.injEq] at H
 obtain ⟨rfl,rfl⟩:=H
 go_enter Tryz.func64,Tryz.ntmps64
 go_wp2_with (first|((with_reducible refine gate_callee (f:=75) rfl ?_);refine goesL_ (some 8) rfl rfl Tryz.func75 (by kernel_rfl) rfl #[.string a0,.string a1] rfl lens ?_;(with_reducible refine (stringslite_CutPrefix.calls a0 a1 t362 t363 _ A3.out).mono ?_);rintro e w' ⟨rfl,⟨nd,rfl⟩⟩;refine ⟨_,rfl,?_⟩))
 go_ret2
 exact ⟨by first|rfl|(simp;done)|(simp [*];done),drn⟩

/-! ### stringslite_Index: function 86 -/
/-- The first place of one byte in a text; -1: nowhere. -/
def stringslite_Index.f (a0 a1 : ByteArray) : Option (Int) := if a1.size = 1 then some (Lib.indexByte a0.data.toList (a1.data.toList.headD 0)) else none
theorem stringslite_Index.calls (a0 a1 : ByteArray) (r : Int) (w : World) (h : stringslite_Index.f a0 a1 = some r) :
  Calls Tryz.prog 86 #[.string a0,.string a1] w fun e w'=>e = .returned (.int .i64 r) ∧ Below w.heap.size w w':=by
 unfold stringslite_Index.f at h
 by_cases hs : a1.size = 1
 ·rw [if_pos hs] at h
  obtain rfl:=Option.some.inj h
  have e : a1 = ⟨#[a1.data.toList.headD 0]⟩:=by
   obtain ⟨⟨l⟩⟩:=a1
   have hl : l.length = 1:=hs
   match l,hl with
   | [c], _ => rfl
  have:=Go.Proofs.Tryz.stringslite_Index_one a0 (a1.data.toList.headD 0) w
  rw [← e] at this
  refine this.mono ?_
  rintro e w' ⟨rfl,rfl⟩
  exact ⟨rfl,Below.refl _ _⟩
 ·rw [if_neg hs] at h;cases h

/-! ### stringslite_Cut: function 82 -/
def stringslite_Cut.f (a0 : ByteArray) (a1 : ByteArray) : Option (ByteArray × ByteArray × Bool) := (stringslite_Index.f a0 a1).bind fun t364 => (if t364 ≥ 0 then (if 0 ≤ t364 then (if t364 ≤ (a0.size : Int) then (if 0 ≤ (wrap64 (t364 + (a1.size : Int))) then (if (wrap64 (t364 + (a1.size : Int))) ≤ (a0.size : Int) then (some (a0.extract 0 (t364 : Int).toNat, a0.extract ((wrap64 (t364 + (a1.size : Int))) : Int).toNat a0.size, true)) else (none)) else (none)) else (none)) else (none)) else (some (a0, (⟨#[]⟩ : ByteArray), false)))
theorem stringslite_Cut.calls (a0 : ByteArray) (a1 : ByteArray) (r1 : ByteArray) (r2 : ByteArray) (r3 : Bool) (w : World) (h : stringslite_Cut.f a0 a1 = some (r1, r2, r3)) :
  Calls Tryz.prog 82 #[.string a0,.string a1] w fun e w'=>e = .returned (.tuple #[.string r1,.string r2,.bool r3]) ∧ Below w.heap.size w w':=by
 have HB:=m_ (Below.refl w.heap.size w)
 have H : ((stringslite_Index.f a0 a1).bind fun t364=>(if t364 ≥ 0 then (if 0 ≤ t364 then (if t364 ≤ (a0.size : Int) then (if 0 ≤ (wrap64 (t364 + (a1.size : Int))) then (if (wrap64 (t364 + (a1.size : Int))) ≤ (a0.size : Int) then (some (a0.extract 0 (t364 : Int).toNat,a0.extract ((wrap64 (t364 + (a1.size : Int))) : Int).toNat a0.size,true)) else (none)) else (none)) else (none)) else (none)) else (some (a0,(⟨#[]⟩ : ByteArray),false)))) = some (r1,r2,r3):=h
 clear h
 replace H:=Option.bind_eq_some_iff.mp H
 obtain ⟨t364,A30,H⟩:=H
 have A3:=m_ A30
 clear A30
 by_cases c4 : t364 ≥ 0
 ·rw [if_pos c4] at H
  have c4b0 : decide (0 ≤ t364) = true:=decide_eq_true c4
  clear c4
  by_cases c5 : 0 ≤ t364
  rotate_left
  ·rw [if_neg c5] at H
   exact absurd H (by simp)
  rw [if_pos c5] at H
  have c5b0:=eq_true c5
  have c5b1:=decide_eq_true c5
  clear c5
  by_cases c6 : t364 ≤ (a0.size : Int)
  rotate_left
  ·rw [if_neg c6] at H
   exact absurd H (by simp)
  rw [if_pos c6] at H
  have c6b0:=eq_true c6
  have c6b1:=decide_eq_true c6
  clear c6
  obtain ⟨ji7,hji7⟩ : ∃ j_ : Int,(wrap64 (t364 + (a1.size : Int))) = j_:=⟨_,rfl⟩
  replace H : (if 0 ≤ (ji7) then (if (ji7) ≤ (a0.size : Int) then (some (a0.extract 0 (t364 : Int).toNat,a0.extract ((ji7) : Int).toNat a0.size,true)) else (none)) else (none)) = some (r1,r2,r3):=by first|(rw [hji7] at H;exact H)|(simp only [hji7] at H ⊢;exact H)
  (try rw [hji7] at A3)
  have hji7w : (IntKind.i64.wrap (t364 + (a1.size : Int))) = ji7:=(i64_w _).trans hji7
  by_cases c8 : 0 ≤ (ji7)
  rotate_left
  ·rw [if_neg c8] at H
   exact absurd H (by simp)
  rw [if_pos c8] at H
  have c8b0:=eq_true c8
  have c8b1:=decide_eq_true c8
  clear c8
  by_cases c9 : (ji7) ≤ (a0.size : Int)
  ·rw [if_pos c9] at H
   have c9b0:=eq_true c9
   have c9b1:=decide_eq_true c9
   clear c9
   simp only [Option.some.injEq,Prod.mk.injEq] at H
   obtain ⟨rfl,rfl,rfl⟩:=H
   go_enter Tryz.func82,Tryz.ntmps82
   go_wp2_with (first|(go_at_call 86;(with_reducible refine (stringslite_Index.calls a0 a1 t364 _ A3.out).mono ?_);rintro e w10 ⟨rfl,hb⟩;have n0_:=m_ (l5_ (puL HB.out) hb);revert n0_;clear HB;intro HB;(try clear hb);(try clear hb2);(try clear hk);(try clear hi)))
   repeat (go_quiet (first|(go_at_call 86;(with_reducible refine (stringslite_Index.calls a0 a1 t364 _ A3.out).mono ?_);rintro e w10 ⟨rfl,hb⟩;have n0_:=m_ (l5_ (puL HB.out) hb);revert n0_;clear HB;intro HB;(try clear hb);(try clear hb2);(try clear hk);(try clear hi)));try go_wp2_with (first|(go_at_call 86;(with_reducible refine (stringslite_Index.calls a0 a1 t364 _ A3.out).mono ?_);rintro e w10 ⟨rfl,hb⟩;have n0_:=m_ (l5_ (puL HB.out) hb);revert n0_;clear HB;intro HB;(try clear hb);(try clear hb2);(try clear hk);(try clear hi))))
   go_ret3
   exact ⟨by first|rfl|(simp [e1_,e2_] <;> rfl)|(simp only [← hji7];first|rfl|(simp [e1_,e2_] <;> rfl))|(simp [*,e1_,e2_] <;> rfl)|(simp [e1_,e2_,pk_empty1,pk_empty2];done)|(simp [*,e1_,e2_,pk_empty1,pk_empty2];done),puL HB.out⟩
  ·rw [if_neg c9] at H
   exact absurd H (by simp)
 ·rw [if_neg c4] at H
  have c4b0 : decide (0 ≤ t364) = false:=decide_eq_false c4
  clear c4
  simp only [Option.some.injEq,Prod.mk.injEq] at H
  obtain ⟨rfl,rfl,rfl⟩:=H
  go_enter Tryz.func82,Tryz.ntmps82
  go_wp2_with (first|(go_at_call 86;(with_reducible refine (stringslite_Index.calls a0 a1 t364 _ A3.out).mono ?_);rintro e w11 ⟨rfl,hb⟩;have n0_:=m_ (l5_ (puL HB.out) hb);revert n0_;clear HB;intro HB;(try clear hb);(try clear hb2);(try clear hk);(try clear hi)))
  repeat (go_quiet (first|(go_at_call 86;(with_reducible refine (stringslite_Index.calls a0 a1 t364 _ A3.out).mono ?_);rintro e w11 ⟨rfl,hb⟩;have n0_:=m_ (l5_ (puL HB.out) hb);revert n0_;clear HB;intro HB;(try clear hb);(try clear hb2);(try clear hk);(try clear hi)));try go_wp2_with (first|(go_at_call 86;(with_reducible refine (stringslite_Index.calls a0 a1 t364 _ A3.out).mono ?_);rintro e w11 ⟨rfl,hb⟩;have n0_:=m_ (l5_ (puL HB.out) hb);revert n0_;clear HB;intro HB;(try clear hb);(try clear hb2);(try clear hk);(try clear hi))))
  go_ret3
  exact ⟨eqs,puL HB.out⟩

/-! ### strings_Cut: function 76 -/
def strings_Cut.f (a0 : ByteArray) (a1 : ByteArray) : Option (ByteArray × ByteArray × Bool) := (stringslite_Cut.f a0 a1).bind fun bt365 => (some (bt365.1, bt365.2.1, bt365.2.2))
theorem strings_Cut.calls (a0 : ByteArray) (a1 : ByteArray) (r1 : ByteArray) (r2 : ByteArray) (r3 : Bool) (w : World) (h : strings_Cut.f a0 a1 = some (r1, r2, r3)) :
  Calls Tryz.prog 76 #[.string a0,.string a1] w fun e w'=>e = .returned (.tuple #[.string r1,.string r2,.bool r3]) ∧ Below w.heap.size w w':=by
 have HB:=m_ (Below.refl w.heap.size w)
 have H : ((stringslite_Cut.f a0 a1).bind fun bt365=>(some (bt365.1,bt365.2.1,bt365.2.2))) = some (r1,r2,r3):=h
 clear h
 replace H:=Option.bind_eq_some_iff.mp H
 obtain ⟨⟨t365,t366,t367⟩,A30,H⟩:=H
 replace H : (some (t365,t366,t367)) = some (r1,r2,r3):=H
 have A3:=m_ A30
 clear A30
 simp only [Option.some.injEq,Prod.mk.injEq] at H
 obtain ⟨rfl,rfl,rfl⟩:=H
 go_enter Tryz.func76,Tryz.ntmps76
 go_wp2_with (first|((with_reducible refine gate_callee (f:=82) rfl ?_);refine goesL_ (some 9) rfl rfl Tryz.func82 (by kernel_rfl) rfl #[.string a0,.string a1] rfl lens ?_;(with_reducible refine (stringslite_Cut.calls a0 a1 t365 t366 t367 _ A3.out).mono ?_);rintro e w4 ⟨rfl,hb⟩;refine ⟨_,rfl,?_⟩;have n0_:=m_ (l5_ (puL HB.out) hb);revert n0_;clear HB;intro HB;(try clear hb);(try clear hb2);(try clear hk);(try clear hi)))
 go_ret3
 exact ⟨eqs,puL HB.out⟩

/-! ### impl_within: function 25 -/
def impl_within.f (a0 : Int) (a1 : Int) (a2 : Int) : Option (Bool) := if a0 ≥ a1 then (some (decide (a0 ≤ a2))) else (some false)
theorem impl_within.calls (a0 : Int) (a1 : Int) (a2 : Int) (r : Bool) (w : World) (h : impl_within.f a0 a1 a2 = some r) :
  Calls Tryz.prog 25 #[.int .i64 a0,.int .i64 a1,.int .i64 a2] w fun e w'=>e = .returned (.bool r) ∧ Drawn0 w w':=by
 have H : (if a0 ≥ a1 then (some (decide (a0 ≤ a2))) else (some false)) = some r:=h
 clear h
 by_cases c4 : a0 ≥ a1
 ·rw [if_pos c4] at H
  have c4b0 : decide (a1 ≤ a0) = true:=decide_eq_true c4
  clear c4
  obtain rfl:=Option.some.inj H
  go_enter Tryz.func25,Tryz.ntmps25
  go_wp2
  go_ret
  exact ⟨by first|rfl|(simp;done)|(simp [*];done),drn⟩
 ·rw [if_neg c4] at H
  have c4b0 : decide (a1 ≤ a0) = false:=decide_eq_false c4
  clear c4
  obtain rfl:=Option.some.inj H
  go_enter Tryz.func25,Tryz.ntmps25
  go_wp2
  go_ret
  exact ⟨by first|rfl|(simp;done)|(simp [*];done),drn⟩

/-! ### impl_EndInside: function 89 -/
def impl_EndInside.f (a0_0 : Int) (a0_1 : Int) : Option (Bool) := (impl_within.f a0_0 1 3).bind fun t369 => (if t369 = true then ((impl_within.f a0_1 1 9).bind fun t370 => (some t370)) else (some false))
theorem impl_EndInside.calls (a0_0 : Int) (a0_1 : Int) (r : Bool) (w : World) (h : impl_EndInside.f a0_0 a0_1 = some r) :
  Calls Tryz.prog 89 #[.agg #[.int .i64 a0_0,.int .i64 a0_1]] w fun e w'=>e = .returned (.bool r) ∧ Below w.heap.size w w':=by
 have hu49:=Tryz.underlying49
 have HB:=m_ (Below.refl w.heap.size w)
 have H : ((impl_within.f a0_0 1 3).bind fun t369=>(if t369 = true then ((impl_within.f a0_1 1 9).bind fun t370=>(some t370)) else (some false))) = some r:=h
 clear h
 replace H:=Option.bind_eq_some_iff.mp H
 obtain ⟨t369,A20,H⟩:=H
 have A2:=m_ A20
 clear A20
 by_cases c3 : t369 = true
 ·subst c3
  replace H:=ifp H rfl
  replace H:=Option.bind_eq_some_iff.mp H
  obtain ⟨t370,A40,H⟩:=H
  have A4:=m_ A40
  clear A40
  obtain rfl:=Option.some.inj H
  go_enter Tryz.func89,Tryz.ntmps89
  go_wp2_with (first|((with_reducible refine gate_dst (N:=1) rfl ?_);refine box_event ?hg (N:=1) ?hd (cs:=#[.int .i64 a0_0,.int .i64 a0_1]) (t:=49) ?hr ?_;(case hd=>rfl);(case hg=>rfl);(case hr=>first|(go_simp;done)|(go_simp;rfl));intro gb368 hg w5 hbox hb;have n0_:=m_ (l5_ (puL HB.out) hb);have n1_:=m_ (hbox);have n2_:=m_ ((by rw [hg];exact (l6_ (puL HB.out)) : w.heap.size ≤ gb368));have n3_:=m_ ((by rw [hg];exact (l6_ (puL HB.out)) : w.heap.size ≤ gb368));revert n0_ n1_ n2_ n3_;clear HB;intro HB BK368 GW368 GE368;clear hb hbox hg;have hcz6_0 : w5.cell? ⟨gb368,0,none⟩ = some (.int .i64 a0_0):=(c_ BK368.out 0).trans rfl;have hcz6_1 : w5.cell? ⟨gb368,1,none⟩ = some (.int .i64 a0_1):=(c_ BK368.out 1).trans rfl)|((with_reducible refine gate_callee (f:=25) rfl ?_);refine goesL_ (some 5) rfl rfl Tryz.func25 (by kernel_rfl) rfl #[.int .i64 a0_0,.int .i64 1,.int .i64 3] rfl lens ?_;(with_reducible refine (impl_within.calls a0_0 1 3 true _ A2.out).mono ?_);rintro e w' ⟨rfl,⟨nd,rfl⟩⟩;refine ⟨_,rfl,?_⟩)|(go_at_call 25;(with_reducible refine (impl_within.calls a0_1 1 9 t370 _ A4.out).mono ?_);rintro e w' ⟨rfl,⟨nd,rfl⟩⟩))
  go_ret
  exact ⟨eqs,puM HB.out GE368.out⟩
 ·replace c3:=Bool.eq_false_iff.mpr c3
  subst c3
  replace H:=ifn H
  obtain rfl:=Option.some.inj H
  go_enter Tryz.func89,Tryz.ntmps89
  go_wp2_with (first|((with_reducible refine gate_dst (N:=1) rfl ?_);refine box_event ?hg (N:=1) ?hd (cs:=#[.int .i64 a0_0,.int .i64 a0_1]) (t:=49) ?hr ?_;(case hd=>rfl);(case hg=>rfl);(case hr=>first|(go_simp;done)|(go_simp;rfl));intro gb368 hg w7 hbox hb;have n0_:=m_ (l5_ (puL HB.out) hb);have n1_:=m_ (hbox);have n2_:=m_ ((by rw [hg];exact (l6_ (puL HB.out)) : w.heap.size ≤ gb368));have n3_:=m_ ((by rw [hg];exact (l6_ (puL HB.out)) : w.heap.size ≤ gb368));revert n0_ n1_ n2_ n3_;clear HB;intro HB BK368 GW368 GE368;clear hb hbox hg;have hcz8_0 : w7.cell? ⟨gb368,0,none⟩ = some (.int .i64 a0_0):=(c_ BK368.out 0).trans rfl;have hcz8_1 : w7.cell? ⟨gb368,1,none⟩ = some (.int .i64 a0_1):=(c_ BK368.out 1).trans rfl)|((with_reducible refine gate_callee (f:=25) rfl ?_);refine goesL_ (some 5) rfl rfl Tryz.func25 (by kernel_rfl) rfl #[.int .i64 a0_0,.int .i64 1,.int .i64 3] rfl lens ?_;(with_reducible refine (impl_within.calls a0_0 1 3 false _ A2.out).mono ?_);rintro e w' ⟨rfl,⟨nd,rfl⟩⟩;refine ⟨_,rfl,?_⟩))
  go_ret
  exact ⟨eqs,puM HB.out GE368.out⟩

/-! ### impl_EndOutside: function 90 -/
def impl_EndOutside.f (a0_0 : Int) (a0_1 : Int) : Option (Bool) := (impl_within.f a0_0 4 6).bind fun t372 => (if t372 = true then ((impl_within.f a0_1 1 9).bind fun t373 => (some t373)) else (some false))
theorem impl_EndOutside.calls (a0_0 : Int) (a0_1 : Int) (r : Bool) (w : World) (h : impl_EndOutside.f a0_0 a0_1 = some r) :
  Calls Tryz.prog 90 #[.agg #[.int .i64 a0_0,.int .i64 a0_1]] w fun e w'=>e = .returned (.bool r) ∧ Below w.heap.size w w':=by
 have hu49:=Tryz.underlying49
 have HB:=m_ (Below.refl w.heap.size w)
 have H : ((impl_within.f a0_0 4 6).bind fun t372=>(if t372 = true then ((impl_within.f a0_1 1 9).bind fun t373=>(some t373)) else (some false))) = some r:=h
 clear h
 replace H:=Option.bind_eq_some_iff.mp H
 obtain ⟨t372,A20,H⟩:=H
 have A2:=m_ A20
 clear A20
 by_cases c3 : t372 = true
 ·subst c3
  replace H:=ifp H rfl
  replace H:=Option.bind_eq_some_iff.mp H
  obtain ⟨t373,A40,H⟩:=H
  have A4:=m_ A40
  clear A40
  obtain rfl:=Option.some.inj H
  go_enter Tryz.func90,Tryz.ntmps90
  go_wp2_with (first|((with_reducible refine gate_dst (N:=1) rfl ?_);refine box_event ?hg (N:=1) ?hd (cs:=#[.int .i64 a0_0,.int .i64 a0_1]) (t:=49) ?hr ?_;(case hd=>rfl);(case hg=>rfl);(case hr=>first|(go_simp;done)|(go_simp;rfl));intro gb371 hg w5 hbox hb;have n0_:=m_ (l5_ (puL HB.out) hb);have n1_:=m_ (hbox);have n2_:=m_ ((by rw [hg];exact (l6_ (puL HB.out)) : w.heap.size ≤ gb371));have n3_:=m_ ((by rw [hg];exact (l6_ (puL HB.out)) : w.heap.size ≤ gb371));revert n0_ n1_ n2_ n3_;clear HB;intro HB BK371 GW371 GE371;clear hb hbox hg;have hcz6_0 : w5.cell? ⟨gb371,0,none⟩ = some (.int .i64 a0_0):=(c_ BK371.out 0).trans rfl;have hcz6_1 : w5.cell? ⟨gb371,1,none⟩ = some (.int .i64 a0_1):=(c_ BK371.out 1).trans rfl)|((with_reducible refine gate_callee (f:=25) rfl ?_);refine goesL_ (some 5) rfl rfl Tryz.func25 (by kernel_rfl) rfl #[.int .i64 a0_0,.int .i64 4,.int .i64 6] rfl lens ?_;(with_reducible refine (impl_within.calls a0_0 4 6 true _ A2.out).mono ?_);rintro e w' ⟨rfl,⟨nd,rfl⟩⟩;refine ⟨_,rfl,?_⟩)|(go_at_call 25;(with_reducible refine (impl_within.calls a0_1 1 9 t373 _ A4.out).mono ?_);rintro e w' ⟨rfl,⟨nd,rfl⟩⟩))
  go_ret
  exact ⟨eqs,puM HB.out GE371.out⟩
 ·replace c3:=Bool.eq_false_iff.mpr c3
  subst c3
  replace H:=ifn H
  obtain rfl:=Option.some.inj H
  go_enter Tryz.func90,Tryz.ntmps90
  go_wp2_with (first|((with_reducible refine gate_dst (N:=1) rfl ?_);refine box_event ?hg (N:=1) ?hd (cs:=#[.int .i64 a0_0,.int .i64 a0_1]) (t:=49) ?hr ?_;(case hd=>rfl);(case hg=>rfl);(case hr=>first|(go_simp;done)|(go_simp;rfl));intro gb371 hg w7 hbox hb;have n0_:=m_ (l5_ (puL HB.out) hb);have n1_:=m_ (hbox);have n2_:=m_ ((by rw [hg];exact (l6_ (puL HB.out)) : w.heap.size ≤ gb371));have n3_:=m_ ((by rw [hg];exact (l6_ (puL HB.out)) : w.heap.size ≤ gb371));revert n0_ n1_ n2_ n3_;clear HB;intro HB BK371 GW371 GE371;clear hb hbox hg;have hcz8_0 : w7.cell? ⟨gb371,0,none⟩ = some (.int .i64 a0_0):=(c_ BK371.out 0).trans rfl;have hcz8_1 : w7.cell? ⟨gb371,1,none⟩ = some (.int .i64 a0_1):=(c_ BK371.out 1).trans rfl)|((with_reducible refine gate_callee (f:=25) rfl ?_);refine goesL_ (some 5) rfl rfl Tryz.func25 (by kernel_rfl) rfl #[.int .i64 a0_0,.int .i64 4,.int .i64 6] rfl lens ?_;(with_reducible refine (impl_within.calls a0_0 4 6 false _ A2.out).mono ?_);rintro e w' ⟨rfl,⟨nd,rfl⟩⟩;refine ⟨_,rfl,?_⟩))
  go_ret
  exact ⟨eqs,puM HB.out GE371.out⟩

/-! ### impl_EndDoor: function 91 -/
def impl_EndDoor.f (a0_0 : Int) (a0_1 : Int) : Option (Bool) := if a0_0 = 9 then ((impl_within.f a0_1 10 17).bind fun t375 => (some t375)) else (some false)
theorem impl_EndDoor.calls (a0_0 : Int) (a0_1 : Int) (r : Bool) (w : World) (h : impl_EndDoor.f a0_0 a0_1 = some r) :
  Calls Tryz.prog 91 #[.agg #[.int .i64 a0_0,.int .i64 a0_1]] w fun e w'=>e = .returned (.bool r) ∧ Below w.heap.size w w':=by
 have hu49:=Tryz.underlying49
 have HB:=m_ (Below.refl w.heap.size w)
 have H : (if a0_0 = 9 then ((impl_within.f a0_1 10 17).bind fun t375=>(some t375)) else (some false)) = some r:=h
 clear h
 by_cases c2 : a0_0 = 9
 ·rw [if_pos c2] at H
  have c2b0 : (a0_0 == 9) = true:=beq_iff_eq.mpr c2
  have c2b1 : (a0_0 != 9) = false:=bne_eq_false_iff_eq.mpr c2
  clear c2
  replace H:=Option.bind_eq_some_iff.mp H
  obtain ⟨t375,A30,H⟩:=H
  have A3:=m_ A30
  clear A30
  obtain rfl:=Option.some.inj H
  go_enter Tryz.func91,Tryz.ntmps91
  go_wp2_with (first|((with_reducible refine gate_dst (N:=1) rfl ?_);refine box_event ?hg (N:=1) ?hd (cs:=#[.int .i64 a0_0,.int .i64 a0_1]) (t:=49) ?hr ?_;(case hd=>rfl);(case hg=>rfl);(case hr=>first|(go_simp;done)|(go_simp;rfl));intro gb374 hg w4 hbox hb;have n0_:=m_ (l5_ (puL HB.out) hb);have n1_:=m_ (hbox);have n2_:=m_ ((by rw [hg];exact (l6_ (puL HB.out)) : w.heap.size ≤ gb374));have n3_:=m_ ((by rw [hg];exact (l6_ (puL HB.out)) : w.heap.size ≤ gb374));revert n0_ n1_ n2_ n3_;clear HB;intro HB BK374 GW374 GE374;clear hb hbox hg;have hcz5_0 : w4.cell? ⟨gb374,0,none⟩ = some (.int .i64 a0_0):=(c_ BK374.out 0).trans rfl;have hcz5_1 : w4.cell? ⟨gb374,1,none⟩ = some (.int .i64 a0_1):=(c_ BK374.out 1).trans rfl)|(go_at_call 25;(with_reducible refine (impl_within.calls a0_1 10 17 t375 _ A3.out).mono ?_);rintro e w' ⟨rfl,⟨nd,rfl⟩⟩))
  go_ret
  exact ⟨eqs,puM HB.out GE374.out⟩
 ·rw [if_neg c2] at H
  have c2b0 : (a0_0 == 9) = false:=beq_eq_false_iff_ne.mpr c2
  have c2b1 : (a0_0 != 9) = true:=bne_iff_ne.mpr c2
  obtain rfl:=Option.some.inj H
  go_enter Tryz.func91,Tryz.ntmps91
  go_wp2_with (first|((with_reducible refine gate_dst (N:=1) rfl ?_);refine box_event ?hg (N:=1) ?hd (cs:=#[.int .i64 a0_0,.int .i64 a0_1]) (t:=49) ?hr ?_;(case hd=>rfl);(case hg=>rfl);(case hr=>first|(go_simp;done)|(go_simp;rfl));intro gb374 hg w6 hbox hb;have n0_:=m_ (l5_ (puL HB.out) hb);have n1_:=m_ (hbox);have n2_:=m_ ((by rw [hg];exact (l6_ (puL HB.out)) : w.heap.size ≤ gb374));have n3_:=n2_;revert n0_ n1_ n2_ n3_;clear HB;intro HB BK374 GW374 GE374;clear hb hbox hg;have hcz7_0 : w6.cell? ⟨gb374,0,none⟩ = some (.int .i64 a0_0):=(c_ BK374.out 0).trans rfl;have hcz7_1 : w6.cell? ⟨gb374,1,none⟩ = some (.int .i64 a0_1):=(c_ BK374.out 1).trans rfl))
  go_ret
  exact ⟨eqs,puM HB.out GE374.out⟩

/-! ### impl_End_any: function 84 -/
def impl_End_any.f (a0_0 : Int) (a0_1 : Int) : Option (Bool) := (impl_EndInside.f a0_0 a0_1).bind fun t377 => (if t377 = true then (some true) else ((impl_EndOutside.f a0_0 a0_1).bind fun t378 => (if t378 = true then (some true) else ((impl_EndDoor.f a0_0 a0_1).bind fun t379 => (some t379)))))
theorem impl_End_any.calls (a0_0 : Int) (a0_1 : Int) (r : Bool) (w : World) (h : impl_End_any.f a0_0 a0_1 = some r) :
  Calls Tryz.prog 84 #[.agg #[.int .i64 a0_0,.int .i64 a0_1]] w fun e w'=>e = .returned (.bool r) ∧ Below w.heap.size w w':=by
 have hu49:=Tryz.underlying49
 have HB:=m_ (Below.refl w.heap.size w)
 have H : ((impl_EndInside.f a0_0 a0_1).bind fun t377=>(if t377 = true then (some true) else ((impl_EndOutside.f a0_0 a0_1).bind fun t378=>(if t378 = true then (some true) else ((impl_EndDoor.f a0_0 a0_1).bind fun t379=>(some t379)))))) = some r:=h
 clear h
 replace H:=Option.bind_eq_some_iff.mp H
 obtain ⟨t377,A20,H⟩:=H
 have A2:=m_ A20
 clear A20
 by_cases c3 : t377 = true
 ·subst c3
  replace H:=ifp H rfl
  obtain rfl:=Option.some.inj H
  go_enter Tryz.func84,Tryz.ntmps84
  go_wp2_with (first|((with_reducible refine gate_dst (N:=1) rfl ?_);refine box_event ?hg (N:=1) ?hd (cs:=#[.int .i64 a0_0,.int .i64 a0_1]) (t:=49) ?hr ?_;(case hd=>rfl);(case hg=>rfl);(case hr=>first|(go_simp;done)|(go_simp;rfl));intro gb376 hg w4 hbox hb;have n0_:=m_ (l5_ (puL HB.out) hb);have n1_:=m_ (hbox);have n2_:=m_ ((by rw [hg];exact (l6_ (puL HB.out)) : w.heap.size ≤ gb376));have n3_:=m_ ((by rw [hg];exact (l6_ (puL HB.out)) : w.heap.size ≤ gb376));revert n0_ n1_ n2_ n3_;clear HB;intro HB BK376 GW376 GE376;clear hb hbox hg;have hcz5_0 : w4.cell? ⟨gb376,0,none⟩ = some (.int .i64 a0_0):=(c_ BK376.out 0).trans rfl;have hcz5_1 : w4.cell? ⟨gb376,1,none⟩ = some (.int .i64 a0_1):=(c_ BK376.out 1).trans rfl)|((with_reducible refine gate_callee (f:=89) rfl ?_);refine goesL_ (some 4) rfl rfl Tryz.func89 (by kernel_rfl) rfl #[.agg #[.int .i64 a0_0,.int .i64 a0_1]] rfl lens ?_;(with_reducible refine (impl_EndInside.calls a0_0 a0_1 true _ A2.out).mono ?_);rintro e w6 ⟨rfl,hb⟩;refine ⟨_,rfl,?_⟩;have n0_:=m_ (blk_below (g:=gb376) (o:=.cells #[.int .i64 a0_0,.int .i64 a0_1] 49 (0,0)) (puB BK376.out) hb);have n1_:=m_ (l5_ (puM HB.out GE376.out) hb);revert n0_ n1_;clear BK376 HB;intro BK376 HB;(try clear hb);(try clear hb2);(try clear hk);(try clear hi)))
  go_ret
  exact ⟨eqs,puM HB.out GE376.out⟩
 ·replace c3:=Bool.eq_false_iff.mpr c3
  subst c3
  replace H:=ifn H
  replace H:=Option.bind_eq_some_iff.mp H
  obtain ⟨t378,A70,H⟩:=H
  have A7:=m_ A70
  clear A70
  by_cases c8 : t378 = true
  ·subst c8
   replace H:=ifp H rfl
   obtain rfl:=Option.some.inj H
   go_enter Tryz.func84,Tryz.ntmps84
   go_wp2_with (first|((with_reducible refine gate_dst (N:=1) rfl ?_);refine box_event ?hg (N:=1) ?hd (cs:=#[.int .i64 a0_0,.int .i64 a0_1]) (t:=49) ?hr ?_;(case hd=>rfl);(case hg=>rfl);(case hr=>first|(go_simp;done)|(go_simp;rfl));intro gb376 hg w9 hbox hb;have n0_:=m_ (l5_ (puL HB.out) hb);have n1_:=m_ (hbox);have n2_:=m_ ((by rw [hg];exact (l6_ (puL HB.out)) : w.heap.size ≤ gb376));have n3_:=m_ ((by rw [hg];exact (l6_ (puL HB.out)) : w.heap.size ≤ gb376));revert n0_ n1_ n2_ n3_;clear HB;intro HB BK376 GW376 GE376;clear hb hbox hg;have hcz10_0 : w9.cell? ⟨gb376,0,none⟩ = some (.int .i64 a0_0):=(c_ BK376.out 0).trans rfl;have hcz10_1 : w9.cell? ⟨gb376,1,none⟩ = some (.int .i64 a0_1):=(c_ BK376.out 1).trans rfl)|((with_reducible refine gate_callee (f:=89) rfl ?_);refine goesL_ (some 4) rfl rfl Tryz.func89 (by kernel_rfl) rfl #[.agg #[.int .i64 a0_0,.int .i64 a0_1]] rfl lens ?_;(with_reducible refine (impl_EndInside.calls a0_0 a0_1 false _ A2.out).mono ?_);rintro e w11 ⟨rfl,hb⟩;refine ⟨_,rfl,?_⟩;have n0_:=m_ (blk_below (g:=gb376) (o:=.cells #[.int .i64 a0_0,.int .i64 a0_1] 49 (0,0)) (puB BK376.out) hb);have n1_:=m_ (l5_ (puM HB.out GE376.out) hb);revert n0_ n1_;clear BK376 HB;intro BK376 HB;(try clear hb);(try clear hb2);(try clear hk);(try clear hi);have hcz12_0 : w11.cell? ⟨gb376,0,none⟩ = some (.int .i64 a0_0):=(c_ BK376.out 0).trans rfl;have hcz12_1 : w11.cell? ⟨gb376,1,none⟩ = some (.int .i64 a0_1):=(c_ BK376.out 1).trans rfl)|(go_at_call 90;(with_reducible refine (impl_EndOutside.calls a0_0 a0_1 true _ A7.out).mono ?_);rintro e w13 ⟨rfl,hb⟩;have n0_:=m_ (blk_below (g:=gb376) (o:=.cells #[.int .i64 a0_0,.int .i64 a0_1] 49 (0,0)) (puB BK376.out) hb);have n1_:=m_ (l5_ (puM HB.out GE376.out) hb);revert n0_ n1_;clear BK376 HB;intro BK376 HB;(try clear hb);(try clear hb2);(try clear hk);(try clear hi)))
   go_ret
   exact ⟨eqs,puM HB.out GE376.out⟩
  ·replace c8:=Bool.eq_false_iff.mpr c8
   subst c8
   replace H:=ifn H
   replace H:=Option.bind_eq_some_iff.mp H
   obtain ⟨t379,A140,H⟩:=H
   have A14:=m_ A140
   clear A140
   obtain rfl:=Option.some.inj H
   go_enter Tryz.func84,Tryz.ntmps84
   go_wp2_with (first|((with_reducible refine gate_dst (N:=1) rfl ?_);refine box_event ?hg (N:=1) ?hd (cs:=#[.int .i64 a0_0,.int .i64 a0_1]) (t:=49) ?hr ?_;(case hd=>rfl);(case hg=>rfl);(case hr=>first|(go_simp;done)|(go_simp;rfl));intro gb376 hg w15 hbox hb;have n0_:=m_ (l5_ (puL HB.out) hb);have n1_:=m_ (hbox);have n2_:=m_ ((by rw [hg];exact (l6_ (puL HB.out)) : w.heap.size ≤ gb376));have n3_:=m_ ((by rw [hg];exact (l6_ (puL HB.out)) : w.heap.size ≤ gb376));revert n0_ n1_ n2_ n3_;clear HB;intro HB BK376 GW376 GE376;clear hb hbox hg;have hcz16_0 : w15.cell? ⟨gb376,0,none⟩ = some (.int .i64 a0_0):=(c_ BK376.out 0).trans rfl;have hcz16_1 : w15.cell? ⟨gb376,1,none⟩ = some (.int .i64 a0_1):=(c_ BK376.out 1).trans rfl)|((with_reducible refine gate_callee (f:=89) rfl ?_);refine goesL_ (some 4) rfl rfl Tryz.func89 (by kernel_rfl) rfl #[.agg #[.int .i64 a0_0,.int .i64 a0_1]] rfl lens ?_;(with_reducible refine (impl_EndInside.calls a0_0 a0_1 false _ A2.out).mono ?_);rintro e w17 ⟨rfl,hb⟩;refine ⟨_,rfl,?_⟩;have n0_:=m_ (blk_below (g:=gb376) (o:=.cells #[.int .i64 a0_0,.int .i64 a0_1] 49 (0,0)) (puB BK376.out) hb);have n1_:=m_ (l5_ (puM HB.out GE376.out) hb);revert n0_ n1_;clear BK376 HB;intro BK376 HB;(try clear hb);(try clear hb2);(try clear hk);(try clear hi);have hcz18_0 : w17.cell? ⟨gb376,0,none⟩ = some (.int .i64 a0_0):=(c_ BK376.out 0).trans rfl;have hcz18_1 : w17.cell? ⟨gb376,1,none⟩ = some (.int .i64 a0_1):=(c_ BK376.out 1).trans rfl)|(go_at_call 90;(with_reducible refine (impl_EndOutside.calls a0_0 a0_1 false _ A7.out).mono ?_);rintro e w19 ⟨rfl,hb⟩;have n0_:=m_ (blk_below (g:=gb376) (o:=.cells #[.int .i64 a0_0,.int .i64 a0_1] 49 (0,0)) (puB BK376.out) hb);have n1_:=m_ (l5_ (puM HB.out GE376.out) hb);revert n0_ n1_;clear BK376 HB;intro BK376 HB;(try clear hb);(try clear hb2);(try clear hk);(try clear hi);have hcz20_0 : w19.cell? ⟨gb376,0,none⟩ = some (.int .i64 a0_0):=(c_ BK376.out 0).trans rfl;have hcz20_1 : w19.cell? ⟨gb376,1,none⟩ = some (.int .i64 a0_1):=(c_ BK376.out 1).trans rfl)|(go_at_call 91;(with_reducible refine (impl_EndDoor.calls a0_0 a0_1 t379 _ A14.out).mono ?_);rintro e w21 ⟨rfl,hb⟩;have n0_:=m_ (blk_below (g:=gb376) (o:=.cells #[.int .i64 a0_0,.int .i64 a0_1] 49 (0,0)) (puB BK376.out) hb);have n1_:=m_ (l5_ (puM HB.out GE376.out) hb);revert n0_ n1_;clear BK376 HB;intro BK376 HB;(try clear hb);(try clear hb2);(try clear hk);(try clear hi)))
   go_ret
   exact ⟨eqs,puM HB.out GE376.out⟩

/-! ### strconv_Itoa: function 85 -/
/-- Of a number from 0 to 99: its decimals. -/
def strconv_Itoa.f (a0 : Int) : Option (ByteArray) := if 0 ≤ a0 ∧ a0 ≤ 99 then some ⟨(Lib.decDigits a0.toNat).toArray⟩ else none
theorem strconv_Itoa.calls (a0 : Int) (r : ByteArray) (w : World) (h : strconv_Itoa.f a0 = some r) :
  Calls Tryz.prog 85 #[.int .i64 a0] w fun e w'=>e = .returned (.string r) ∧ Below w.heap.size w w':=by
 unfold strconv_Itoa.f at h
 by_cases hs : 0 ≤ a0 ∧ a0 ≤ 99
 ·rw [if_pos hs] at h
  obtain rfl:=Option.some.inj h
  have e : (.int .i64 a0 : Value) = .int .i64 ((a0.toNat : Nat) : Int):=by rw [Int.toNat_of_nonneg hs.1]
  rw [e]
  refine (Go.Proofs.Tryz.strconv_Itoa_small a0.toNat (by omega) w).mono ?_
  rintro e w' ⟨rfl,rfl⟩
  exact ⟨rfl,Below.refl _ _⟩
 ·rw [if_neg hs] at h;cases h

/-! ### impl_EndText: function 78 -/
def impl_EndText.f (a0_0 : Int) (a0_1 : Int) : Option (ByteArray) := (impl_End_any.f a0_0 a0_1).bind fun t381 => (if t381 = true then ((strconv_Itoa.f a0_0).bind fun t382 => (if t382.size + 1 ≤ 9223372036854775807 then ((strconv_Itoa.f a0_1).bind fun t383 => (if t382.size + 1 + t383.size ≤ 9223372036854775807 then (some ((t382 ++ (⟨#[58]⟩ : ByteArray)) ++ t383)) else (none))) else (none))) else (some (⟨#[]⟩ : ByteArray)))
def impl_EndText.T3 : Bool × List (List Nat × List Nat) := (true, [([], []), ([0], [0]), ([1], [1]), ([2], [2]), ([], []), ([4], [4]), ([5, 2], [5]), ([3, 6], [3, 6]), ([7, 6, 0, 1, 2, 3, 4, 5, 6, 7], [7])])
def impl_EndText.B3 : List Nat := [0, 1, 3, 7, 0, 16, 55, 127, 255]
theorem impl_EndText.tab3 : rtab .any (opsOf Tryz.f78 3) = impl_EndText.T3 := by kernel_rfl
theorem impl_EndText.bits3 : waitsOk impl_EndText.T3.2 impl_EndText.B3 = true := by kernel_rfl
theorem impl_EndText.calls (a0_0 : Int) (a0_1 : Int) (r : ByteArray) (w : World) (h : impl_EndText.f a0_0 a0_1 = some r) :
  Calls Tryz.prog 78 #[.agg #[.int .i64 a0_0,.int .i64 a0_1]] w fun e w'=>e = .returned (.string r) ∧ Below w.heap.size w w':=by
 have hu49:=Tryz.underlying49
 have HB:=m_ (Below.refl w.heap.size w)
 have H : ((impl_End_any.f a0_0 a0_1).bind fun t381=>(if t381 = true then ((strconv_Itoa.f a0_0).bind fun t382=>(if t382.size + 1 ≤ 9223372036854775807 then ((strconv_Itoa.f a0_1).bind fun t383=>(if t382.size + 1 + t383.size ≤ 9223372036854775807 then (some ((t382 ++ (⟨#[58]⟩ : ByteArray)) ++ t383)) else (none))) else (none))) else (some (⟨#[]⟩ : ByteArray)))) = some r:=h
 clear h
 replace H:=Option.bind_eq_some_iff.mp H
 obtain ⟨t381,A20,H⟩:=H
 have A2:=m_ A20
 clear A20
 by_cases c3 : t381 = true
 ·subst c3
  replace H:=ifp H rfl
  replace H:=Option.bind_eq_some_iff.mp H
  obtain ⟨t382,A40,H⟩:=H
  have A4:=m_ A40
  clear A40
  by_cases c5 : t382.size + 1 ≤ 9223372036854775807
  rotate_left
  ·rw [if_neg c5] at H
   exact absurd H (by simp)
  rw [if_pos c5] at H
  have c5b0:=eq_true c5
  have c5b1:=decide_eq_true c5
  try have c5b2 : (9223372036854775807 < t382.size + 1) = False:=eq_false (Nat.not_lt.2 c5)
  replace H:=Option.bind_eq_some_iff.mp H
  obtain ⟨t383,A60,H⟩:=H
  have A6:=m_ A60
  clear A60
  by_cases c7 : t382.size + 1 + t383.size ≤ 9223372036854775807
  rotate_left
  ·rw [if_neg c7] at H
   exact absurd H (by simp)
  rw [if_pos c7] at H
  have c7b0:=eq_true c7
  have c7b1:=decide_eq_true c7
  try have c7b2 : (9223372036854775807 < t382.size + 1 + t383.size) = False:=eq_false (Nat.not_lt.2 c7)
  obtain rfl:=Option.some.inj H
  go_enter Tryz.func78,Tryz.ntmps78
  try go_wp2_with (first|((with_reducible refine gate_dst (N:=1) rfl ?_);refine box_event ?hg (N:=1) ?hd (cs:=#[.int .i64 a0_0,.int .i64 a0_1]) (t:=49) ?hr ?_;(case hd=>rfl);(case hg=>rfl);(case hr=>first|(go_simp;done)|(go_simp;rfl));intro gb380 hg w8 hbox hb;have n0_:=m_ (l5_ (puL HB.out) hb);have n1_:=m_ (hbox);have n2_:=m_ ((by rw [hg];exact (l6_ (puL HB.out)) : w.heap.size ≤ gb380));have n3_:=m_ ((by rw [hg];exact (l6_ (puL HB.out)) : w.heap.size ≤ gb380));revert n0_ n1_ n2_ n3_;clear HB;intro HB BK380 GW380 GE380;clear hb hbox hg;have hcz9_0 : w8.cell? ⟨gb380,0,none⟩ = some (.int .i64 a0_0):=(c_ BK380.out 0).trans rfl;have hcz9_1 : w8.cell? ⟨gb380,1,none⟩ = some (.int .i64 a0_1):=(c_ BK380.out 1).trans rfl)|((with_reducible refine gate_callee (f:=84) rfl ?_);refine goesL_ (some 4) rfl rfl Tryz.func84 (by kernel_rfl) rfl #[.agg #[.int .i64 a0_0,.int .i64 a0_1]] rfl lens ?_;(with_reducible refine (impl_End_any.calls a0_0 a0_1 true _ A2.out).mono ?_);rintro e w10 ⟨rfl,hb⟩;refine ⟨_,rfl,?_⟩;have n0_:=m_ (blk_below (g:=gb380) (o:=.cells #[.int .i64 a0_0,.int .i64 a0_1] 49 (0,0)) (puB BK380.out) hb);have n1_:=m_ (l5_ (puM HB.out GE380.out) hb);revert n0_ n1_;clear BK380 HB;intro BK380 HB;(try clear hb);(try clear hb2);(try clear hk);(try clear hi)))
  have n0_:=m_ (b2_ BK380.out)
  have n1_:=m_ (l3_ HB.out)
  clear BK380
  clear HB
  have BK380:=n0_
  have HB:=n1_
  clear n0_ n1_
  refine start_ (n:=9) (S:=fun w'=>w'.cell? ⟨gb380,0,none⟩ = some (.int .i64 a0_0) ∧ w'.cell? ⟨gb380,1,none⟩ = some (.int .i64 a0_1)) (ds:=[]) #[false,false,false,false,false,false,false,false,false] (by kernel_rfl) rfl rfl ⟨(c_ BK380.out 0).trans rfl,(c_ BK380.out 1).trans rfl⟩ (fun hHeld=>?_);refine with_tabW impl_EndText.tab3 impl_EndText.bits3 (fun HT_ HW_=>?_)
  generalize w10.drew = w11 at BK380 HB hHeld ⊢
  refine pureA 0 (some 6) HT_.out ?_
  refine pureA 4 (some 10) HT_.out ?_
  refine takeA 1 (some 7) rfl rfl HT_.out HW_.out hHeld ?_ (by rintro w' ⟨s0,s1⟩;go_simp;with_reducible rfl)
  refine takeA 5 (some 11) rfl rfl HT_.out HW_.out hHeld ?_ (by rintro w' ⟨s0,s1⟩;go_simp;with_reducible rfl)
  refine one_ (i:=2) (N:=some 8) #[true,true,true,false,true,true,false,false,false] rfl rfl (one_of HT_.out (by kernel_rfl)) (by decide) (fun K hK=>?_)
  refine goes_ Tryz.func85 (by kernel_rfl) rfl #[.int .i64 a0_0] (by rfl) rfl rfl lens ?_
  with_reducible refine (strconv_Itoa.calls a0_0 t382 _ A4.out).mono ?_
  rintro e w12 ⟨rfl,hb⟩
  refine ⟨_,rfl,?_⟩
  have n0_:=m_ (blk_below (g:=gb380) (o:=.cells #[.int .i64 a0_0,.int .i64 a0_1] 49 (0,0)) (puB BK380.out) hb)
  have n1_:=m_ (l5_ (puM HB.out GE380.out) hb)
  clear BK380
  clear HB
  have BK380:=n0_
  have HB:=n1_
  clear n0_ n1_
  (try clear hb)
  (try clear hb2)
  (try clear hk)
  (try clear hi)
  refine hK.out _ _ ⟨(c_ BK380.out 0).trans rfl,(c_ BK380.out 1).trans rfl⟩ (fun hHeld=>?_)
  clear hK K
  refine norm_ (a':=?_) ?_ ?_
  rotate_left
  ·show Act.put _ (some 8) _ = _
   simp only [Act.put,s1_,s2_,s3_,i64_w,i32_w]
   rfl
  refine pureA 3 (some 9) HT_.out ?_
  refine one_ (i:=6) (N:=some 12) #[true,true,true,true,true,true,true,false,false] rfl rfl (one_of HT_.out (by kernel_rfl)) (by decide) (fun K hK=>?_)
  refine goes_ Tryz.func85 (by kernel_rfl) rfl #[.int .i64 a0_1] (by rfl) rfl rfl lens ?_
  with_reducible refine (strconv_Itoa.calls a0_1 t383 _ A6.out).mono ?_
  rintro e w13 ⟨rfl,hb⟩
  refine ⟨_,rfl,?_⟩
  have n0_:=m_ (blk_below (g:=gb380) (o:=.cells #[.int .i64 a0_0,.int .i64 a0_1] 49 (0,0)) (puB BK380.out) hb)
  have n1_:=m_ (l5_ (puM HB.out GE380.out) hb)
  clear BK380
  clear HB
  have BK380:=n0_
  have HB:=n1_
  clear n0_ n1_
  (try clear hb)
  (try clear hb2)
  (try clear hk)
  (try clear hi)
  refine hK.out _ _ ⟨(c_ BK380.out 0).trans rfl,(c_ BK380.out 1).trans rfl⟩ (fun hHeld=>?_)
  clear hK K
  refine norm_ (a':=?_) ?_ ?_
  rotate_left
  ·show Act.put _ (some 12) _ = _
   simp only [Act.put,s1_,s2_,s3_,i64_w,i32_w]
   rfl
  refine pureA 7 (some 13) HT_.out ?_
  refine pureA 8 (some 2) HT_.out ?_
  refine done_ (done_of HT_.out (by kernel_rfl)) ?_
  try go_wp2
  go_ret
  exact ⟨eqs,puM HB.out GE380.out⟩
 ·replace c3:=Bool.eq_false_iff.mpr c3
  subst c3
  replace H:=ifn H
  obtain rfl:=Option.some.inj H
  go_enter Tryz.func78,Tryz.ntmps78
  go_wp2_with (first|((with_reducible refine gate_dst (N:=1) rfl ?_);refine box_event ?hg (N:=1) ?hd (cs:=#[.int .i64 a0_0,.int .i64 a0_1]) (t:=49) ?hr ?_;(case hd=>rfl);(case hg=>rfl);(case hr=>first|(go_simp;done)|(go_simp;rfl));intro gb380 hg w14 hbox hb;have n0_:=m_ (l5_ (puL HB.out) hb);have n1_:=m_ (hbox);have n2_:=m_ ((by rw [hg];exact (l6_ (puL HB.out)) : w.heap.size ≤ gb380));have n3_:=m_ ((by rw [hg];exact (l6_ (puL HB.out)) : w.heap.size ≤ gb380));revert n0_ n1_ n2_ n3_;clear HB;intro HB BK380 GW380 GE380;clear hb hbox hg;have hcz15_0 : w14.cell? ⟨gb380,0,none⟩ = some (.int .i64 a0_0):=(c_ BK380.out 0).trans rfl;have hcz15_1 : w14.cell? ⟨gb380,1,none⟩ = some (.int .i64 a0_1):=(c_ BK380.out 1).trans rfl)|((with_reducible refine gate_callee (f:=84) rfl ?_);refine goesL_ (some 4) rfl rfl Tryz.func84 (by kernel_rfl) rfl #[.agg #[.int .i64 a0_0,.int .i64 a0_1]] rfl lens ?_;(with_reducible refine (impl_End_any.calls a0_0 a0_1 false _ A2.out).mono ?_);rintro e w16 ⟨rfl,hb⟩;refine ⟨_,rfl,?_⟩;have n0_:=m_ (blk_below (g:=gb380) (o:=.cells #[.int .i64 a0_0,.int .i64 a0_1] 49 (0,0)) (puB BK380.out) hb);have n1_:=m_ (l5_ (puM HB.out GE380.out) hb);revert n0_ n1_;clear BK380 HB;intro BK380 HB;(try clear hb);(try clear hb2);(try clear hk);(try clear hi)))
  go_ret
  exact ⟨eqs,puM HB.out GE380.out⟩

/-! ### strconv_Atoi: function 83 -/
/-- Of a numeral its number; else an error, of which only that it is one is told. -/
def strconv_Atoi.f (a0 : ByteArray) : Option (Int × Option Int) := if a0.size ≤ 281474976710656 then (match Lib.atoiAll a0.data.toList with | .ok v => some (v, none) | .range => some (Lib.atoiSat a0.data.toList, some 0) | _ => some (0, some 0)) else none
def ErrIs : Option Int → Value → Prop
 | none, E => E = .nilIface
 | some _, E => ∃ t p, E = .iface t p
theorem below_bytes_ {w w' : World} {t : TypeId} {s : ByteArray} (h : w' = w ∨ ∃ s', w' = Lib.bytesWorld w t s') : Below w.heap.size w w' := by
 rcases h with rfl|⟨s',rfl⟩
 ·exact Below.refl _ _
 ·exact Lib.bytesWorld_below _ _ _
theorem strconv_Atoi.calls (a0 : ByteArray) (r1 : Int) (r2 : Option Int) (w : World) (hG : GV w) (h : strconv_Atoi.f a0 = some (r1, r2)) :
  Calls Tryz.prog 83 #[.string a0] w fun e w'=>∃ E,ErrIs r2 E ∧ e = .returned (.tuple #[.int .i64 r1,E]) ∧ Below w.heap.size w w':=by
 unfold strconv_Atoi.f at h
 by_cases hs : a0.size ≤ 281474976710656
 ·rw [if_pos hs] at h
  obtain ⟨⟨t,p,g1⟩,⟨t',p',g2⟩⟩:=hG
  cases hc : Lib.atoiAll a0.data.toList with
  | ok v =>
   rw [hc] at h
   obtain ⟨rfl,rfl⟩:=Prod.mk.inj (Option.some.inj h)
   refine (Go.Proofs.Tryz.strconv_Atoi_ok a0 (by omega) v hc w).mono ?_
   rintro e w' ⟨rfl,hw⟩
   exact ⟨_,rfl,rfl,below_bytes_ (s:=a0) hw⟩
  | range =>
   rw [hc] at h
   obtain ⟨rfl,rfl⟩:=Prod.mk.inj (Option.some.inj h)
   refine (Go.Proofs.Tryz.strconv_Atoi_range a0 hs hc _ w g2 (Or.inr ⟨_,_,rfl⟩)).mono ?_
   rintro e w' ⟨N,rfl,_,_,hb⟩
   exact ⟨_,⟨_,_,rfl⟩,rfl,hb⟩
  | _ =>
   rw [hc] at h
   obtain ⟨rfl,rfl⟩:=Prod.mk.inj (Option.some.inj h)
   refine (Go.Proofs.Tryz.strconv_Atoi_syntax a0 hs (fun v e=>by rw [hc] at e;cases e) (fun e=>by rw [hc] at e;cases e) _ w g1 (Or.inr ⟨_,_,rfl⟩)).mono ?_
   rintro e w' ⟨N,rfl,_,_,hb⟩
   exact ⟨_,⟨_,_,rfl⟩,rfl,hb⟩
 ·rw [if_neg hs] at h;cases h

end Go.Proofs.YtkcjmmhleepjeaaGreatDoor.A
