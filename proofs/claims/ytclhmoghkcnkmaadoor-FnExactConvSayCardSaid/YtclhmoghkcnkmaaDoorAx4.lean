-- Printed by myprint.py (wip/tools) out of the translation. Not trusted: Lean checks it.
import Derived.Test.YtclhmoghkcnkmaaDoorAx0
import Derived.Test.YtclhmoghkcnkmaaDoorAx3
namespace Go.Proofs.YtclhmoghkcnkmaaDoor.A
open Go.RowKit Go.Proofs.YtclhmoghkcnkmaaDoorW.PrintWords Go.Proofs.YtclhmoghkcnkmaaDoorW.PrintLast Go.Proofs.YtclhmoghkcnkmaaDoorW.PrintMore
attribute [local go_sem] max2_int min2_int max_two min_two max_three min_three max_four min_four   -- for this text's walks alone
set_option linter.unusedVariables false
set_option linter.unusedSimpArgs false

/-! ### impl_beginning: function 77 -/
/-- May this byte stand at this place of a name's beginning. -/
def begb (i : Nat) (c : Int) : Bool := if i = 0 then c == 64 else if i = 1 ∨ i = 3 then decide (49 ≤ c ∧ c ≤ 57) else if i = 2 then c == 58 else if i = 4 then decide (48 ≤ c ∧ c ≤ 57) else false
def impl_beginning.f (a0 : ByteArray) : Option (Bool) := if a0.size ≤ 140737488355328 then some ((List.range a0.size).all fun i => begb i (bt a0 i)) else none
theorem beg_cell (s : ByteArray) (k : Nat) (h : k < s.size) : ((s.data.toList.getD k 0).toNat : Int) = bt s k := by
 have h' : k < s.data.toList.length:=by rw [data_length];exact h
 simp [bt,h,List.getD_eq_getElem?_getD,List.getElem?_eq_getElem h']
 rfl
set_option maxHeartbeats 4000000 in
set_option maxRecDepth 100000 in
theorem impl_beginning.calls (a0 : ByteArray) (r : Bool) (w : World) (h : impl_beginning.f a0 = some r) :
  Calls Tryd.prog 77 #[.string a0] w fun e w'=>e = .returned (.bool r) ∧ Below w.heap.size w w':=by
 unfold impl_beginning.f at h
 by_cases hs : a0.size ≤ 140737488355328
 ·rw [if_pos hs] at h
  have HR:=m_ (Option.some.inj h)
  clear h
  have kb:=fun W=>print_bytes (P:=Tryd.prog) 9 27 5 Tryd.underlying9 Tryd.underlying27 Tryd.underlying5 a0 W
  go_enter Tryd.func77,Tryd.ntmps77
  go_wp2
  go_loopw [9] (fun i wr=>∃ k : Nat,k ≤ a0.size ∧ i = .int .i64 k ∧ Aside0 (∀ j : Nat,j < k → begb j (bt a0 j) = true) ∧ Aside0 (Drawn0 (Lib.bytesWorld w 5 a0) wr)) (fun i _=>a0.size - (intOf i).toNat)
  case atStart=>exact ⟨0,Nat.zero_le _,rfl,⟨fun j hj=>absurd hj (Nat.not_lt_zero _)⟩,⟨Drawn0.refl _⟩⟩
  case round =>
   obtain ⟨k,hk,rfl,hall,hd⟩:=hrel
   have hb:=bt_range a0 k
   by_cases hlt : k < a0.size
   ·have hcell : wr.cell? ⟨w.heap.size,k,none⟩ = some (.int .u8 (bt a0 k)):=by
     obtain ⟨⟨m,rfl⟩⟩:=hd.out
     show (Lib.bytesWorld w 5 a0).cell? _ = _
     rw [Lib.bytesWorld_cell w 5 a0 k hlt,beg_cell a0 k hlt]
    have hnext:=fun (h1 : begb k (bt a0 k) = true)=>m_ (show ∀ j : Nat,j < k + 1 → begb j (bt a0 j) = true from fun j hj=>by
     by_cases e : j = k
     ·subst e;exact h1
     ·exact hall.out j (by omega))
    have hbad:=fun (h1 : begb k (bt a0 k) = false)=>m_ (show ((List.range a0.size).all fun i=>begb i (bt a0 i)) = false from by
     rw [List.all_eq_false]
     exact ⟨k,List.mem_range.2 hlt,by rw [h1];decide⟩)
    generalize bt a0 k = c at hb hcell hnext hbad
    clear hall
    by_cases k0 : k = 0
    ·have hbb : begb k c = (c == 64):=by subst k0;rfl
     have e0 : ((k : Int) == 0) = true:=beq_iff_eq.2 (by omega)
     have e1 : ((k : Int) == 1) = false:=beq_eq_false_iff_ne.2 (by omega)
     have e3 : ((k : Int) == 3) = false:=beq_eq_false_iff_ne.2 (by omega)
     have e2 : ((k : Int) == 2) = false:=beq_eq_false_iff_ne.2 (by omega)
     have e4 : ((k : Int) == 4) = false:=beq_eq_false_iff_ne.2 (by omega)
     clear k0
     by_cases d : c = 64
     ·have hn:=hnext (by rw [hbb];exact beq_iff_eq.2 d)
      clear hnext hbad hbb
      have d1 : (c == 64) = true:=beq_iff_eq.2 d
      clear d
      go_wp2
      go_roundw
      case rel=>exact ⟨k + 1,by omega,by go_num,hn,⟨hd.out⟩⟩
      case measure=>simp [intOf];omega
     ·obtain rfl : r = false:=by rw [← HR.out];exact (hbad (by rw [hbb];exact beq_eq_false_iff_ne.2 d)).out
      clear hnext hbad hbb
      have d1 : (c == 64) = false:=beq_eq_false_iff_ne.2 d
      clear d
      go_wp2
      go_ret
      exact ⟨rfl,(bytes_below (Below.refl w.heap.size w) (Nat.le_refl _) 5 a0).trans ((hd.out).below.mono (by rw [Lib.bytesWorld_size];omega))⟩
    ·skip
     by_cases k1 : k = 1
     ·have hbb : begb k c = decide (49 ≤ c ∧ c ≤ 57):=by subst k1;rfl
      have e0 : ((k : Int) == 0) = false:=beq_eq_false_iff_ne.2 (by omega)
      have e1 : ((k : Int) == 1) = true:=beq_iff_eq.2 (by omega)
      have e3 : ((k : Int) == 3) = false:=beq_eq_false_iff_ne.2 (by omega)
      have e2 : ((k : Int) == 2) = false:=beq_eq_false_iff_ne.2 (by omega)
      have e4 : ((k : Int) == 4) = false:=beq_eq_false_iff_ne.2 (by omega)
      clear k0 k1
      by_cases d : 49 ≤ c ∧ c ≤ 57
      ·have hn:=hnext (by rw [hbb];exact decide_eq_true d)
       clear hnext hbad hbb
       have HF:=m_ (show impl_figure.f c 49 = some true by unfold impl_figure.f;rw [if_pos d.1,decide_eq_true d.2])
       clear d
       go_wp2_with (go_at_call 65;refine (impl_figure.calls c 49 true _ HF.out).mono ?_;rintro e w' ⟨rfl,⟨nd,rfl⟩⟩)
       go_roundw
       case rel=>exact ⟨k + 1,by omega,by go_num,hn,⟨hd.out.step nd⟩⟩
       case measure=>simp [intOf];omega
      ·obtain rfl : r = false:=by rw [← HR.out];exact (hbad (by rw [hbb];exact decide_eq_false d)).out
       clear hnext hbad hbb
       have HF:=m_ (show impl_figure.f c 49 = some false by
        unfold impl_figure.f
        by_cases e : c ≥ 49
        ·rw [if_pos e,decide_eq_false (by omega)]
        ·rw [if_neg e])
       clear d
       go_wp2_with (go_at_call 65;refine (impl_figure.calls c 49 false _ HF.out).mono ?_;rintro e w' ⟨rfl,⟨nd,rfl⟩⟩)
       go_ret
       exact ⟨rfl,(bytes_below (Below.refl w.heap.size w) (Nat.le_refl _) 5 a0).trans ((hd.out.step nd).below.mono (by rw [Lib.bytesWorld_size];omega))⟩
     ·skip
      by_cases k2 : k = 2
      ·have hbb : begb k c = (c == 58):=by subst k2;rfl
       have e0 : ((k : Int) == 0) = false:=beq_eq_false_iff_ne.2 (by omega)
       have e1 : ((k : Int) == 1) = false:=beq_eq_false_iff_ne.2 (by omega)
       have e3 : ((k : Int) == 3) = false:=beq_eq_false_iff_ne.2 (by omega)
       have e2 : ((k : Int) == 2) = true:=beq_iff_eq.2 (by omega)
       have e4 : ((k : Int) == 4) = false:=beq_eq_false_iff_ne.2 (by omega)
       clear k0 k1 k2
       by_cases d : c = 58
       ·have hn:=hnext (by rw [hbb];exact beq_iff_eq.2 d)
        clear hnext hbad hbb
        have d1 : (c == 58) = true:=beq_iff_eq.2 d
        clear d
        go_wp2
        go_roundw
        case rel=>exact ⟨k + 1,by omega,by go_num,hn,⟨hd.out⟩⟩
        case measure=>simp [intOf];omega
       ·obtain rfl : r = false:=by rw [← HR.out];exact (hbad (by rw [hbb];exact beq_eq_false_iff_ne.2 d)).out
        clear hnext hbad hbb
        have d1 : (c == 58) = false:=beq_eq_false_iff_ne.2 d
        clear d
        go_wp2
        go_ret
        exact ⟨rfl,(bytes_below (Below.refl w.heap.size w) (Nat.le_refl _) 5 a0).trans ((hd.out).below.mono (by rw [Lib.bytesWorld_size];omega))⟩
      ·skip
       by_cases k3 : k = 3
       ·have hbb : begb k c = decide (49 ≤ c ∧ c ≤ 57):=by subst k3;rfl
        have e0 : ((k : Int) == 0) = false:=beq_eq_false_iff_ne.2 (by omega)
        have e1 : ((k : Int) == 1) = false:=beq_eq_false_iff_ne.2 (by omega)
        have e3 : ((k : Int) == 3) = true:=beq_iff_eq.2 (by omega)
        have e2 : ((k : Int) == 2) = false:=beq_eq_false_iff_ne.2 (by omega)
        have e4 : ((k : Int) == 4) = false:=beq_eq_false_iff_ne.2 (by omega)
        clear k0 k1 k2 k3
        by_cases d : 49 ≤ c ∧ c ≤ 57
        ·have hn:=hnext (by rw [hbb];exact decide_eq_true d)
         clear hnext hbad hbb
         have HF:=m_ (show impl_figure.f c 49 = some true by unfold impl_figure.f;rw [if_pos d.1,decide_eq_true d.2])
         clear d
         go_wp2_with (go_at_call 65;refine (impl_figure.calls c 49 true _ HF.out).mono ?_;rintro e w' ⟨rfl,⟨nd,rfl⟩⟩)
         go_roundw
         case rel=>exact ⟨k + 1,by omega,by go_num,hn,⟨hd.out.step nd⟩⟩
         case measure=>simp [intOf];omega
        ·obtain rfl : r = false:=by rw [← HR.out];exact (hbad (by rw [hbb];exact decide_eq_false d)).out
         clear hnext hbad hbb
         have HF:=m_ (show impl_figure.f c 49 = some false by
          unfold impl_figure.f
          by_cases e : c ≥ 49
          ·rw [if_pos e,decide_eq_false (by omega)]
          ·rw [if_neg e])
         clear d
         go_wp2_with (go_at_call 65;refine (impl_figure.calls c 49 false _ HF.out).mono ?_;rintro e w' ⟨rfl,⟨nd,rfl⟩⟩)
         go_ret
         exact ⟨rfl,(bytes_below (Below.refl w.heap.size w) (Nat.le_refl _) 5 a0).trans ((hd.out.step nd).below.mono (by rw [Lib.bytesWorld_size];omega))⟩
       ·skip
        by_cases k4 : k = 4
        ·have hbb : begb k c = decide (48 ≤ c ∧ c ≤ 57):=by subst k4;rfl
         have e0 : ((k : Int) == 0) = false:=beq_eq_false_iff_ne.2 (by omega)
         have e1 : ((k : Int) == 1) = false:=beq_eq_false_iff_ne.2 (by omega)
         have e3 : ((k : Int) == 3) = false:=beq_eq_false_iff_ne.2 (by omega)
         have e2 : ((k : Int) == 2) = false:=beq_eq_false_iff_ne.2 (by omega)
         have e4 : ((k : Int) == 4) = true:=beq_iff_eq.2 (by omega)
         clear k0 k1 k2 k3 k4
         by_cases d : 48 ≤ c ∧ c ≤ 57
         ·have hn:=hnext (by rw [hbb];exact decide_eq_true d)
          clear hnext hbad hbb
          have HF:=m_ (show impl_figure.f c 48 = some true by unfold impl_figure.f;rw [if_pos d.1,decide_eq_true d.2])
          clear d
          go_wp2_with (go_at_call 65;refine (impl_figure.calls c 48 true _ HF.out).mono ?_;rintro e w' ⟨rfl,⟨nd,rfl⟩⟩)
          go_roundw
          case rel=>exact ⟨k + 1,by omega,by go_num,hn,⟨hd.out.step nd⟩⟩
          case measure=>simp [intOf];omega
         ·obtain rfl : r = false:=by rw [← HR.out];exact (hbad (by rw [hbb];exact decide_eq_false d)).out
          clear hnext hbad hbb
          have HF:=m_ (show impl_figure.f c 48 = some false by
           unfold impl_figure.f
           by_cases e : c ≥ 48
           ·rw [if_pos e,decide_eq_false (by omega)]
           ·rw [if_neg e])
          clear d
          go_wp2_with (go_at_call 65;refine (impl_figure.calls c 48 false _ HF.out).mono ?_;rintro e w' ⟨rfl,⟨nd,rfl⟩⟩)
          go_ret
          exact ⟨rfl,(bytes_below (Below.refl w.heap.size w) (Nat.le_refl _) 5 a0).trans ((hd.out.step nd).below.mono (by rw [Lib.bytesWorld_size];omega))⟩
        ·skip
         have hbb : begb k c = false:=by unfold begb;rw [if_neg k0,if_neg (by omega),if_neg k2,if_neg k4]
         have e0 : ((k : Int) == 0) = false:=beq_eq_false_iff_ne.2 (by omega)
         have e1 : ((k : Int) == 1) = false:=beq_eq_false_iff_ne.2 (by omega)
         have e3 : ((k : Int) == 3) = false:=beq_eq_false_iff_ne.2 (by omega)
         have e2 : ((k : Int) == 2) = false:=beq_eq_false_iff_ne.2 (by omega)
         have e4 : ((k : Int) == 4) = false:=beq_eq_false_iff_ne.2 (by omega)
         clear k0 k1 k2 k3 k4
         obtain rfl : r = false:=by rw [← HR.out];exact (hbad hbb).out
         clear hnext hbad hbb
         go_wp2
         go_ret
         exact ⟨rfl,(bytes_below (Below.refl w.heap.size w) (Nat.le_refl _) 5 a0).trans ((hd.out).below.mono (by rw [Lib.bytesWorld_size];omega))⟩
   ·have hk2 : k = a0.size:=by omega
    have hfin : Aside0 (r = true):=⟨by
     rw [← HR.out,List.all_eq_true]
     intro x hx
     exact hall.out x (by have:=List.mem_range.1 hx;omega)⟩
    clear hall hk2
    obtain rfl:=hfin.out
    clear hfin
    go_wp2
    go_ret
    exact ⟨rfl,(bytes_below (Below.refl w.heap.size w) (Nat.le_refl _) 5 a0).trans (hd.out.below.mono (by rw [Lib.bytesWorld_size];omega))⟩
 ·rw [if_neg hs] at h;cases h

/-! ### impl_held: function 54 -/
def impl_held.l0 : Nat → ByteArray → Int → Option (Int)
 | 0, _, _ => none
 | k + 1, x0, x3 => if x3 > 0 then (if 0 ≤ (wrap64 ((x0.size : Int) - x3)) then (if (wrap64 ((x0.size : Int) - x3)) ≤ (x0.size : Int) then ((impl_beginning.f (x0.extract ((wrap64 ((x0.size : Int) - x3)) : Int).toNat x0.size)).bind fun t175 => (if t175 = true then (some x3) else (impl_held.l0 k x0 (wrap64 (x3 - 1))))) else (none)) else (none)) else (some 0)
def impl_held.f (k : Nat) (a0 : ByteArray) : Option (Int) := impl_held.l0 k a0 (mn 5 (a0.size : Int))
theorem impl_held.mono_l : ∀ k, (∀ y0 y1, LeO (impl_held.l0 k y0 y1) (impl_held.l0 (k + 1) y0 y1))
 | 0 => fun _ _ r h => by simp [impl_held.l0] at h
 | k + 1 => by
  have ih0:=impl_held.mono_l k
  ·intro y0 y1
   unfold impl_held.l0
   repeat' first
   | (with_reducible exact ih0 _ _)
   | (with_reducible exact LeO.refl _)
   | (with_reducible exact LeO.none _)
   | (with_reducible refine LeO.ite ?_ ?_)
   | (with_reducible refine LeO.bind ?_ (fun _ => ?_))
   | exact ih0 _ _
   | exact LeO.none _
   | refine LeO.ite ?_ ?_
   | refine LeO.bind ?_ (fun _ => ?_)
theorem impl_held.mono : ∀ a0 k, LeO (impl_held.f k a0) (impl_held.f (k + 1) a0) := by
 intro a0 k
 have ih0:=impl_held.mono_l k
 unfold impl_held.f
 repeat' first
   | (with_reducible exact ih0 _ _)
   | (with_reducible exact LeO.refl _)
   | (with_reducible exact LeO.none _)
   | (with_reducible refine LeO.ite ?_ ?_)
   | (with_reducible refine LeO.bind ?_ (fun _ => ?_))
   | exact ih0 _ _
   | exact LeO.none _
   | refine LeO.ite ?_ ?_
   | refine LeO.bind ?_ (fun _ => ?_)
set_option maxHeartbeats 8000000 in
set_option maxRecDepth 100000 in
theorem impl_held.calls (k : Nat) (a0 : ByteArray) (r : Int) (w : World) (h : impl_held.f k a0 = some r) :
  Calls Tryd.prog 54 #[.string a0] w fun e w'=>e = .returned (.int .i64 r) ∧ Below w.heap.size w w':=by
 have HB:=m_ (Below.refl w.heap.size w)
 have H : (impl_held.l0 k a0 (mn 5 (a0.size : Int))) = some r:=h
 clear h
 obtain ⟨ji2,hji2⟩ : ∃ j_ : Int,(mn 5 (a0.size : Int)) = j_:=⟨_,rfl⟩
 replace H : (impl_held.l0 k a0 ji2) = some r:=by first|(rw [hji2] at H;exact H)|(simp only [hji2] at H ⊢;exact H)
 (try (have hji2h : ji2 ≤ 5:=by (rw [← hji2];unfold mn;(repeat' split) <;> omega)))
 (try (have hji2g : ji2 ≤ 64:=by omega))
 (try (have hji2l : 0 ≤ ji2:=by (rw [← hji2];unfold mn;(repeat' split) <;> omega)))
 (try (have hji2m : 0 ≤ ji2:=by omega))
 have hji2_ : (if (a0.size : Int) < 5 then (a0.size : Int) else 5) = ji2:=hji2
 have H':=m_ H
 clear H
 go_enter Tryd.func54,Tryd.ntmps54
 go_wp2
 go_loopg [3] k (fun kq v3 w'=>∃ (x3_1 : Int),v3 = .int .i64 x3_1 ∧ Aside0 (impl_held.l0 kq a0 x3_1 = some r) ∧ Aside0 (kq ≤ k) ∧ Aside0 (Below w.heap.size w w'))
 case atStart=>exact ⟨(ji2),(by first|rfl|(simp;done)|(simp only [← hji2] <;> (first|rfl|simp))|(simp [*];done)),H',⟨Nat.le_refl _⟩,⟨by repeat (first|(with_reducible first|exact HB.out|apply l1_|apply l2_|apply l3_)|exact HB.out)⟩⟩
 case round =>
  clear H'
  try clear p2
  obtain ⟨x3_1,rfl,HA,HK1,HB⟩:=hrel
  cases gk with
  | zero => exact absurd HA.out (by simp [impl_held.l0])
  | succ k1 =>
   have H:=HA.out
   clear HA
   simp only [impl_held.l0] at H
   by_cases c3 : x3_1 > 0
   ·rw [if_pos c3] at H
    have c3b0 : decide (0 < x3_1) = true:=decide_eq_true c3
    clear c3
    obtain ⟨ji4,hji4⟩ : ∃ j_ : Int,(wrap64 ((a0.size : Int) - x3_1)) = j_:=⟨_,rfl⟩
    replace H : (if 0 ≤ (ji4) then (if (ji4) ≤ (a0.size : Int) then ((impl_beginning.f (a0.extract ((ji4) : Int).toNat a0.size)).bind fun t175=>(if t175 = true then (some x3_1) else (impl_held.l0 k1 a0 (wrap64 (x3_1 - 1))))) else (none)) else (none)) = some r:=by first|(rw [hji4] at H;exact H)|(simp only [hji4] at H ⊢;exact H)
    have hji4w : (IntKind.i64.wrap ((a0.size : Int) - x3_1)) = ji4:=(i64_w _).trans hji4
    by_cases c5 : 0 ≤ (ji4)
    ·rw [if_pos c5] at H
     have c5b0:=eq_true c5
     have c5b1 : decide (0 ≤ (ji4)) = true:=decide_eq_true c5
     clear c5
     by_cases c6 : (ji4) ≤ (a0.size : Int)
     ·rw [if_pos c6] at H
      have c6b0:=eq_true c6
      have c6b1 : decide ((ji4) ≤ (a0.size : Int)) = true:=decide_eq_true c6
      clear c6
      replace H:=Option.bind_eq_some_iff.mp H
      obtain ⟨t175,A70,H⟩:=H
      replace H : (if t175 = true then (some x3_1) else (impl_held.l0 k1 a0 (wrap64 (x3_1 - 1)))) = some r:=H
      have A7:=m_ A70
      clear A70
      by_cases c8 : t175 = true
      ·subst c8
       have H1 : (some x3_1) = some r:=by rw [if_pos rfl] at H;exact H
       clear H
       have H:=H1
       clear H1
       obtain rfl:=Option.some.inj H
       go_wp2_with (first|((with_reducible refine gate_callee (f:=77) rfl ?_);refine goesL_ (some 17) rfl rfl Tryd.func77 (by kernel_rfl) rfl #[.string (a0.extract ((ji4) : Int).toNat a0.size)] rfl (by (try simp only [List.map_toArray,List.map_cons,List.map_nil]);first|done|(simp only [hji4];rfl)|rfl|(simp only [List.length_drop,List.length_take];rfl)) ?_;(with_reducible refine (impl_beginning.calls (a0.extract ((ji4) : Int).toNat a0.size) true _ A7.out).mono ?_);rintro e w9 ⟨rfl,hb⟩;refine ⟨_,rfl,?_⟩;have n0_:=m_ (l5_ (by repeat (first|(with_reducible first|exact HB.out|apply l1_|apply l2_|apply l3_)|exact HB.out)) hb);clear HB;have HB:=n0_;clear n0_;(try clear hb);(try clear hb2);(try clear hk);(try clear hi)))
       go_ret
       exact ⟨by first|rfl|(simp [e1_,e2_] <;> rfl)|(simp only [← hji2,← hji4];first|rfl|(simp [e1_,e2_] <;> rfl))|(simp [*,e1_,e2_] <;> rfl)|(simp [e1_,e2_,pk_empty1,pk_empty2];done)|(simp [*,e1_,e2_,pk_empty1,pk_empty2];done),by repeat (first|(with_reducible first|exact HB.out|apply l1_|apply l2_|apply l3_)|exact HB.out)⟩
      ·replace c8:=Bool.eq_false_iff.mpr c8
       subst c8
       have H1 : (impl_held.l0 k1 a0 (wrap64 (x3_1 - 1))) = some r:=by rw [if_neg (show ¬ (false = true) by decide)] at H;exact H
       clear H
       have H:=H1
       clear H1
       have H':=m_ H
       clear H
       go_wp2_with (first|((with_reducible refine gate_callee (f:=77) rfl ?_);refine goesL_ (some 17) rfl rfl Tryd.func77 (by kernel_rfl) rfl #[.string (a0.extract ((ji4) : Int).toNat a0.size)] rfl (by (try simp only [List.map_toArray,List.map_cons,List.map_nil]);first|done|(simp only [hji4];rfl)|rfl|(simp only [List.length_drop,List.length_take];rfl)) ?_;(with_reducible refine (impl_beginning.calls (a0.extract ((ji4) : Int).toNat a0.size) false _ A7.out).mono ?_);rintro e w10 ⟨rfl,hb⟩;refine ⟨_,rfl,?_⟩;have n0_:=m_ (l5_ (by repeat (first|(with_reducible first|exact HB.out|apply l1_|apply l2_|apply l3_)|exact HB.out)) hb);clear HB;have HB:=n0_;clear n0_;(try clear hb);(try clear hb2);(try clear hk);(try clear hi)))
       go_roundg k1
       case measure=>have:=HK1.out;omega
       case rel=>exact ⟨(wrap64 (x3_1 - 1)),(by first|rfl|(simp;done)|(simp [*];done)),H',⟨by have:=HK1.out;omega⟩,⟨by repeat (first|(with_reducible first|exact HB.out|apply l1_|apply l2_|apply l3_)|exact HB.out)⟩⟩
     ·rw [if_neg c6] at H
      exact absurd H (by simp)
    ·rw [if_neg c5] at H
     exact absurd H (by simp)
   ·rw [if_neg c3] at H
    have c3b0 : decide (0 < x3_1) = false:=decide_eq_false c3
    clear c3
    obtain rfl:=Option.some.inj H
    go_wp2
    go_ret
    exact ⟨by first|rfl|(simp [e1_,e2_] <;> rfl)|(simp only [← hji2];first|rfl|(simp [e1_,e2_] <;> rfl))|(simp [*,e1_,e2_] <;> rfl)|(simp [e1_,e2_,pk_empty1,pk_empty2];done)|(simp [*,e1_,e2_,pk_empty1,pk_empty2];done),by repeat (first|(with_reducible first|exact HB.out|apply l1_|apply l2_|apply l3_)|exact HB.out)⟩

/-! ### stringslite_HasPrefix: function 98 -/
def stringslite_HasPrefix.f (a0 : ByteArray) (a1 : ByteArray) : Option (Bool) := if (a0.size : Int) ≥ (a1.size : Int) then (if 0 ≤ (a1.size : Int) then (if (a1.size : Int) ≤ (a0.size : Int) then (some ((a0.extract 0 ((a1.size : Int) : Int).toNat).toList == a1.toList)) else (none)) else (none)) else (some false)
set_option maxHeartbeats 8000000 in
set_option maxRecDepth 100000 in
theorem stringslite_HasPrefix.calls (a0 : ByteArray) (a1 : ByteArray) (r : Bool) (w : World) (h : stringslite_HasPrefix.f a0 a1 = some r) :
  Calls Tryd.prog 98 #[.string a0,.string a1] w fun e w'=>e = .returned (.bool r) ∧ Drawn0 w w':=by
 have H : (if (a0.size : Int) ≥ (a1.size : Int) then (if 0 ≤ (a1.size : Int) then (if (a1.size : Int) ≤ (a0.size : Int) then (some ((a0.extract 0 ((a1.size : Int) : Int).toNat).toList == a1.toList)) else (none)) else (none)) else (some false)) = some r:=h
 clear h
 by_cases c3 : (a0.size : Int) ≥ (a1.size : Int)
 ·rw [if_pos c3] at H
  have c3b0 : decide ((a1.size : Int) ≤ (a0.size : Int)) = true:=decide_eq_true c3
  have c3b1 : decide (a1.size ≤ a0.size) = true:=decide_eq_true (Int.ofNat_le.mp c3)
  clear c3
  by_cases c4 : 0 ≤ (a1.size : Int)
  ·rw [if_pos c4] at H
   have c4b0:=eq_true c4
   have c4b1 : decide (0 ≤ (a1.size : Int)) = true:=decide_eq_true c4
   clear c4
   by_cases c5 : (a1.size : Int) ≤ (a0.size : Int)
   ·rw [if_pos c5] at H
    have c5b0:=eq_true c5
    have c5b1 : decide ((a1.size : Int) ≤ (a0.size : Int)) = true:=decide_eq_true c5
    clear c5
    obtain rfl:=Option.some.inj H
    go_enter Tryd.func98,Tryd.ntmps98
    go_wp2
    go_ret
    exact ⟨by first|rfl|(simp;done)|(simp [*];done),by repeat (first|exact Drawn0.refl _|apply Drawn0.step)⟩
   ·rw [if_neg c5] at H
    exact absurd H (by simp)
  ·rw [if_neg c4] at H
   exact absurd H (by simp)
 ·rw [if_neg c3] at H
  have c3b0 : decide ((a1.size : Int) ≤ (a0.size : Int)) = false:=decide_eq_false c3
  have c3b1 : decide (a1.size ≤ a0.size) = false:=decide_eq_false (fun h=>c3 (Int.ofNat_le.mpr h))
  clear c3
  obtain rfl:=Option.some.inj H
  go_enter Tryd.func98,Tryd.ntmps98
  go_wp2
  go_ret
  exact ⟨by first|rfl|(simp;done)|(simp [*];done),by repeat (first|exact Drawn0.refl _|apply Drawn0.step)⟩

/-! ### stringslite_CutPrefix: function 89 -/
def stringslite_CutPrefix.f (a0 : ByteArray) (a1 : ByteArray) : Option (ByteArray × Bool) := (stringslite_HasPrefix.f a0 a1).bind fun t176 => (if t176 = true then (if 0 ≤ (a1.size : Int) then (if (a1.size : Int) ≤ (a0.size : Int) then (some (a0.extract ((a1.size : Int) : Int).toNat a0.size, true)) else (none)) else (none)) else (some (a0, false)))
set_option maxHeartbeats 8000000 in
set_option maxRecDepth 100000 in
theorem stringslite_CutPrefix.calls (a0 : ByteArray) (a1 : ByteArray) (r1 : ByteArray) (r2 : Bool) (w : World) (h : stringslite_CutPrefix.f a0 a1 = some (r1, r2)) :
  Calls Tryd.prog 89 #[.string a0,.string a1] w fun e w'=>e = .returned (.tuple #[.string r1,.bool r2]) ∧ Drawn0 w w':=by
 have H : ((stringslite_HasPrefix.f a0 a1).bind fun t176=>(if t176 = true then (if 0 ≤ (a1.size : Int) then (if (a1.size : Int) ≤ (a0.size : Int) then (some (a0.extract ((a1.size : Int) : Int).toNat a0.size,true)) else (none)) else (none)) else (some (a0,false)))) = some (r1,r2):=h
 clear h
 replace H:=Option.bind_eq_some_iff.mp H
 obtain ⟨t176,A30,H⟩:=H
 replace H : (if t176 = true then (if 0 ≤ (a1.size : Int) then (if (a1.size : Int) ≤ (a0.size : Int) then (some (a0.extract ((a1.size : Int) : Int).toNat a0.size,true)) else (none)) else (none)) else (some (a0,false))) = some (r1,r2):=H
 have A3:=m_ A30
 clear A30
 by_cases c4 : t176 = true
 ·subst c4
  have H1 : (if 0 ≤ (a1.size : Int) then (if (a1.size : Int) ≤ (a0.size : Int) then (some (a0.extract ((a1.size : Int) : Int).toNat a0.size,true)) else (none)) else (none)) = some (r1,r2):=by rw [if_pos rfl] at H;exact H
  clear H
  have H:=H1
  clear H1
  by_cases c5 : 0 ≤ (a1.size : Int)
  ·rw [if_pos c5] at H
   have c5b0:=eq_true c5
   have c5b1 : decide (0 ≤ (a1.size : Int)) = true:=decide_eq_true c5
   clear c5
   by_cases c6 : (a1.size : Int) ≤ (a0.size : Int)
   ·rw [if_pos c6] at H
    have c6b0:=eq_true c6
    have c6b1 : decide ((a1.size : Int) ≤ (a0.size : Int)) = true:=decide_eq_true c6
    clear c6
    simp only [Option.some.injEq,Prod.mk.injEq] at H
    obtain ⟨rfl,rfl⟩:=H
    go_enter Tryd.func89,Tryd.ntmps89
    go_wp2_with (first|((with_reducible refine gate_callee (f:=98) rfl ?_);refine goesL_ (some 8) rfl rfl Tryd.func98 (by kernel_rfl) rfl #[.string a0,.string a1] rfl (by (try simp only [List.map_toArray,List.map_cons,List.map_nil]);first|done|rfl|(simp only [List.length_drop,List.length_take];rfl)) ?_;(with_reducible refine (stringslite_HasPrefix.calls a0 a1 true _ A3.out).mono ?_);rintro e w' ⟨rfl,⟨nd,rfl⟩⟩;refine ⟨_,rfl,?_⟩))
    go_ret2
    exact ⟨by first|rfl|(simp;done)|(simp [*];done),by repeat (first|exact Drawn0.refl _|apply Drawn0.step)⟩
   ·rw [if_neg c6] at H
    exact absurd H (by simp)
  ·rw [if_neg c5] at H
   exact absurd H (by simp)
 ·replace c4:=Bool.eq_false_iff.mpr c4
  subst c4
  have H1 : (some (a0,false)) = some (r1,r2):=by rw [if_neg (show ¬ (false = true) by decide)] at H;exact H
  clear H
  have H:=H1
  clear H1
  simp only [Option.some.injEq,Prod.mk.injEq] at H
  obtain ⟨rfl,rfl⟩:=H
  go_enter Tryd.func89,Tryd.ntmps89
  go_wp2_with (first|((with_reducible refine gate_callee (f:=98) rfl ?_);refine goesL_ (some 8) rfl rfl Tryd.func98 (by kernel_rfl) rfl #[.string a0,.string a1] rfl (by (try simp only [List.map_toArray,List.map_cons,List.map_nil]);first|done|rfl|(simp only [List.length_drop,List.length_take];rfl)) ?_;(with_reducible refine (stringslite_HasPrefix.calls a0 a1 false _ A3.out).mono ?_);rintro e w' ⟨rfl,⟨nd,rfl⟩⟩;refine ⟨_,rfl,?_⟩))
  go_ret2
  exact ⟨by first|rfl|(simp;done)|(simp [*];done),by repeat (first|exact Drawn0.refl _|apply Drawn0.step)⟩

/-! ### strings_CutPrefix: function 83 -/
def strings_CutPrefix.f (a0 : ByteArray) (a1 : ByteArray) : Option (ByteArray × Bool) := (stringslite_CutPrefix.f a0 a1).bind fun bt177 => (some (bt177.1, bt177.2))
set_option maxHeartbeats 8000000 in
set_option maxRecDepth 100000 in
theorem strings_CutPrefix.calls (a0 : ByteArray) (a1 : ByteArray) (r1 : ByteArray) (r2 : Bool) (w : World) (h : strings_CutPrefix.f a0 a1 = some (r1, r2)) :
  Calls Tryd.prog 83 #[.string a0,.string a1] w fun e w'=>e = .returned (.tuple #[.string r1,.bool r2]) ∧ Drawn0 w w':=by
 have H : ((stringslite_CutPrefix.f a0 a1).bind fun bt177=>(some (bt177.1,bt177.2))) = some (r1,r2):=h
 clear h
 replace H:=Option.bind_eq_some_iff.mp H
 obtain ⟨⟨t177,t178⟩,A30,H⟩:=H
 replace H : (some (t177,t178)) = some (r1,r2):=H
 have A3:=m_ A30
 clear A30
 simp only [Option.some.injEq,Prod.mk.injEq] at H
 obtain ⟨rfl,rfl⟩:=H
 go_enter Tryd.func83,Tryd.ntmps83
 go_wp2_with (first|((with_reducible refine gate_callee (f:=89) rfl ?_);refine goesL_ (some 8) rfl rfl Tryd.func89 (by kernel_rfl) rfl #[.string a0,.string a1] rfl (by (try simp only [List.map_toArray,List.map_cons,List.map_nil]);first|done|rfl|(simp only [List.length_drop,List.length_take];rfl)) ?_;(with_reducible refine (stringslite_CutPrefix.calls a0 a1 t177 t178 _ A3.out).mono ?_);rintro e w' ⟨rfl,⟨nd,rfl⟩⟩;refine ⟨_,rfl,?_⟩))
 go_ret2
 exact ⟨by first|rfl|(simp;done)|(simp [*];done),by repeat (first|exact Drawn0.refl _|apply Drawn0.step)⟩

/-! ### stringslite_Index: function 106 -/
/-- The first place of one byte in a text; -1: nowhere. -/
def stringslite_Index.f (a0 a1 : ByteArray) : Option (Int) := if a1.size = 1 then some (Lib.indexByte a0.data.toList (a1.data.toList.headD 0)) else none
theorem stringslite_Index.calls (a0 a1 : ByteArray) (r : Int) (w : World) (h : stringslite_Index.f a0 a1 = some r) :
  Calls Tryd.prog 106 #[.string a0,.string a1] w fun e w'=>e = .returned (.int .i64 r) ∧ Below w.heap.size w w':=by
 unfold stringslite_Index.f at h
 by_cases hs : a1.size = 1
 ·rw [if_pos hs] at h
  obtain rfl:=Option.some.inj h
  have e : a1 = ⟨#[a1.data.toList.headD 0]⟩:=by
   obtain ⟨⟨l⟩⟩:=a1
   have hl : l.length = 1:=hs
   match l,hl with
   | [c], _ => rfl
  have:=Go.Proofs.Tryd.stringslite_Index_one a0 (a1.data.toList.headD 0) w
  rw [← e] at this
  refine this.mono ?_
  rintro e w' ⟨rfl,rfl⟩
  exact ⟨rfl,Below.refl _ _⟩
 ·rw [if_neg hs] at h;cases h

/-! ### stringslite_Cut: function 99 -/
def stringslite_Cut.f (a0 : ByteArray) (a1 : ByteArray) : Option (ByteArray × ByteArray × Bool) := (stringslite_Index.f a0 a1).bind fun t179 => (if t179 ≥ 0 then (if 0 ≤ t179 then (if t179 ≤ (a0.size : Int) then (if 0 ≤ (wrap64 (t179 + (a1.size : Int))) then (if (wrap64 (t179 + (a1.size : Int))) ≤ (a0.size : Int) then (some (a0.extract 0 (t179 : Int).toNat, a0.extract ((wrap64 (t179 + (a1.size : Int))) : Int).toNat a0.size, true)) else (none)) else (none)) else (none)) else (none)) else (some (a0, (⟨#[]⟩ : ByteArray), false)))
set_option maxHeartbeats 8000000 in
set_option maxRecDepth 100000 in
theorem stringslite_Cut.calls (a0 : ByteArray) (a1 : ByteArray) (r1 : ByteArray) (r2 : ByteArray) (r3 : Bool) (w : World) (h : stringslite_Cut.f a0 a1 = some (r1, r2, r3)) :
  Calls Tryd.prog 99 #[.string a0,.string a1] w fun e w'=>e = .returned (.tuple #[.string r1,.string r2,.bool r3]) ∧ Below w.heap.size w w':=by
 have HB:=m_ (Below.refl w.heap.size w)
 have H : ((stringslite_Index.f a0 a1).bind fun t179=>(if t179 ≥ 0 then (if 0 ≤ t179 then (if t179 ≤ (a0.size : Int) then (if 0 ≤ (wrap64 (t179 + (a1.size : Int))) then (if (wrap64 (t179 + (a1.size : Int))) ≤ (a0.size : Int) then (some (a0.extract 0 (t179 : Int).toNat,a0.extract ((wrap64 (t179 + (a1.size : Int))) : Int).toNat a0.size,true)) else (none)) else (none)) else (none)) else (none)) else (some (a0,(⟨#[]⟩ : ByteArray),false)))) = some (r1,r2,r3):=h
 clear h
 replace H:=Option.bind_eq_some_iff.mp H
 obtain ⟨t179,A30,H⟩:=H
 replace H : (if t179 ≥ 0 then (if 0 ≤ t179 then (if t179 ≤ (a0.size : Int) then (if 0 ≤ (wrap64 (t179 + (a1.size : Int))) then (if (wrap64 (t179 + (a1.size : Int))) ≤ (a0.size : Int) then (some (a0.extract 0 (t179 : Int).toNat,a0.extract ((wrap64 (t179 + (a1.size : Int))) : Int).toNat a0.size,true)) else (none)) else (none)) else (none)) else (none)) else (some (a0,(⟨#[]⟩ : ByteArray),false))) = some (r1,r2,r3):=H
 have A3:=m_ A30
 clear A30
 by_cases c4 : t179 ≥ 0
 ·rw [if_pos c4] at H
  have c4b0 : decide (0 ≤ t179) = true:=decide_eq_true c4
  clear c4
  by_cases c5 : 0 ≤ t179
  ·rw [if_pos c5] at H
   have c5b0:=eq_true c5
   have c5b1 : decide (0 ≤ t179) = true:=decide_eq_true c5
   clear c5
   by_cases c6 : t179 ≤ (a0.size : Int)
   ·rw [if_pos c6] at H
    have c6b0:=eq_true c6
    have c6b1 : decide (t179 ≤ (a0.size : Int)) = true:=decide_eq_true c6
    clear c6
    obtain ⟨ji7,hji7⟩ : ∃ j_ : Int,(wrap64 (t179 + (a1.size : Int))) = j_:=⟨_,rfl⟩
    replace H : (if 0 ≤ (ji7) then (if (ji7) ≤ (a0.size : Int) then (some (a0.extract 0 (t179 : Int).toNat,a0.extract ((ji7) : Int).toNat a0.size,true)) else (none)) else (none)) = some (r1,r2,r3):=by first|(rw [hji7] at H;exact H)|(simp only [hji7] at H ⊢;exact H)
    (try rw [hji7] at A3)
    have hji7w : (IntKind.i64.wrap (t179 + (a1.size : Int))) = ji7:=(i64_w _).trans hji7
    by_cases c8 : 0 ≤ (ji7)
    ·rw [if_pos c8] at H
     have c8b0:=eq_true c8
     have c8b1 : decide (0 ≤ (ji7)) = true:=decide_eq_true c8
     clear c8
     by_cases c9 : (ji7) ≤ (a0.size : Int)
     ·rw [if_pos c9] at H
      have c9b0:=eq_true c9
      have c9b1 : decide ((ji7) ≤ (a0.size : Int)) = true:=decide_eq_true c9
      clear c9
      simp only [Option.some.injEq,Prod.mk.injEq] at H
      obtain ⟨rfl,rfl,rfl⟩:=H
      go_enter Tryd.func99,Tryd.ntmps99
      go_wp2_with (first|(go_at_call 106;(with_reducible refine (stringslite_Index.calls a0 a1 t179 _ A3.out).mono ?_);rintro e w10 ⟨rfl,hb⟩;have n0_:=m_ (l5_ (by repeat (first|(with_reducible first|exact HB.out|apply l1_|apply l2_|apply l3_)|exact HB.out)) hb);clear HB;have HB:=n0_;clear n0_;(try clear hb);(try clear hb2);(try clear hk);(try clear hi)))
      repeat (go_quiet (first|(go_at_call 106;(with_reducible refine (stringslite_Index.calls a0 a1 t179 _ A3.out).mono ?_);rintro e w10 ⟨rfl,hb⟩;have n0_:=m_ (l5_ (by repeat (first|(with_reducible first|exact HB.out|apply l1_|apply l2_|apply l3_)|exact HB.out)) hb);clear HB;have HB:=n0_;clear n0_;(try clear hb);(try clear hb2);(try clear hk);(try clear hi)));try go_wp2_with (first|(go_at_call 106;(with_reducible refine (stringslite_Index.calls a0 a1 t179 _ A3.out).mono ?_);rintro e w10 ⟨rfl,hb⟩;have n0_:=m_ (l5_ (by repeat (first|(with_reducible first|exact HB.out|apply l1_|apply l2_|apply l3_)|exact HB.out)) hb);clear HB;have HB:=n0_;clear n0_;(try clear hb);(try clear hb2);(try clear hk);(try clear hi))))
      go_ret3
      exact ⟨by first|rfl|(simp [e1_,e2_] <;> rfl)|(simp only [← hji7];first|rfl|(simp [e1_,e2_] <;> rfl))|(simp [*,e1_,e2_] <;> rfl)|(simp [e1_,e2_,pk_empty1,pk_empty2];done)|(simp [*,e1_,e2_,pk_empty1,pk_empty2];done),by repeat (first|(with_reducible first|exact HB.out|apply l1_|apply l2_|apply l3_)|exact HB.out)⟩
     ·rw [if_neg c9] at H
      exact absurd H (by simp)
    ·rw [if_neg c8] at H
     exact absurd H (by simp)
   ·rw [if_neg c6] at H
    exact absurd H (by simp)
  ·rw [if_neg c5] at H
   exact absurd H (by simp)
 ·rw [if_neg c4] at H
  have c4b0 : decide (0 ≤ t179) = false:=decide_eq_false c4
  clear c4
  simp only [Option.some.injEq,Prod.mk.injEq] at H
  obtain ⟨rfl,rfl,rfl⟩:=H
  go_enter Tryd.func99,Tryd.ntmps99
  go_wp2_with (first|(go_at_call 106;(with_reducible refine (stringslite_Index.calls a0 a1 t179 _ A3.out).mono ?_);rintro e w11 ⟨rfl,hb⟩;have n0_:=m_ (l5_ (by repeat (first|(with_reducible first|exact HB.out|apply l1_|apply l2_|apply l3_)|exact HB.out)) hb);clear HB;have HB:=n0_;clear n0_;(try clear hb);(try clear hb2);(try clear hk);(try clear hi)))
  repeat (go_quiet (first|(go_at_call 106;(with_reducible refine (stringslite_Index.calls a0 a1 t179 _ A3.out).mono ?_);rintro e w11 ⟨rfl,hb⟩;have n0_:=m_ (l5_ (by repeat (first|(with_reducible first|exact HB.out|apply l1_|apply l2_|apply l3_)|exact HB.out)) hb);clear HB;have HB:=n0_;clear n0_;(try clear hb);(try clear hb2);(try clear hk);(try clear hi)));try go_wp2_with (first|(go_at_call 106;(with_reducible refine (stringslite_Index.calls a0 a1 t179 _ A3.out).mono ?_);rintro e w11 ⟨rfl,hb⟩;have n0_:=m_ (l5_ (by repeat (first|(with_reducible first|exact HB.out|apply l1_|apply l2_|apply l3_)|exact HB.out)) hb);clear HB;have HB:=n0_;clear n0_;(try clear hb);(try clear hb2);(try clear hk);(try clear hi))))
  go_ret3
  exact ⟨by first|rfl|(simp [e1_,e2_] <;> rfl)|(simp [*,e1_,e2_] <;> rfl)|(simp [e1_,e2_,pk_empty1,pk_empty2];done)|(simp [*,e1_,e2_,pk_empty1,pk_empty2];done),by repeat (first|(with_reducible first|exact HB.out|apply l1_|apply l2_|apply l3_)|exact HB.out)⟩

/-! ### strings_Cut: function 90 -/
def strings_Cut.f (a0 : ByteArray) (a1 : ByteArray) : Option (ByteArray × ByteArray × Bool) := (stringslite_Cut.f a0 a1).bind fun bt180 => (some (bt180.1, bt180.2.1, bt180.2.2))
set_option maxHeartbeats 8000000 in
set_option maxRecDepth 100000 in
theorem strings_Cut.calls (a0 : ByteArray) (a1 : ByteArray) (r1 : ByteArray) (r2 : ByteArray) (r3 : Bool) (w : World) (h : strings_Cut.f a0 a1 = some (r1, r2, r3)) :
  Calls Tryd.prog 90 #[.string a0,.string a1] w fun e w'=>e = .returned (.tuple #[.string r1,.string r2,.bool r3]) ∧ Below w.heap.size w w':=by
 have HB:=m_ (Below.refl w.heap.size w)
 have H : ((stringslite_Cut.f a0 a1).bind fun bt180=>(some (bt180.1,bt180.2.1,bt180.2.2))) = some (r1,r2,r3):=h
 clear h
 replace H:=Option.bind_eq_some_iff.mp H
 obtain ⟨⟨t180,t181,t182⟩,A30,H⟩:=H
 replace H : (some (t180,t181,t182)) = some (r1,r2,r3):=H
 have A3:=m_ A30
 clear A30
 simp only [Option.some.injEq,Prod.mk.injEq] at H
 obtain ⟨rfl,rfl,rfl⟩:=H
 go_enter Tryd.func90,Tryd.ntmps90
 go_wp2_with (first|((with_reducible refine gate_callee (f:=99) rfl ?_);refine goesL_ (some 9) rfl rfl Tryd.func99 (by kernel_rfl) rfl #[.string a0,.string a1] rfl (by (try simp only [List.map_toArray,List.map_cons,List.map_nil]);first|done|rfl|(simp only [List.length_drop,List.length_take];rfl)) ?_;(with_reducible refine (stringslite_Cut.calls a0 a1 t180 t181 t182 _ A3.out).mono ?_);rintro e w4 ⟨rfl,hb⟩;refine ⟨_,rfl,?_⟩;have n0_:=m_ (l5_ (by repeat (first|(with_reducible first|exact HB.out|apply l1_|apply l2_|apply l3_)|exact HB.out)) hb);clear HB;have HB:=n0_;clear n0_;(try clear hb);(try clear hb2);(try clear hk);(try clear hi)))
 go_ret3
 exact ⟨by first|rfl|(simp [e1_,e2_] <;> rfl)|(simp [*,e1_,e2_] <;> rfl)|(simp [e1_,e2_,pk_empty1,pk_empty2];done)|(simp [*,e1_,e2_,pk_empty1,pk_empty2];done),by repeat (first|(with_reducible first|exact HB.out|apply l1_|apply l2_|apply l3_)|exact HB.out)⟩

/-! ### impl_within: function 51 -/
def impl_within.f (a0 : Int) (a1 : Int) (a2 : Int) : Option (Bool) := if a0 ≥ a1 then (some (decide (a0 ≤ a2))) else (some false)
set_option maxHeartbeats 8000000 in
set_option maxRecDepth 100000 in
theorem impl_within.calls (a0 : Int) (a1 : Int) (a2 : Int) (r : Bool) (w : World) (h : impl_within.f a0 a1 a2 = some r) :
  Calls Tryd.prog 51 #[.int .i64 a0,.int .i64 a1,.int .i64 a2] w fun e w'=>e = .returned (.bool r) ∧ Drawn0 w w':=by
 have H : (if a0 ≥ a1 then (some (decide (a0 ≤ a2))) else (some false)) = some r:=h
 clear h
 by_cases c4 : a0 ≥ a1
 ·rw [if_pos c4] at H
  have c4b0 : decide (a1 ≤ a0) = true:=decide_eq_true c4
  clear c4
  obtain rfl:=Option.some.inj H
  go_enter Tryd.func51,Tryd.ntmps51
  go_wp2
  go_ret
  exact ⟨by first|rfl|(simp;done)|(simp [*];done),by repeat (first|exact Drawn0.refl _|apply Drawn0.step)⟩
 ·rw [if_neg c4] at H
  have c4b0 : decide (a1 ≤ a0) = false:=decide_eq_false c4
  clear c4
  obtain rfl:=Option.some.inj H
  go_enter Tryd.func51,Tryd.ntmps51
  go_wp2
  go_ret
  exact ⟨by first|rfl|(simp;done)|(simp [*];done),by repeat (first|exact Drawn0.refl _|apply Drawn0.step)⟩

/-! ### impl_EndDoor: function 25 -/
def impl_EndDoor.f (a0_0 : Int) (a0_1 : Int) : Option (Bool) := if a0_0 = 9 then ((impl_within.f a0_1 10 17).bind fun t184 => (some t184)) else (some false)
set_option maxHeartbeats 8000000 in
set_option maxRecDepth 100000 in
theorem impl_EndDoor.calls (a0_0 : Int) (a0_1 : Int) (r : Bool) (w : World) (h : impl_EndDoor.f a0_0 a0_1 = some r) :
  Calls Tryd.prog 25 #[.agg #[.int .i64 a0_0,.int .i64 a0_1]] w fun e w'=>e = .returned (.bool r) ∧ Below w.heap.size w w':=by
 have hu32:=Tryd.underlying32
 have HB:=m_ (Below.refl w.heap.size w)
 have H : (if a0_0 = 9 then ((impl_within.f a0_1 10 17).bind fun t184=>(some t184)) else (some false)) = some r:=h
 clear h
 by_cases c2 : a0_0 = 9
 ·rw [if_pos c2] at H
  have c2b0 : (a0_0 == 9) = true:=beq_iff_eq.mpr c2
  have c2b1 : (a0_0 != 9) = false:=bne_eq_false_iff_eq.mpr c2
  clear c2
  replace H:=Option.bind_eq_some_iff.mp H
  obtain ⟨t184,A30,H⟩:=H
  replace H : (some t184) = some r:=H
  have A3:=m_ A30
  clear A30
  obtain rfl:=Option.some.inj H
  go_enter Tryd.func25,Tryd.ntmps25
  go_wp2_with (first|((with_reducible refine gate_dst (N:=1) rfl ?_);refine box_event ?hg (N:=1) ?hd (cs:=#[.int .i64 a0_0,.int .i64 a0_1]) (t:=32) ?hr ?_;(case hd=>rfl);(case hg=>rfl);(case hr=>first|(go_simp;done)|(go_simp;rfl));intro gb183 hg w4 hbox hb;have n0_:=m_ (l5_ (by repeat (first|(with_reducible first|exact HB.out|apply l1_|apply l2_|apply l3_)|exact HB.out)) hb);have n1_:=m_ (hbox);have n2_:=m_ ((by rw [hg];exact (l6_ (by repeat (first|(with_reducible first|exact HB.out|apply l1_|apply l2_|apply l3_)|exact HB.out))) : w.heap.size ≤ gb183));have n3_:=m_ ((by rw [hg];exact (l6_ (by repeat (first|(with_reducible first|exact HB.out|apply l1_|apply l2_|apply l3_)|exact HB.out))) : w.heap.size ≤ gb183));clear HB;have HB:=n0_;have BK183:=n1_;have GW183:=n2_;have GE183:=n3_;clear n0_ n1_ n2_ n3_;clear hb hbox hg;have hcz5_0 : w4.cell? ⟨gb183,0,none⟩ = some (.int .i64 a0_0):=(c_ BK183.out 0).trans rfl;have hcz5_1 : w4.cell? ⟨gb183,1,none⟩ = some (.int .i64 a0_1):=(c_ BK183.out 1).trans rfl)|(go_at_call 51;(with_reducible refine (impl_within.calls a0_1 10 17 t184 _ A3.out).mono ?_);rintro e w' ⟨rfl,⟨nd,rfl⟩⟩))
  go_ret
  exact ⟨by first|rfl|(simp [e1_,e2_] <;> rfl)|(simp [*,e1_,e2_] <;> rfl)|(simp [e1_,e2_,pk_empty1,pk_empty2];done)|(simp [*,e1_,e2_,pk_empty1,pk_empty2];done),by repeat (first|(with_reducible first|exact HB.out|apply l1_|apply l2_|apply l3_|refine l4_ ?_ GE183.out)|exact HB.out)⟩
 ·rw [if_neg c2] at H
  have c2b0 : (a0_0 == 9) = false:=beq_eq_false_iff_ne.mpr c2
  have c2b1 : (a0_0 != 9) = true:=bne_iff_ne.mpr c2
  obtain rfl:=Option.some.inj H
  go_enter Tryd.func25,Tryd.ntmps25
  go_wp2_with (first|((with_reducible refine gate_dst (N:=1) rfl ?_);refine box_event ?hg (N:=1) ?hd (cs:=#[.int .i64 a0_0,.int .i64 a0_1]) (t:=32) ?hr ?_;(case hd=>rfl);(case hg=>rfl);(case hr=>first|(go_simp;done)|(go_simp;rfl));intro gb183 hg w6 hbox hb;have n0_:=m_ (l5_ (by repeat (first|(with_reducible first|exact HB.out|apply l1_|apply l2_|apply l3_)|exact HB.out)) hb);have n1_:=m_ (hbox);have n2_:=m_ ((by rw [hg];exact (l6_ (by repeat (first|(with_reducible first|exact HB.out|apply l1_|apply l2_|apply l3_)|exact HB.out))) : w.heap.size ≤ gb183));have n3_:=n2_;clear HB;have HB:=n0_;have BK183:=n1_;have GW183:=n2_;have GE183:=n3_;clear n0_ n1_ n2_ n3_;clear hb hbox hg;have hcz7_0 : w6.cell? ⟨gb183,0,none⟩ = some (.int .i64 a0_0):=(c_ BK183.out 0).trans rfl;have hcz7_1 : w6.cell? ⟨gb183,1,none⟩ = some (.int .i64 a0_1):=(c_ BK183.out 1).trans rfl))
  go_ret
  exact ⟨by first|rfl|(simp [e1_,e2_] <;> rfl)|(simp [*,e1_,e2_] <;> rfl)|(simp [e1_,e2_,pk_empty1,pk_empty2];done)|(simp [*,e1_,e2_,pk_empty1,pk_empty2];done),by repeat (first|(with_reducible first|exact HB.out|apply l1_|apply l2_|apply l3_|refine l4_ ?_ GE183.out)|exact HB.out)⟩

/-! ### impl_EndInside: function 59 -/
def impl_EndInside.f (a0_0 : Int) (a0_1 : Int) : Option (Bool) := (impl_within.f a0_0 1 3).bind fun t186 => (if t186 = true then ((impl_within.f a0_1 1 9).bind fun t187 => (some t187)) else (some false))
set_option maxHeartbeats 8000000 in
set_option maxRecDepth 100000 in
theorem impl_EndInside.calls (a0_0 : Int) (a0_1 : Int) (r : Bool) (w : World) (h : impl_EndInside.f a0_0 a0_1 = some r) :
  Calls Tryd.prog 59 #[.agg #[.int .i64 a0_0,.int .i64 a0_1]] w fun e w'=>e = .returned (.bool r) ∧ Below w.heap.size w w':=by
 have hu32:=Tryd.underlying32
 have HB:=m_ (Below.refl w.heap.size w)
 have H : ((impl_within.f a0_0 1 3).bind fun t186=>(if t186 = true then ((impl_within.f a0_1 1 9).bind fun t187=>(some t187)) else (some false))) = some r:=h
 clear h
 replace H:=Option.bind_eq_some_iff.mp H
 obtain ⟨t186,A20,H⟩:=H
 replace H : (if t186 = true then ((impl_within.f a0_1 1 9).bind fun t187=>(some t187)) else (some false)) = some r:=H
 have A2:=m_ A20
 clear A20
 by_cases c3 : t186 = true
 ·subst c3
  have H1 : ((impl_within.f a0_1 1 9).bind fun t187=>(some t187)) = some r:=by rw [if_pos rfl] at H;exact H
  clear H
  have H:=H1
  clear H1
  replace H:=Option.bind_eq_some_iff.mp H
  obtain ⟨t187,A40,H⟩:=H
  replace H : (some t187) = some r:=H
  have A4:=m_ A40
  clear A40
  obtain rfl:=Option.some.inj H
  go_enter Tryd.func59,Tryd.ntmps59
  go_wp2_with (first|((with_reducible refine gate_dst (N:=1) rfl ?_);refine box_event ?hg (N:=1) ?hd (cs:=#[.int .i64 a0_0,.int .i64 a0_1]) (t:=32) ?hr ?_;(case hd=>rfl);(case hg=>rfl);(case hr=>first|(go_simp;done)|(go_simp;rfl));intro gb185 hg w5 hbox hb;have n0_:=m_ (l5_ (by repeat (first|(with_reducible first|exact HB.out|apply l1_|apply l2_|apply l3_)|exact HB.out)) hb);have n1_:=m_ (hbox);have n2_:=m_ ((by rw [hg];exact (l6_ (by repeat (first|(with_reducible first|exact HB.out|apply l1_|apply l2_|apply l3_)|exact HB.out))) : w.heap.size ≤ gb185));have n3_:=m_ ((by rw [hg];exact (l6_ (by repeat (first|(with_reducible first|exact HB.out|apply l1_|apply l2_|apply l3_)|exact HB.out))) : w.heap.size ≤ gb185));clear HB;have HB:=n0_;have BK185:=n1_;have GW185:=n2_;have GE185:=n3_;clear n0_ n1_ n2_ n3_;clear hb hbox hg;have hcz6_0 : w5.cell? ⟨gb185,0,none⟩ = some (.int .i64 a0_0):=(c_ BK185.out 0).trans rfl;have hcz6_1 : w5.cell? ⟨gb185,1,none⟩ = some (.int .i64 a0_1):=(c_ BK185.out 1).trans rfl)|((with_reducible refine gate_callee (f:=51) rfl ?_);refine goesL_ (some 5) rfl rfl Tryd.func51 (by kernel_rfl) rfl #[.int .i64 a0_0,.int .i64 1,.int .i64 3] rfl (by (try simp only [List.map_toArray,List.map_cons,List.map_nil]);first|done|rfl|(simp only [List.length_drop,List.length_take];rfl)) ?_;(with_reducible refine (impl_within.calls a0_0 1 3 true _ A2.out).mono ?_);rintro e w' ⟨rfl,⟨nd,rfl⟩⟩;refine ⟨_,rfl,?_⟩)|(go_at_call 51;(with_reducible refine (impl_within.calls a0_1 1 9 t187 _ A4.out).mono ?_);rintro e w' ⟨rfl,⟨nd,rfl⟩⟩))
  go_ret
  exact ⟨by first|rfl|(simp [e1_,e2_] <;> rfl)|(simp [*,e1_,e2_] <;> rfl)|(simp [e1_,e2_,pk_empty1,pk_empty2];done)|(simp [*,e1_,e2_,pk_empty1,pk_empty2];done),by repeat (first|(with_reducible first|exact HB.out|apply l1_|apply l2_|apply l3_|refine l4_ ?_ GE185.out)|exact HB.out)⟩
 ·replace c3:=Bool.eq_false_iff.mpr c3
  subst c3
  have H1 : (some false) = some r:=by rw [if_neg (show ¬ (false = true) by decide)] at H;exact H
  clear H
  have H:=H1
  clear H1
  obtain rfl:=Option.some.inj H
  go_enter Tryd.func59,Tryd.ntmps59
  go_wp2_with (first|((with_reducible refine gate_dst (N:=1) rfl ?_);refine box_event ?hg (N:=1) ?hd (cs:=#[.int .i64 a0_0,.int .i64 a0_1]) (t:=32) ?hr ?_;(case hd=>rfl);(case hg=>rfl);(case hr=>first|(go_simp;done)|(go_simp;rfl));intro gb185 hg w7 hbox hb;have n0_:=m_ (l5_ (by repeat (first|(with_reducible first|exact HB.out|apply l1_|apply l2_|apply l3_)|exact HB.out)) hb);have n1_:=m_ (hbox);have n2_:=m_ ((by rw [hg];exact (l6_ (by repeat (first|(with_reducible first|exact HB.out|apply l1_|apply l2_|apply l3_)|exact HB.out))) : w.heap.size ≤ gb185));have n3_:=m_ ((by rw [hg];exact (l6_ (by repeat (first|(with_reducible first|exact HB.out|apply l1_|apply l2_|apply l3_)|exact HB.out))) : w.heap.size ≤ gb185));clear HB;have HB:=n0_;have BK185:=n1_;have GW185:=n2_;have GE185:=n3_;clear n0_ n1_ n2_ n3_;clear hb hbox hg;have hcz8_0 : w7.cell? ⟨gb185,0,none⟩ = some (.int .i64 a0_0):=(c_ BK185.out 0).trans rfl;have hcz8_1 : w7.cell? ⟨gb185,1,none⟩ = some (.int .i64 a0_1):=(c_ BK185.out 1).trans rfl)|((with_reducible refine gate_callee (f:=51) rfl ?_);refine goesL_ (some 5) rfl rfl Tryd.func51 (by kernel_rfl) rfl #[.int .i64 a0_0,.int .i64 1,.int .i64 3] rfl (by (try simp only [List.map_toArray,List.map_cons,List.map_nil]);first|done|rfl|(simp only [List.length_drop,List.length_take];rfl)) ?_;(with_reducible refine (impl_within.calls a0_0 1 3 false _ A2.out).mono ?_);rintro e w' ⟨rfl,⟨nd,rfl⟩⟩;refine ⟨_,rfl,?_⟩))
  go_ret
  exact ⟨by first|rfl|(simp [e1_,e2_] <;> rfl)|(simp [*,e1_,e2_] <;> rfl)|(simp [e1_,e2_,pk_empty1,pk_empty2];done)|(simp [*,e1_,e2_,pk_empty1,pk_empty2];done),by repeat (first|(with_reducible first|exact HB.out|apply l1_|apply l2_|apply l3_|refine l4_ ?_ GE185.out)|exact HB.out)⟩

/-! ### impl_EndOutside: function 60 -/
def impl_EndOutside.f (a0_0 : Int) (a0_1 : Int) : Option (Bool) := (impl_within.f a0_0 4 6).bind fun t189 => (if t189 = true then ((impl_within.f a0_1 1 9).bind fun t190 => (some t190)) else (some false))
set_option maxHeartbeats 8000000 in
set_option maxRecDepth 100000 in
theorem impl_EndOutside.calls (a0_0 : Int) (a0_1 : Int) (r : Bool) (w : World) (h : impl_EndOutside.f a0_0 a0_1 = some r) :
  Calls Tryd.prog 60 #[.agg #[.int .i64 a0_0,.int .i64 a0_1]] w fun e w'=>e = .returned (.bool r) ∧ Below w.heap.size w w':=by
 have hu32:=Tryd.underlying32
 have HB:=m_ (Below.refl w.heap.size w)
 have H : ((impl_within.f a0_0 4 6).bind fun t189=>(if t189 = true then ((impl_within.f a0_1 1 9).bind fun t190=>(some t190)) else (some false))) = some r:=h
 clear h
 replace H:=Option.bind_eq_some_iff.mp H
 obtain ⟨t189,A20,H⟩:=H
 replace H : (if t189 = true then ((impl_within.f a0_1 1 9).bind fun t190=>(some t190)) else (some false)) = some r:=H
 have A2:=m_ A20
 clear A20
 by_cases c3 : t189 = true
 ·subst c3
  have H1 : ((impl_within.f a0_1 1 9).bind fun t190=>(some t190)) = some r:=by rw [if_pos rfl] at H;exact H
  clear H
  have H:=H1
  clear H1
  replace H:=Option.bind_eq_some_iff.mp H
  obtain ⟨t190,A40,H⟩:=H
  replace H : (some t190) = some r:=H
  have A4:=m_ A40
  clear A40
  obtain rfl:=Option.some.inj H
  go_enter Tryd.func60,Tryd.ntmps60
  go_wp2_with (first|((with_reducible refine gate_dst (N:=1) rfl ?_);refine box_event ?hg (N:=1) ?hd (cs:=#[.int .i64 a0_0,.int .i64 a0_1]) (t:=32) ?hr ?_;(case hd=>rfl);(case hg=>rfl);(case hr=>first|(go_simp;done)|(go_simp;rfl));intro gb188 hg w5 hbox hb;have n0_:=m_ (l5_ (by repeat (first|(with_reducible first|exact HB.out|apply l1_|apply l2_|apply l3_)|exact HB.out)) hb);have n1_:=m_ (hbox);have n2_:=m_ ((by rw [hg];exact (l6_ (by repeat (first|(with_reducible first|exact HB.out|apply l1_|apply l2_|apply l3_)|exact HB.out))) : w.heap.size ≤ gb188));have n3_:=m_ ((by rw [hg];exact (l6_ (by repeat (first|(with_reducible first|exact HB.out|apply l1_|apply l2_|apply l3_)|exact HB.out))) : w.heap.size ≤ gb188));clear HB;have HB:=n0_;have BK188:=n1_;have GW188:=n2_;have GE188:=n3_;clear n0_ n1_ n2_ n3_;clear hb hbox hg;have hcz6_0 : w5.cell? ⟨gb188,0,none⟩ = some (.int .i64 a0_0):=(c_ BK188.out 0).trans rfl;have hcz6_1 : w5.cell? ⟨gb188,1,none⟩ = some (.int .i64 a0_1):=(c_ BK188.out 1).trans rfl)|((with_reducible refine gate_callee (f:=51) rfl ?_);refine goesL_ (some 5) rfl rfl Tryd.func51 (by kernel_rfl) rfl #[.int .i64 a0_0,.int .i64 4,.int .i64 6] rfl (by (try simp only [List.map_toArray,List.map_cons,List.map_nil]);first|done|rfl|(simp only [List.length_drop,List.length_take];rfl)) ?_;(with_reducible refine (impl_within.calls a0_0 4 6 true _ A2.out).mono ?_);rintro e w' ⟨rfl,⟨nd,rfl⟩⟩;refine ⟨_,rfl,?_⟩)|(go_at_call 51;(with_reducible refine (impl_within.calls a0_1 1 9 t190 _ A4.out).mono ?_);rintro e w' ⟨rfl,⟨nd,rfl⟩⟩))
  go_ret
  exact ⟨by first|rfl|(simp [e1_,e2_] <;> rfl)|(simp [*,e1_,e2_] <;> rfl)|(simp [e1_,e2_,pk_empty1,pk_empty2];done)|(simp [*,e1_,e2_,pk_empty1,pk_empty2];done),by repeat (first|(with_reducible first|exact HB.out|apply l1_|apply l2_|apply l3_|refine l4_ ?_ GE188.out)|exact HB.out)⟩
 ·replace c3:=Bool.eq_false_iff.mpr c3
  subst c3
  have H1 : (some false) = some r:=by rw [if_neg (show ¬ (false = true) by decide)] at H;exact H
  clear H
  have H:=H1
  clear H1
  obtain rfl:=Option.some.inj H
  go_enter Tryd.func60,Tryd.ntmps60
  go_wp2_with (first|((with_reducible refine gate_dst (N:=1) rfl ?_);refine box_event ?hg (N:=1) ?hd (cs:=#[.int .i64 a0_0,.int .i64 a0_1]) (t:=32) ?hr ?_;(case hd=>rfl);(case hg=>rfl);(case hr=>first|(go_simp;done)|(go_simp;rfl));intro gb188 hg w7 hbox hb;have n0_:=m_ (l5_ (by repeat (first|(with_reducible first|exact HB.out|apply l1_|apply l2_|apply l3_)|exact HB.out)) hb);have n1_:=m_ (hbox);have n2_:=m_ ((by rw [hg];exact (l6_ (by repeat (first|(with_reducible first|exact HB.out|apply l1_|apply l2_|apply l3_)|exact HB.out))) : w.heap.size ≤ gb188));have n3_:=m_ ((by rw [hg];exact (l6_ (by repeat (first|(with_reducible first|exact HB.out|apply l1_|apply l2_|apply l3_)|exact HB.out))) : w.heap.size ≤ gb188));clear HB;have HB:=n0_;have BK188:=n1_;have GW188:=n2_;have GE188:=n3_;clear n0_ n1_ n2_ n3_;clear hb hbox hg;have hcz8_0 : w7.cell? ⟨gb188,0,none⟩ = some (.int .i64 a0_0):=(c_ BK188.out 0).trans rfl;have hcz8_1 : w7.cell? ⟨gb188,1,none⟩ = some (.int .i64 a0_1):=(c_ BK188.out 1).trans rfl)|((with_reducible refine gate_callee (f:=51) rfl ?_);refine goesL_ (some 5) rfl rfl Tryd.func51 (by kernel_rfl) rfl #[.int .i64 a0_0,.int .i64 4,.int .i64 6] rfl (by (try simp only [List.map_toArray,List.map_cons,List.map_nil]);first|done|rfl|(simp only [List.length_drop,List.length_take];rfl)) ?_;(with_reducible refine (impl_within.calls a0_0 4 6 false _ A2.out).mono ?_);rintro e w' ⟨rfl,⟨nd,rfl⟩⟩;refine ⟨_,rfl,?_⟩))
  go_ret
  exact ⟨by first|rfl|(simp [e1_,e2_] <;> rfl)|(simp [*,e1_,e2_] <;> rfl)|(simp [e1_,e2_,pk_empty1,pk_empty2];done)|(simp [*,e1_,e2_,pk_empty1,pk_empty2];done),by repeat (first|(with_reducible first|exact HB.out|apply l1_|apply l2_|apply l3_|refine l4_ ?_ GE188.out)|exact HB.out)⟩

/-! ### impl_End_any: function 52 -/
def impl_End_any.f (a0_0 : Int) (a0_1 : Int) : Option (Bool) := (impl_EndInside.f a0_0 a0_1).bind fun t192 => (if t192 = true then (some true) else ((impl_EndOutside.f a0_0 a0_1).bind fun t193 => (if t193 = true then (some true) else ((impl_EndDoor.f a0_0 a0_1).bind fun t194 => (some t194)))))
set_option maxHeartbeats 8000000 in
set_option maxRecDepth 100000 in
theorem impl_End_any.calls (a0_0 : Int) (a0_1 : Int) (r : Bool) (w : World) (h : impl_End_any.f a0_0 a0_1 = some r) :
  Calls Tryd.prog 52 #[.agg #[.int .i64 a0_0,.int .i64 a0_1]] w fun e w'=>e = .returned (.bool r) ∧ Below w.heap.size w w':=by
 have hu32:=Tryd.underlying32
 have HB:=m_ (Below.refl w.heap.size w)
 have H : ((impl_EndInside.f a0_0 a0_1).bind fun t192=>(if t192 = true then (some true) else ((impl_EndOutside.f a0_0 a0_1).bind fun t193=>(if t193 = true then (some true) else ((impl_EndDoor.f a0_0 a0_1).bind fun t194=>(some t194)))))) = some r:=h
 clear h
 replace H:=Option.bind_eq_some_iff.mp H
 obtain ⟨t192,A20,H⟩:=H
 replace H : (if t192 = true then (some true) else ((impl_EndOutside.f a0_0 a0_1).bind fun t193=>(if t193 = true then (some true) else ((impl_EndDoor.f a0_0 a0_1).bind fun t194=>(some t194))))) = some r:=H
 have A2:=m_ A20
 clear A20
 by_cases c3 : t192 = true
 ·subst c3
  have H1 : (some true) = some r:=by rw [if_pos rfl] at H;exact H
  clear H
  have H:=H1
  clear H1
  obtain rfl:=Option.some.inj H
  go_enter Tryd.func52,Tryd.ntmps52
  go_wp2_with (first|((with_reducible refine gate_dst (N:=1) rfl ?_);refine box_event ?hg (N:=1) ?hd (cs:=#[.int .i64 a0_0,.int .i64 a0_1]) (t:=32) ?hr ?_;(case hd=>rfl);(case hg=>rfl);(case hr=>first|(go_simp;done)|(go_simp;rfl));intro gb191 hg w4 hbox hb;have n0_:=m_ (l5_ (by repeat (first|(with_reducible first|exact HB.out|apply l1_|apply l2_|apply l3_)|exact HB.out)) hb);have n1_:=m_ (hbox);have n2_:=m_ ((by rw [hg];exact (l6_ (by repeat (first|(with_reducible first|exact HB.out|apply l1_|apply l2_|apply l3_)|exact HB.out))) : w.heap.size ≤ gb191));have n3_:=m_ ((by rw [hg];exact (l6_ (by repeat (first|(with_reducible first|exact HB.out|apply l1_|apply l2_|apply l3_)|exact HB.out))) : w.heap.size ≤ gb191));clear HB;have HB:=n0_;have BK191:=n1_;have GW191:=n2_;have GE191:=n3_;clear n0_ n1_ n2_ n3_;clear hb hbox hg;have hcz5_0 : w4.cell? ⟨gb191,0,none⟩ = some (.int .i64 a0_0):=(c_ BK191.out 0).trans rfl;have hcz5_1 : w4.cell? ⟨gb191,1,none⟩ = some (.int .i64 a0_1):=(c_ BK191.out 1).trans rfl)|((with_reducible refine gate_callee (f:=59) rfl ?_);refine goesL_ (some 4) rfl rfl Tryd.func59 (by kernel_rfl) rfl #[.agg #[.int .i64 a0_0,.int .i64 a0_1]] rfl (by (try simp only [List.map_toArray,List.map_cons,List.map_nil]);first|done|rfl|(simp only [List.length_drop,List.length_take];rfl)) ?_;(with_reducible refine (impl_EndInside.calls a0_0 a0_1 true _ A2.out).mono ?_);rintro e w6 ⟨rfl,hb⟩;refine ⟨_,rfl,?_⟩;have n0_:=m_ (blk_below (g:=gb191) (o:=.cells #[.int .i64 a0_0,.int .i64 a0_1] 32 (0,0)) (by (with_reducible repeat first|apply b1_|apply b2_|apply b3_);exact BK191.out) hb);have n1_:=m_ (l5_ (by repeat (first|(with_reducible first|exact HB.out|apply l1_|apply l2_|apply l3_|refine l4_ ?_ GE191.out)|exact HB.out)) hb);clear BK191;clear HB;have BK191:=n0_;have HB:=n1_;clear n0_ n1_;(try clear hb);(try clear hb2);(try clear hk);(try clear hi)))
  go_ret
  exact ⟨by first|rfl|(simp [e1_,e2_] <;> rfl)|(simp [*,e1_,e2_] <;> rfl)|(simp [e1_,e2_,pk_empty1,pk_empty2];done)|(simp [*,e1_,e2_,pk_empty1,pk_empty2];done),by repeat (first|(with_reducible first|exact HB.out|apply l1_|apply l2_|apply l3_|refine l4_ ?_ GE191.out)|exact HB.out)⟩
 ·replace c3:=Bool.eq_false_iff.mpr c3
  subst c3
  have H1 : ((impl_EndOutside.f a0_0 a0_1).bind fun t193=>(if t193 = true then (some true) else ((impl_EndDoor.f a0_0 a0_1).bind fun t194=>(some t194)))) = some r:=by rw [if_neg (show ¬ (false = true) by decide)] at H;exact H
  clear H
  have H:=H1
  clear H1
  replace H:=Option.bind_eq_some_iff.mp H
  obtain ⟨t193,A70,H⟩:=H
  replace H : (if t193 = true then (some true) else ((impl_EndDoor.f a0_0 a0_1).bind fun t194=>(some t194))) = some r:=H
  have A7:=m_ A70
  clear A70
  by_cases c8 : t193 = true
  ·subst c8
   have H1 : (some true) = some r:=by rw [if_pos rfl] at H;exact H
   clear H
   have H:=H1
   clear H1
   obtain rfl:=Option.some.inj H
   go_enter Tryd.func52,Tryd.ntmps52
   go_wp2_with (first|((with_reducible refine gate_dst (N:=1) rfl ?_);refine box_event ?hg (N:=1) ?hd (cs:=#[.int .i64 a0_0,.int .i64 a0_1]) (t:=32) ?hr ?_;(case hd=>rfl);(case hg=>rfl);(case hr=>first|(go_simp;done)|(go_simp;rfl));intro gb191 hg w9 hbox hb;have n0_:=m_ (l5_ (by repeat (first|(with_reducible first|exact HB.out|apply l1_|apply l2_|apply l3_)|exact HB.out)) hb);have n1_:=m_ (hbox);have n2_:=m_ ((by rw [hg];exact (l6_ (by repeat (first|(with_reducible first|exact HB.out|apply l1_|apply l2_|apply l3_)|exact HB.out))) : w.heap.size ≤ gb191));have n3_:=m_ ((by rw [hg];exact (l6_ (by repeat (first|(with_reducible first|exact HB.out|apply l1_|apply l2_|apply l3_)|exact HB.out))) : w.heap.size ≤ gb191));clear HB;have HB:=n0_;have BK191:=n1_;have GW191:=n2_;have GE191:=n3_;clear n0_ n1_ n2_ n3_;clear hb hbox hg;have hcz10_0 : w9.cell? ⟨gb191,0,none⟩ = some (.int .i64 a0_0):=(c_ BK191.out 0).trans rfl;have hcz10_1 : w9.cell? ⟨gb191,1,none⟩ = some (.int .i64 a0_1):=(c_ BK191.out 1).trans rfl)|((with_reducible refine gate_callee (f:=59) rfl ?_);refine goesL_ (some 4) rfl rfl Tryd.func59 (by kernel_rfl) rfl #[.agg #[.int .i64 a0_0,.int .i64 a0_1]] rfl (by (try simp only [List.map_toArray,List.map_cons,List.map_nil]);first|done|rfl|(simp only [List.length_drop,List.length_take];rfl)) ?_;(with_reducible refine (impl_EndInside.calls a0_0 a0_1 false _ A2.out).mono ?_);rintro e w11 ⟨rfl,hb⟩;refine ⟨_,rfl,?_⟩;have n0_:=m_ (blk_below (g:=gb191) (o:=.cells #[.int .i64 a0_0,.int .i64 a0_1] 32 (0,0)) (by (with_reducible repeat first|apply b1_|apply b2_|apply b3_);exact BK191.out) hb);have n1_:=m_ (l5_ (by repeat (first|(with_reducible first|exact HB.out|apply l1_|apply l2_|apply l3_|refine l4_ ?_ GE191.out)|exact HB.out)) hb);clear BK191;clear HB;have BK191:=n0_;have HB:=n1_;clear n0_ n1_;(try clear hb);(try clear hb2);(try clear hk);(try clear hi);have hcz12_0 : w11.cell? ⟨gb191,0,none⟩ = some (.int .i64 a0_0):=(c_ BK191.out 0).trans rfl;have hcz12_1 : w11.cell? ⟨gb191,1,none⟩ = some (.int .i64 a0_1):=(c_ BK191.out 1).trans rfl)|(go_at_call 60;(with_reducible refine (impl_EndOutside.calls a0_0 a0_1 true _ A7.out).mono ?_);rintro e w13 ⟨rfl,hb⟩;have n0_:=m_ (blk_below (g:=gb191) (o:=.cells #[.int .i64 a0_0,.int .i64 a0_1] 32 (0,0)) (by (with_reducible repeat first|apply b1_|apply b2_|apply b3_);exact BK191.out) hb);have n1_:=m_ (l5_ (by repeat (first|(with_reducible first|exact HB.out|apply l1_|apply l2_|apply l3_|refine l4_ ?_ GE191.out)|exact HB.out)) hb);clear BK191;clear HB;have BK191:=n0_;have HB:=n1_;clear n0_ n1_;(try clear hb);(try clear hb2);(try clear hk);(try clear hi)))
   go_ret
   exact ⟨by first|rfl|(simp [e1_,e2_] <;> rfl)|(simp [*,e1_,e2_] <;> rfl)|(simp [e1_,e2_,pk_empty1,pk_empty2];done)|(simp [*,e1_,e2_,pk_empty1,pk_empty2];done),by repeat (first|(with_reducible first|exact HB.out|apply l1_|apply l2_|apply l3_|refine l4_ ?_ GE191.out)|exact HB.out)⟩
  ·replace c8:=Bool.eq_false_iff.mpr c8
   subst c8
   have H1 : ((impl_EndDoor.f a0_0 a0_1).bind fun t194=>(some t194)) = some r:=by rw [if_neg (show ¬ (false = true) by decide)] at H;exact H
   clear H
   have H:=H1
   clear H1
   replace H:=Option.bind_eq_some_iff.mp H
   obtain ⟨t194,A140,H⟩:=H
   replace H : (some t194) = some r:=H
   have A14:=m_ A140
   clear A140
   obtain rfl:=Option.some.inj H
   go_enter Tryd.func52,Tryd.ntmps52
   go_wp2_with (first|((with_reducible refine gate_dst (N:=1) rfl ?_);refine box_event ?hg (N:=1) ?hd (cs:=#[.int .i64 a0_0,.int .i64 a0_1]) (t:=32) ?hr ?_;(case hd=>rfl);(case hg=>rfl);(case hr=>first|(go_simp;done)|(go_simp;rfl));intro gb191 hg w15 hbox hb;have n0_:=m_ (l5_ (by repeat (first|(with_reducible first|exact HB.out|apply l1_|apply l2_|apply l3_)|exact HB.out)) hb);have n1_:=m_ (hbox);have n2_:=m_ ((by rw [hg];exact (l6_ (by repeat (first|(with_reducible first|exact HB.out|apply l1_|apply l2_|apply l3_)|exact HB.out))) : w.heap.size ≤ gb191));have n3_:=m_ ((by rw [hg];exact (l6_ (by repeat (first|(with_reducible first|exact HB.out|apply l1_|apply l2_|apply l3_)|exact HB.out))) : w.heap.size ≤ gb191));clear HB;have HB:=n0_;have BK191:=n1_;have GW191:=n2_;have GE191:=n3_;clear n0_ n1_ n2_ n3_;clear hb hbox hg;have hcz16_0 : w15.cell? ⟨gb191,0,none⟩ = some (.int .i64 a0_0):=(c_ BK191.out 0).trans rfl;have hcz16_1 : w15.cell? ⟨gb191,1,none⟩ = some (.int .i64 a0_1):=(c_ BK191.out 1).trans rfl)|((with_reducible refine gate_callee (f:=59) rfl ?_);refine goesL_ (some 4) rfl rfl Tryd.func59 (by kernel_rfl) rfl #[.agg #[.int .i64 a0_0,.int .i64 a0_1]] rfl (by (try simp only [List.map_toArray,List.map_cons,List.map_nil]);first|done|rfl|(simp only [List.length_drop,List.length_take];rfl)) ?_;(with_reducible refine (impl_EndInside.calls a0_0 a0_1 false _ A2.out).mono ?_);rintro e w17 ⟨rfl,hb⟩;refine ⟨_,rfl,?_⟩;have n0_:=m_ (blk_below (g:=gb191) (o:=.cells #[.int .i64 a0_0,.int .i64 a0_1] 32 (0,0)) (by (with_reducible repeat first|apply b1_|apply b2_|apply b3_);exact BK191.out) hb);have n1_:=m_ (l5_ (by repeat (first|(with_reducible first|exact HB.out|apply l1_|apply l2_|apply l3_|refine l4_ ?_ GE191.out)|exact HB.out)) hb);clear BK191;clear HB;have BK191:=n0_;have HB:=n1_;clear n0_ n1_;(try clear hb);(try clear hb2);(try clear hk);(try clear hi);have hcz18_0 : w17.cell? ⟨gb191,0,none⟩ = some (.int .i64 a0_0):=(c_ BK191.out 0).trans rfl;have hcz18_1 : w17.cell? ⟨gb191,1,none⟩ = some (.int .i64 a0_1):=(c_ BK191.out 1).trans rfl)|(go_at_call 60;(with_reducible refine (impl_EndOutside.calls a0_0 a0_1 false _ A7.out).mono ?_);rintro e w19 ⟨rfl,hb⟩;have n0_:=m_ (blk_below (g:=gb191) (o:=.cells #[.int .i64 a0_0,.int .i64 a0_1] 32 (0,0)) (by (with_reducible repeat first|apply b1_|apply b2_|apply b3_);exact BK191.out) hb);have n1_:=m_ (l5_ (by repeat (first|(with_reducible first|exact HB.out|apply l1_|apply l2_|apply l3_|refine l4_ ?_ GE191.out)|exact HB.out)) hb);clear BK191;clear HB;have BK191:=n0_;have HB:=n1_;clear n0_ n1_;(try clear hb);(try clear hb2);(try clear hk);(try clear hi);have hcz20_0 : w19.cell? ⟨gb191,0,none⟩ = some (.int .i64 a0_0):=(c_ BK191.out 0).trans rfl;have hcz20_1 : w19.cell? ⟨gb191,1,none⟩ = some (.int .i64 a0_1):=(c_ BK191.out 1).trans rfl)|(go_at_call 25;(with_reducible refine (impl_EndDoor.calls a0_0 a0_1 t194 _ A14.out).mono ?_);rintro e w21 ⟨rfl,hb⟩;have n0_:=m_ (blk_below (g:=gb191) (o:=.cells #[.int .i64 a0_0,.int .i64 a0_1] 32 (0,0)) (by (with_reducible repeat first|apply b1_|apply b2_|apply b3_);exact BK191.out) hb);have n1_:=m_ (l5_ (by repeat (first|(with_reducible first|exact HB.out|apply l1_|apply l2_|apply l3_|refine l4_ ?_ GE191.out)|exact HB.out)) hb);clear BK191;clear HB;have BK191:=n0_;have HB:=n1_;clear n0_ n1_;(try clear hb);(try clear hb2);(try clear hk);(try clear hi)))
   go_ret
   exact ⟨by first|rfl|(simp [e1_,e2_] <;> rfl)|(simp [*,e1_,e2_] <;> rfl)|(simp [e1_,e2_,pk_empty1,pk_empty2];done)|(simp [*,e1_,e2_,pk_empty1,pk_empty2];done),by repeat (first|(with_reducible first|exact HB.out|apply l1_|apply l2_|apply l3_|refine l4_ ?_ GE191.out)|exact HB.out)⟩

/-! ### strconv_Itoa: function 53 -/
/-- Of a number from 0 to 99: its decimals. -/
def strconv_Itoa.f (a0 : Int) : Option (ByteArray) := if 0 ≤ a0 ∧ a0 ≤ 99 then some ⟨(Lib.decDigits a0.toNat).toArray⟩ else none
theorem strconv_Itoa.calls (a0 : Int) (r : ByteArray) (w : World) (h : strconv_Itoa.f a0 = some r) :
  Calls Tryd.prog 53 #[.int .i64 a0] w fun e w'=>e = .returned (.string r) ∧ Below w.heap.size w w':=by
 unfold strconv_Itoa.f at h
 by_cases hs : 0 ≤ a0 ∧ a0 ≤ 99
 ·rw [if_pos hs] at h
  obtain rfl:=Option.some.inj h
  have e : (.int .i64 a0 : Value) = .int .i64 ((a0.toNat : Nat) : Int):=by rw [Int.toNat_of_nonneg hs.1]
  rw [e]
  refine (Go.Proofs.Tryd.strconv_Itoa_small a0.toNat (by omega) w).mono ?_
  rintro e w' ⟨rfl,rfl⟩
  exact ⟨rfl,Below.refl _ _⟩
 ·rw [if_neg hs] at h;cases h

/-! ### impl_EndText: function 26 -/
def impl_EndText.f (a0_0 : Int) (a0_1 : Int) : Option (ByteArray) := (impl_End_any.f a0_0 a0_1).bind fun t196 => (if t196 = true then ((strconv_Itoa.f a0_0).bind fun t197 => (if t197.size + 1 ≤ 9223372036854775807 then ((strconv_Itoa.f a0_1).bind fun t198 => (if t197.size + 1 + t198.size ≤ 9223372036854775807 then (some ((t197 ++ (⟨#[58]⟩ : ByteArray)) ++ t198)) else (none))) else (none))) else (some (⟨#[]⟩ : ByteArray)))
def impl_EndText.T3 : Bool × List (List Nat × List Nat) := (true, [([], []), ([0], [0]), ([1], [1]), ([2], [2]), ([], []), ([4], [4]), ([5, 2], [5]), ([3, 6], [3, 6]), ([7, 6, 0, 1, 2, 3, 4, 5, 6, 7], [7])])
def impl_EndText.B3 : List Nat := [0, 1, 3, 7, 0, 16, 55, 127, 255]
theorem impl_EndText.tab3 : rtab .any (opsOf Tryd.f26 3) = impl_EndText.T3 := by kernel_rfl
theorem impl_EndText.bits3 : waitsOk impl_EndText.T3.2 impl_EndText.B3 = true := by kernel_rfl
set_option maxHeartbeats 8000000 in
set_option maxRecDepth 100000 in
theorem impl_EndText.calls (a0_0 : Int) (a0_1 : Int) (r : ByteArray) (w : World) (h : impl_EndText.f a0_0 a0_1 = some r) :
  Calls Tryd.prog 26 #[.agg #[.int .i64 a0_0,.int .i64 a0_1]] w fun e w'=>e = .returned (.string r) ∧ Below w.heap.size w w':=by
 have hu32:=Tryd.underlying32
 have HB:=m_ (Below.refl w.heap.size w)
 have H : ((impl_End_any.f a0_0 a0_1).bind fun t196=>(if t196 = true then ((strconv_Itoa.f a0_0).bind fun t197=>(if t197.size + 1 ≤ 9223372036854775807 then ((strconv_Itoa.f a0_1).bind fun t198=>(if t197.size + 1 + t198.size ≤ 9223372036854775807 then (some ((t197 ++ (⟨#[58]⟩ : ByteArray)) ++ t198)) else (none))) else (none))) else (some (⟨#[]⟩ : ByteArray)))) = some r:=h
 clear h
 replace H:=Option.bind_eq_some_iff.mp H
 obtain ⟨t196,A20,H⟩:=H
 replace H : (if t196 = true then ((strconv_Itoa.f a0_0).bind fun t197=>(if t197.size + 1 ≤ 9223372036854775807 then ((strconv_Itoa.f a0_1).bind fun t198=>(if t197.size + 1 + t198.size ≤ 9223372036854775807 then (some ((t197 ++ (⟨#[58]⟩ : ByteArray)) ++ t198)) else (none))) else (none))) else (some (⟨#[]⟩ : ByteArray))) = some r:=H
 have A2:=m_ A20
 clear A20
 by_cases c3 : t196 = true
 ·subst c3
  have H1 : ((strconv_Itoa.f a0_0).bind fun t197=>(if t197.size + 1 ≤ 9223372036854775807 then ((strconv_Itoa.f a0_1).bind fun t198=>(if t197.size + 1 + t198.size ≤ 9223372036854775807 then (some ((t197 ++ (⟨#[58]⟩ : ByteArray)) ++ t198)) else (none))) else (none))) = some r:=by rw [if_pos rfl] at H;exact H
  clear H
  have H:=H1
  clear H1
  replace H:=Option.bind_eq_some_iff.mp H
  obtain ⟨t197,A40,H⟩:=H
  replace H : (if t197.size + 1 ≤ 9223372036854775807 then ((strconv_Itoa.f a0_1).bind fun t198=>(if t197.size + 1 + t198.size ≤ 9223372036854775807 then (some ((t197 ++ (⟨#[58]⟩ : ByteArray)) ++ t198)) else (none))) else (none)) = some r:=H
  have A4:=m_ A40
  clear A40
  by_cases c5 : t197.size + 1 ≤ 9223372036854775807
  ·rw [if_pos c5] at H
   have c5b0:=eq_true c5
   have c5b1 : decide (t197.size + 1 ≤ 9223372036854775807) = true:=decide_eq_true c5
   try have c5b2 : (9223372036854775807 < t197.size + 1) = False:=eq_false (Nat.not_lt.2 c5)
   replace H:=Option.bind_eq_some_iff.mp H
   obtain ⟨t198,A60,H⟩:=H
   replace H : (if t197.size + 1 + t198.size ≤ 9223372036854775807 then (some ((t197 ++ (⟨#[58]⟩ : ByteArray)) ++ t198)) else (none)) = some r:=H
   have A6:=m_ A60
   clear A60
   by_cases c7 : t197.size + 1 + t198.size ≤ 9223372036854775807
   ·rw [if_pos c7] at H
    have c7b0:=eq_true c7
    have c7b1 : decide (t197.size + 1 + t198.size ≤ 9223372036854775807) = true:=decide_eq_true c7
    try have c7b2 : (9223372036854775807 < t197.size + 1 + t198.size) = False:=eq_false (Nat.not_lt.2 c7)
    obtain rfl:=Option.some.inj H
    go_enter Tryd.func26,Tryd.ntmps26
    try go_wp2_with (first|((with_reducible refine gate_dst (N:=1) rfl ?_);refine box_event ?hg (N:=1) ?hd (cs:=#[.int .i64 a0_0,.int .i64 a0_1]) (t:=32) ?hr ?_;(case hd=>rfl);(case hg=>rfl);(case hr=>first|(go_simp;done)|(go_simp;rfl));intro gb195 hg w8 hbox hb;have n0_:=m_ (l5_ (by repeat (first|(with_reducible first|exact HB.out|apply l1_|apply l2_|apply l3_)|exact HB.out)) hb);have n1_:=m_ (hbox);have n2_:=m_ ((by rw [hg];exact (l6_ (by repeat (first|(with_reducible first|exact HB.out|apply l1_|apply l2_|apply l3_)|exact HB.out))) : w.heap.size ≤ gb195));have n3_:=m_ ((by rw [hg];exact (l6_ (by repeat (first|(with_reducible first|exact HB.out|apply l1_|apply l2_|apply l3_)|exact HB.out))) : w.heap.size ≤ gb195));clear HB;have HB:=n0_;have BK195:=n1_;have GW195:=n2_;have GE195:=n3_;clear n0_ n1_ n2_ n3_;clear hb hbox hg;have hcz9_0 : w8.cell? ⟨gb195,0,none⟩ = some (.int .i64 a0_0):=(c_ BK195.out 0).trans rfl;have hcz9_1 : w8.cell? ⟨gb195,1,none⟩ = some (.int .i64 a0_1):=(c_ BK195.out 1).trans rfl)|((with_reducible refine gate_callee (f:=52) rfl ?_);refine goesL_ (some 4) rfl rfl Tryd.func52 (by kernel_rfl) rfl #[.agg #[.int .i64 a0_0,.int .i64 a0_1]] rfl (by (try simp only [List.map_toArray,List.map_cons,List.map_nil]);first|done|rfl|(simp only [List.length_drop,List.length_take];rfl)) ?_;(with_reducible refine (impl_End_any.calls a0_0 a0_1 true _ A2.out).mono ?_);rintro e w10 ⟨rfl,hb⟩;refine ⟨_,rfl,?_⟩;have n0_:=m_ (blk_below (g:=gb195) (o:=.cells #[.int .i64 a0_0,.int .i64 a0_1] 32 (0,0)) (by (with_reducible repeat first|apply b1_|apply b2_|apply b3_);exact BK195.out) hb);have n1_:=m_ (l5_ (by repeat (first|(with_reducible first|exact HB.out|apply l1_|apply l2_|apply l3_|refine l4_ ?_ GE195.out)|exact HB.out)) hb);clear BK195;clear HB;have BK195:=n0_;have HB:=n1_;clear n0_ n1_;(try clear hb);(try clear hb2);(try clear hk);(try clear hi)))
    have n0_:=m_ (b2_ BK195.out)
    have n1_:=m_ (l3_ HB.out)
    clear BK195
    clear HB
    have BK195:=n0_
    have HB:=n1_
    clear n0_ n1_
    refine start_ (n:=9) (S:=fun w'=>w'.cell? ⟨gb195,0,none⟩ = some (.int .i64 a0_0) ∧ w'.cell? ⟨gb195,1,none⟩ = some (.int .i64 a0_1)) (ds:=[]) #[false,false,false,false,false,false,false,false,false] (by kernel_rfl) rfl rfl ⟨(c_ BK195.out 0).trans rfl,(c_ BK195.out 1).trans rfl⟩ (fun hHeld=>?_);refine with_tabW impl_EndText.tab3 impl_EndText.bits3 (fun HT_ HW_=>?_)
    generalize w10.drew = w11 at BK195 HB hHeld ⊢
    refine pure_ (i:=0) (N:=some 6) (v:=?_) (a':=?_) #[true,false,false,false,false,false,false,false,false] rfl rfl (any_of HT_.out (by kernel_rfl)) (fun _ _ _ h=>h) (Or.inl ⟨by rfl,?_⟩) ?_ ?_
    rotate_left
    ·intro w'
     go_simp
     with_reducible rfl
    rotate_left
    ·simp only [Act.put,s1_,s2_,s3_,i64_w,i32_w]
     rfl
    refine pure_ (i:=4) (N:=some 10) (v:=?_) (a':=?_) #[true,false,false,false,true,false,false,false,false] rfl rfl (any_of HT_.out (by kernel_rfl)) (fun _ _ _ h=>h) (Or.inl ⟨by rfl,?_⟩) ?_ ?_
    rotate_left
    ·intro w'
     go_simp
     with_reducible rfl
    rotate_left
    ·simp only [Act.put,s1_,s2_,s3_,i64_w,i32_w]
     rfl
    refine take_ (i:=1) (N:=some 7) (v:=?_) (a':=?_) #[true,true,false,false,true,false,false,false,false] rfl rfl (take_ofW HT_.out HW_.out (by kernel_rfl)) (fun _ _ _ h=>h) (Or.inl ⟨by rfl,?_⟩) hHeld ?_ ?_
    rotate_left
    ·rintro w' ⟨s0,s1⟩
     go_simp
     with_reducible rfl
    rotate_left
    ·simp only [Act.put,s1_,s2_,s3_,i64_w,i32_w]
     rfl
    refine take_ (i:=5) (N:=some 11) (v:=?_) (a':=?_) #[true,true,false,false,true,true,false,false,false] rfl rfl (take_ofW HT_.out HW_.out (by kernel_rfl)) (fun _ _ _ h=>h) (Or.inl ⟨by rfl,?_⟩) hHeld ?_ ?_
    rotate_left
    ·rintro w' ⟨s0,s1⟩
     go_simp
     with_reducible rfl
    rotate_left
    ·simp only [Act.put,s1_,s2_,s3_,i64_w,i32_w]
     rfl
    refine one_ (i:=2) (N:=some 8) #[true,true,true,false,true,true,false,false,false] rfl rfl (one_of HT_.out (by kernel_rfl)) (by decide) (fun K hK=>?_)
    refine goes_ Tryd.func53 (by kernel_rfl) rfl #[.int .i64 a0_0] (by rfl) rfl rfl (by (try simp only [List.map_toArray,List.map_cons,List.map_nil]);first|done|rfl|(simp only [List.length_drop,List.length_take];rfl)) ?_
    with_reducible refine (strconv_Itoa.calls a0_0 t197 _ A4.out).mono ?_
    rintro e w12 ⟨rfl,hb⟩
    refine ⟨_,rfl,?_⟩
    have n0_:=m_ (blk_below (g:=gb195) (o:=.cells #[.int .i64 a0_0,.int .i64 a0_1] 32 (0,0)) (by (with_reducible repeat first|apply b1_|apply b2_|apply b3_);exact BK195.out) hb)
    have n1_:=m_ (l5_ (by repeat (first|(with_reducible first|exact HB.out|apply l1_|apply l2_|apply l3_|refine l4_ ?_ GE195.out)|exact HB.out)) hb)
    clear BK195
    clear HB
    have BK195:=n0_
    have HB:=n1_
    clear n0_ n1_
    (try clear hb)
    (try clear hb2)
    (try clear hk)
    (try clear hi)
    refine hK.out _ _ ⟨(c_ BK195.out 0).trans rfl,(c_ BK195.out 1).trans rfl⟩ (fun hHeld=>?_)
    clear hK K
    refine norm_ (a':=?_) ?_ ?_
    rotate_left
    ·show Act.put _ (some 8) _ = _
     simp only [Act.put,s1_,s2_,s3_,i64_w,i32_w]
     rfl
    refine pure_ (i:=3) (N:=some 9) (v:=?_) (a':=?_) #[true,true,true,true,true,true,false,false,false] rfl rfl (any_of HT_.out (by kernel_rfl)) (fun _ _ _ h=>h) (Or.inl ⟨by rfl,?_⟩) ?_ ?_
    rotate_left
    ·intro w'
     go_simp
     with_reducible rfl
    rotate_left
    ·simp only [Act.put,s1_,s2_,s3_,i64_w,i32_w]
     rfl
    refine one_ (i:=6) (N:=some 12) #[true,true,true,true,true,true,true,false,false] rfl rfl (one_of HT_.out (by kernel_rfl)) (by decide) (fun K hK=>?_)
    refine goes_ Tryd.func53 (by kernel_rfl) rfl #[.int .i64 a0_1] (by rfl) rfl rfl (by (try simp only [List.map_toArray,List.map_cons,List.map_nil]);first|done|rfl|(simp only [List.length_drop,List.length_take];rfl)) ?_
    with_reducible refine (strconv_Itoa.calls a0_1 t198 _ A6.out).mono ?_
    rintro e w13 ⟨rfl,hb⟩
    refine ⟨_,rfl,?_⟩
    have n0_:=m_ (blk_below (g:=gb195) (o:=.cells #[.int .i64 a0_0,.int .i64 a0_1] 32 (0,0)) (by (with_reducible repeat first|apply b1_|apply b2_|apply b3_);exact BK195.out) hb)
    have n1_:=m_ (l5_ (by repeat (first|(with_reducible first|exact HB.out|apply l1_|apply l2_|apply l3_|refine l4_ ?_ GE195.out)|exact HB.out)) hb)
    clear BK195
    clear HB
    have BK195:=n0_
    have HB:=n1_
    clear n0_ n1_
    (try clear hb)
    (try clear hb2)
    (try clear hk)
    (try clear hi)
    refine hK.out _ _ ⟨(c_ BK195.out 0).trans rfl,(c_ BK195.out 1).trans rfl⟩ (fun hHeld=>?_)
    clear hK K
    refine norm_ (a':=?_) ?_ ?_
    rotate_left
    ·show Act.put _ (some 12) _ = _
     simp only [Act.put,s1_,s2_,s3_,i64_w,i32_w]
     rfl
    refine pure_ (i:=7) (N:=some 13) (v:=?_) (a':=?_) #[true,true,true,true,true,true,true,true,false] rfl rfl (any_of HT_.out (by kernel_rfl)) (fun _ _ _ h=>h) (Or.inl ⟨by rfl,?_⟩) ?_ ?_
    rotate_left
    ·intro w'
     go_simp
     with_reducible rfl
    rotate_left
    ·simp only [Act.put,s1_,s2_,s3_,i64_w,i32_w]
     rfl
    refine pure_ (i:=8) (N:=some 2) (v:=?_) (a':=?_) #[true,true,true,true,true,true,true,true,true] rfl rfl (any_of HT_.out (by kernel_rfl)) (fun _ _ _ h=>h) (Or.inl ⟨by rfl,?_⟩) ?_ ?_
    rotate_left
    ·intro w'
     go_simp
     with_reducible rfl
    rotate_left
    ·simp only [Act.put,s1_,s2_,s3_,i64_w,i32_w]
     rfl
    refine done_ (done_of HT_.out (by kernel_rfl)) ?_
    try go_wp2
    go_ret
    exact ⟨by first|rfl|(simp [e1_,e2_] <;> rfl)|(simp [*,e1_,e2_] <;> rfl)|(simp [e1_,e2_,pk_empty1,pk_empty2];done)|(simp [*,e1_,e2_,pk_empty1,pk_empty2];done),by repeat (first|(with_reducible first|exact HB.out|apply l1_|apply l2_|apply l3_|refine l4_ ?_ GE195.out)|exact HB.out)⟩
   ·rw [if_neg c7] at H
    exact absurd H (by simp)
  ·rw [if_neg c5] at H
   exact absurd H (by simp)
 ·replace c3:=Bool.eq_false_iff.mpr c3
  subst c3
  have H1 : (some (⟨#[]⟩ : ByteArray)) = some r:=by rw [if_neg (show ¬ (false = true) by decide)] at H;exact H
  clear H
  have H:=H1
  clear H1
  obtain rfl:=Option.some.inj H
  go_enter Tryd.func26,Tryd.ntmps26
  go_wp2_with (first|((with_reducible refine gate_dst (N:=1) rfl ?_);refine box_event ?hg (N:=1) ?hd (cs:=#[.int .i64 a0_0,.int .i64 a0_1]) (t:=32) ?hr ?_;(case hd=>rfl);(case hg=>rfl);(case hr=>first|(go_simp;done)|(go_simp;rfl));intro gb195 hg w14 hbox hb;have n0_:=m_ (l5_ (by repeat (first|(with_reducible first|exact HB.out|apply l1_|apply l2_|apply l3_)|exact HB.out)) hb);have n1_:=m_ (hbox);have n2_:=m_ ((by rw [hg];exact (l6_ (by repeat (first|(with_reducible first|exact HB.out|apply l1_|apply l2_|apply l3_)|exact HB.out))) : w.heap.size ≤ gb195));have n3_:=m_ ((by rw [hg];exact (l6_ (by repeat (first|(with_reducible first|exact HB.out|apply l1_|apply l2_|apply l3_)|exact HB.out))) : w.heap.size ≤ gb195));clear HB;have HB:=n0_;have BK195:=n1_;have GW195:=n2_;have GE195:=n3_;clear n0_ n1_ n2_ n3_;clear hb hbox hg;have hcz15_0 : w14.cell? ⟨gb195,0,none⟩ = some (.int .i64 a0_0):=(c_ BK195.out 0).trans rfl;have hcz15_1 : w14.cell? ⟨gb195,1,none⟩ = some (.int .i64 a0_1):=(c_ BK195.out 1).trans rfl)|((with_reducible refine gate_callee (f:=52) rfl ?_);refine goesL_ (some 4) rfl rfl Tryd.func52 (by kernel_rfl) rfl #[.agg #[.int .i64 a0_0,.int .i64 a0_1]] rfl (by (try simp only [List.map_toArray,List.map_cons,List.map_nil]);first|done|rfl|(simp only [List.length_drop,List.length_take];rfl)) ?_;(with_reducible refine (impl_End_any.calls a0_0 a0_1 false _ A2.out).mono ?_);rintro e w16 ⟨rfl,hb⟩;refine ⟨_,rfl,?_⟩;have n0_:=m_ (blk_below (g:=gb195) (o:=.cells #[.int .i64 a0_0,.int .i64 a0_1] 32 (0,0)) (by (with_reducible repeat first|apply b1_|apply b2_|apply b3_);exact BK195.out) hb);have n1_:=m_ (l5_ (by repeat (first|(with_reducible first|exact HB.out|apply l1_|apply l2_|apply l3_|refine l4_ ?_ GE195.out)|exact HB.out)) hb);clear BK195;clear HB;have BK195:=n0_;have HB:=n1_;clear n0_ n1_;(try clear hb);(try clear hb2);(try clear hk);(try clear hi)))
  go_ret
  exact ⟨by first|rfl|(simp [e1_,e2_] <;> rfl)|(simp [*,e1_,e2_] <;> rfl)|(simp [e1_,e2_,pk_empty1,pk_empty2];done)|(simp [*,e1_,e2_,pk_empty1,pk_empty2];done),by repeat (first|(with_reducible first|exact HB.out|apply l1_|apply l2_|apply l3_|refine l4_ ?_ GE195.out)|exact HB.out)⟩

/-! ### strconv_Atoi: function 100 -/
/-- Of a numeral its number; else an error, of which only that it is one is told. -/
def strconv_Atoi.f (a0 : ByteArray) : Option (Int × Option Int) := if a0.size ≤ 281474976710656 then (match Lib.atoiAll a0.data.toList with | .ok v => some (v, none) | .range => some (Lib.atoiSat a0.data.toList, some 0) | _ => some (0, some 0)) else none
def ErrIs : Option Int → Value → Prop
 | none, E => E = .nilIface
 | some _, E => ∃ t p, E = .iface t p
theorem below_bytes_ {w w' : World} {t : TypeId} {s : ByteArray} (h : w' = w ∨ ∃ s', w' = Lib.bytesWorld w t s') : Below w.heap.size w w' := by
 rcases h with rfl|⟨s',rfl⟩
 ·exact Below.refl _ _
 ·exact Lib.bytesWorld_below _ _ _
theorem strconv_Atoi.calls (a0 : ByteArray) (r1 : Int) (r2 : Option Int) (w : World) (hG : GV w) (h : strconv_Atoi.f a0 = some (r1, r2)) :
  Calls Tryd.prog 100 #[.string a0] w fun e w'=>∃ E,ErrIs r2 E ∧ e = .returned (.tuple #[.int .i64 r1,E]) ∧ Below w.heap.size w w':=by
 unfold strconv_Atoi.f at h
 by_cases hs : a0.size ≤ 281474976710656
 ·rw [if_pos hs] at h
  obtain ⟨⟨t,p,g1⟩,⟨t',p',g2⟩⟩:=hG
  cases hc : Lib.atoiAll a0.data.toList with
  | ok v =>
   rw [hc] at h
   obtain ⟨rfl,rfl⟩:=Prod.mk.inj (Option.some.inj h)
   refine (Go.Proofs.Tryd.strconv_Atoi_ok a0 (by omega) v hc w).mono ?_
   rintro e w' ⟨rfl,hw⟩
   exact ⟨_,rfl,rfl,below_bytes_ (s:=a0) hw⟩
  | range =>
   rw [hc] at h
   obtain ⟨rfl,rfl⟩:=Prod.mk.inj (Option.some.inj h)
   refine (Go.Proofs.Tryd.strconv_Atoi_range a0 hs hc _ w g2 (Or.inr ⟨_,_,rfl⟩)).mono ?_
   rintro e w' ⟨N,rfl,_,_,hb⟩
   exact ⟨_,⟨_,_,rfl⟩,rfl,hb⟩
  | _ =>
   rw [hc] at h
   obtain ⟨rfl,rfl⟩:=Prod.mk.inj (Option.some.inj h)
   refine (Go.Proofs.Tryd.strconv_Atoi_syntax a0 hs (fun v e=>by rw [hc] at e;cases e) (fun e=>by rw [hc] at e;cases e) _ w g1 (Or.inr ⟨_,_,rfl⟩)).mono ?_
   rintro e w' ⟨N,rfl,_,_,hb⟩
   exact ⟨_,⟨_,_,rfl⟩,rfl,hb⟩
 ·rw [if_neg hs] at h;cases h

end Go.Proofs.YtclhmoghkcnkmaaDoor.A
