/- The law on how packets are written, as plain Lean: a packet is written in one way. -/
import Derived.Test.YtejpgpjjocbbjaaDoorV
import Derived.Lib.Strings
import Derived.Lib.IndexBytes
import Derived.Lib.IndexMore
import Derived.IntWalk
import Derived.Laws.Bits64
import Derived.Test.YtejpgpjjocbbjaaDoorAx2
import Derived.Test.YtejpgpjjocbbjaaDoorAx3
import Derived.Test.YtejpgpjjocbbjaaDoorAx4
import Derived.Test.YtejpgpjjocbbjaaDoorAx5
import Derived.Test.YtejpgpjjocbbjaaDoorAx6
import Derived.Test.YtejpgpjjocbbjaaDoorAx7
import Derived.Test.YtejpgpjjocbbjaaDoorAx8
import Derived.Test.YtejpgpjjocbbjaaDoorAx9
import Derived.Test.YtejpgpjjocbbjaaDoorAx10
import Derived.Test.YtejpgpjjocbbjaaDoorAx12
import Derived.Test.YtejpgpjjocbbjaaDoorAx13
import Derived.Test.YtejpgpjjocbbjaaDoorAx18
namespace Go.Proofs.YtejpgpjjocbbjaaDoor.Plain
open Go.Proofs.YtejpgpjjocbbjaaDoorW.PrintWords Go.RowKit
set_option linter.unusedVariables false
set_option linter.unusedSimpArgs false
/-- A byte that a text may hold. -/
def okb (c : Int) : Bool:=decide ((97 ≤ c ∧ c ≤ 122) ∨ (48 ≤ c ∧ c ≤ 57) ∨ c = 64 ∨ c = 58 ∨ c = 59)
def textOk (l : List Int) : Bool:=l.all okb && decide (l.length ≤ 40)
def inE (a p : Int) : Bool:=decide (1 ≤ a ∧ a ≤ 3 ∧ 1 ≤ p ∧ p ≤ 9)
def outE (a p : Int) : Bool:=decide (4 ≤ a ∧ a ≤ 6 ∧ 1 ≤ p ∧ p ≤ 9)
def doorE (a p : Int) : Bool:=decide (a = 9 ∧ 10 ≤ p ∧ p ≤ 17)
def anyE (a p : Int) : Bool:=inE a p || outE a p || doorE a p
/-- A number from 0 to 99 in decimals. -/
def dec (n : Int) : List Int:=if n < 10 then [48 + n] else [48 + n / 10,48 + n % 10]
def endText (a p : Int) : List Int:=if anyE a p then dec a ++ 58 :: dec p else []
def endRead (l : List Int) : Option (Int × Int) :=
 match l with
 | [x,c,y]=>if c = 58 ∧ 49 ≤ x ∧ x ≤ 54 ∧ 49 ≤ y ∧ y ≤ 57 then some (x - 48,y - 48) else none
 | [x,c,y,z]=>if x = 57 ∧ c = 58 ∧ y = 49 ∧ 48 ≤ z ∧ z ≤ 55 then some (9,z - 38) else none
 | _=>none
theorem anyE_iff (a p : Int) : anyE a p = true ↔ (1 ≤ a ∧ a ≤ 6 ∧ 1 ≤ p ∧ p ≤ 9) ∨ (a = 9 ∧ 10 ≤ p ∧ p ≤ 17):=by
 simp only [anyE,inE,outE,doorE,Bool.or_eq_true,decide_eq_true_eq];omega
theorem endText_host (a p : Int) (h : 1 ≤ a ∧ a ≤ 6 ∧ 1 ≤ p ∧ p ≤ 9) : endText a p = [48 + a,58,48 + p]:=by
 have : anyE a p = true:=(anyE_iff a p).2 (.inl h)
 simp only [endText,this,if_true,dec]
 rw [if_pos (by omega),if_pos (by omega)];rfl
theorem endText_door (p : Int) (h : 10 ≤ p ∧ p ≤ 17) : endText 9 p = [57,58,49,38 + p]:=by
 have : anyE 9 p = true:=(anyE_iff 9 p).2 (.inr ⟨rfl,h.1,h.2⟩)
 simp only [endText,this,if_true,dec]
 rw [if_pos (by omega),if_neg (by omega)]
 have h1 : 48 + p / 10 = 49:=by omega
 have h2 : 48 + p % 10 = 38 + p:=by omega
 simp [h1,h2]
theorem endText_none (a p : Int) (h : anyE a p = false) : endText a p = []:=by simp [endText,h]
/-- What endRead reads is any end, and the text is its own; and every end is read. -/
theorem endRead_iff (l : List Int) (a p : Int) : endRead l = some (a,p) ↔ anyE a p = true ∧ endText a p = l:=by
 constructor
 ·intro h
  unfold endRead at h
  split at h
  ·rename_i x c y
   split at h
   ·rename_i hc
    simp only [Option.some.injEq,Prod.mk.injEq] at h
    obtain ⟨rfl,rfl⟩:=h
    have h3 : 1 ≤ x - 48 ∧ x - 48 ≤ 6 ∧ 1 ≤ y - 48 ∧ y - 48 ≤ 9:=by omega
    refine ⟨(anyE_iff _ _).2 (.inl h3),?_⟩
    rw [endText_host _ _ h3]
    have h4 : 48 + (x - 48) = x:=by omega
    have h5 : 48 + (y - 48) = y:=by omega
    rw [h4,h5,hc.1]
   ·cases h
  ·rename_i x c y z
   split at h
   ·rename_i hc
    simp only [Option.some.injEq,Prod.mk.injEq] at h
    obtain ⟨rfl,rfl⟩:=h
    have h3 : 10 ≤ z - 38 ∧ z - 38 ≤ 17:=by omega
    refine ⟨(anyE_iff _ _).2 (.inr ⟨rfl,h3⟩),?_⟩
    rw [endText_door _ h3]
    have h4 : 38 + (z - 38) = z:=by omega
    rw [h4,hc.1,hc.2.1,hc.2.2.1]
   ·cases h
  ·cases h
 ·rintro ⟨h1,rfl⟩
  rcases (anyE_iff a p).1 h1 with h2|⟨rfl,h2⟩
  ·rw [endText_host a p h2]
   simp only [endRead]
   rw [if_pos ⟨trivial,by omega,by omega,by omega,by omega⟩]
   have h4 : 48 + a - 48 = a:=by omega
   have h5 : 48 + p - 48 = p:=by omega
   rw [h4,h5]
  ·rw [endText_door p h2]
   simp only [endRead]
   rw [if_pos ⟨trivial,trivial,trivial,by omega,by omega⟩]
   have h5 : 38 + p - 38 = p:=by omega
   rw [h5]
theorem endRead_endText (a p : Int) (h : anyE a p = true) : endRead (endText a p) = some (a,p):=(endRead_iff _ a p).2 ⟨h,rfl⟩
theorem bytesOf_size (s : ByteArray) : (bytesOf s).length = s.size:=bytesOf_length s
theorem bt_rd (s : ByteArray) (i : Int) : bt s i = rd (bytesOf s) i:=(rd_bytesOf s i).symm
theorem bytesOf_append (s t : ByteArray) : bytesOf (s ++ t) = bytesOf s ++ bytesOf t:=by
 simp [bytesOf,ByteArray.data_append]
theorem bytesOf_extract (s : ByteArray) (a b : Nat) : bytesOf (s.extract a b) = ((bytesOf s).drop a).take (b - a):=by
 simp [bytesOf,Lib.extract_data]
theorem bytesOf_to_end (s : ByteArray) (a : Nat) : bytesOf (s.extract a s.size) = (bytesOf s).drop a:=by
 rw [bytesOf_extract,List.take_of_length_le]
 rw [List.length_drop,bytesOf_size]
 exact Nat.le_refl _
theorem bytesOf_from (s : ByteArray) (b : Nat) : bytesOf (s.extract 0 b) = (bytesOf s).take b:=by
 rw [bytesOf_extract];simp
theorem bytesOf_inj {s t : ByteArray} (h : bytesOf s = bytesOf t) : s = t:=by
 have h1 : s.data.toList = t.data.toList:=by
  unfold bytesOf at h
  exact (List.map_inj_right (fun a b e=>UInt8.toNat_inj.1 (by omega))).1 h
 have h2 : s.data = t.data:=Array.toList_inj.1 h1
 cases s;cases t;simp_all
theorem bytesOf_toList {s t : ByteArray} : s.toList = t.toList ↔ bytesOf s = bytesOf t:=by
 constructor
 ·intro h
  have : s.data.toList = t.data.toList:=by simpa [ByteArray.toList_eq] using h
  simp [bytesOf,this]
 ·intro h;rw [bytesOf_inj h]
theorem Ev.ite {α : Type} {c : Prop} [Decidable c] {g f : Nat → Option α} {r : α} (h1 : c → Ev g r) (h2 : ¬ c → Ev f r) : Ev (fun k=>if c then g k else f k) r:=by
 by_cases h : c
 ·simp only [if_pos h];exact h1 h
 ·simp only [if_neg h];exact h2 h
theorem Ev.pos {α : Type} {c : Prop} [Decidable c] {g f : Nat → Option α} {r : α} (h : c) (h1 : Ev g r) : Ev (fun k=>if c then g k else f k) r:=by
 simp only [if_pos h];exact h1
theorem Ev.neg {α : Type} {c : Prop} [Decidable c] {g f : Nat → Option α} {r : α} (h : ¬ c) (h1 : Ev f r) : Ev (fun k=>if c then g k else f k) r:=by
 simp only [if_neg h];exact h1
/-- A function without rounds. -/
theorem Ev.call {α β : Type} {o : Option α} {a : α} {f : Nat → α → Option β} {r : β} (h : o = some a) (k : Ev (fun n=>f n a) r) : Ev (fun n=>o.bind (f n)) r:=by
 subst h;exact k
theorem wrap_id {n : Int} (h1 : -9223372036854775808 ≤ n) (h2 : n ≤ 9223372036854775807) : wrap64 n = n:=IntWalk.wrap64_in n ⟨h1,h2⟩
end Go.Proofs.YtejpgpjjocbbjaaDoor.Plain
namespace Go.Proofs.YtejpgpjjocbbjaaDoor.Pure
open Go.RowKit Go.Proofs.YtejpgpjjocbbjaaDoorW.PrintWords Go.Proofs.YtejpgpjjocbbjaaDoorW.PrintMore Go.Proofs.YtejpgpjjocbbjaaDoor.Plain Go.Proofs.YtejpgpjjocbbjaaDoor.A
set_option linter.unusedVariables false
set_option linter.unusedSimpArgs false
theorem bits_xor_i64_nat (a b : Nat) (ha : a < 9223372036854775808) (hb : b < 9223372036854775808) :
  Go.bits .xor .i64 (a : Int) (b : Int) = ((a ^^^ b : Nat) : Int):=by
 have hx : a ^^^ b < 2 ^ 63:=Nat.xor_lt_two_pow (by omega) (by omega)
 have h1 : (BitVec.ofInt 64 (a : Int)).toNat = a:=by
  rw [BitVec.toNat_ofInt];omega
 have h2 : (BitVec.ofInt 64 (b : Int)).toNat = b:=by
  rw [BitVec.toNat_ofInt];omega
 show IntKind.wrap .i64 ((BitVec.ofInt 64 (a : Int) ^^^ BitVec.ofInt 64 (b : Int)).toNat : Int) = _
 rw [BitVec.toNat_xor,h1,h2,IntWalk.i64_left,IntWalk.wrap64_in _ (by omega)]
theorem xor_nonneg (x y : Int) (h1 : 0 ≤ x) (h2 : x ≤ 9223372036854775807) (h3 : 0 ≤ y) (h4 : y ≤ 9223372036854775807) : 0 ≤ Go.bits .xor .i64 x y:=by
 obtain ⟨a,rfl⟩:=Int.eq_ofNat_of_zero_le h1
 obtain ⟨b,rfl⟩:=Int.eq_ofNat_of_zero_le h3
 rw [bits_xor_i64_nat a b (by omega) (by omega)]
 omega
/-- A code: bytes. -/
def Code (b : List Int) : Prop:=∀ x ∈ b,0 ≤ x ∧ x ≤ 255
theorem code_of {l : List Int} (h : ∀ x ∈ l,(Lit.int .u8 x).wf = true) : Code l:=by
 intro x hx
 have:=h x hx
 simp [Lit.wf,IntKind.min,IntKind.max,IntKind.bits,IntKind.signed] at this
 omega
theorem rd_code {b : List Int} (h : Code b) (i : Int) : 0 ≤ rd b i ∧ rd b i ≤ 255:=by
 unfold rd
 rw [List.getD_eq_getElem?_getD]
 cases e : b[i.toNat]? with
 | none=>simp
 | some x=>simpa using h x (List.mem_of_getElem? e)
theorem pick_val (b : List Int) (hb : Code b) (p : Int) (h0 : 0 ≤ p) (hp : p ≤ 1099511627776) (L : Int) (hL : 1 ≤ L) :
  0 ≤ Go.bits .xor .i64 (wrap64 ((wrap64 ((wrap64 ((wrap64 ((wrap64 (rd b (Int.tmod p L))) * 131)) + (wrap64 ((wrap64 (rd b (Int.tmod (wrap64 ((wrap64 (p * 7)) + 3)) L))) * 1117)))) + (wrap64 (p * 29)))) + (wrap64 ((wrap64 (Int.tdiv p L)) * 53)))) (wrap64 (Int.tdiv (wrap64 ((wrap64 ((wrap64 ((wrap64 ((wrap64 (rd b (Int.tmod p L))) * 131)) + (wrap64 ((wrap64 (rd b (Int.tmod (wrap64 ((wrap64 (p * 7)) + 3)) L))) * 1117)))) + (wrap64 (p * 29)))) + (wrap64 ((wrap64 (Int.tdiv p L)) * 53)))) 64)):=by
 have hA:=rd_code hb (Int.tmod p L)
 have hB:=rd_code hb (Int.tmod (wrap64 ((wrap64 (p * 7)) + 3)) L)
 generalize rd b (Int.tmod p L) = A at hA ⊢
 generalize rd b (Int.tmod (wrap64 ((wrap64 (p * 7)) + 3)) L) = B at hB ⊢
 have hq : 0 ≤ Int.tdiv p L ∧ Int.tdiv p L ≤ p:=by
  rw [Int.tdiv_eq_ediv_of_nonneg h0]
  exact ⟨Int.ediv_nonneg h0 (by omega),Int.ediv_le_self _ h0⟩
 generalize Int.tdiv p L = q at hq ⊢
 have e : wrap64 ((wrap64 ((wrap64 ((wrap64 ((wrap64 A) * 131)) + (wrap64 ((wrap64 B) * 1117)))) + (wrap64 (p * 29)))) + (wrap64 ((wrap64 q) * 53))) = A * 131 + B * 1117 + p * 29 + q * 53:=by
  simp (disch:=omega) only [wrap_id]
 rw [e]
 have hx : 0 ≤ A * 131 + B * 1117 + p * 29 + q * 53 ∧ A * 131 + B * 1117 + p * 29 + q * 53 ≤ 140737488355328:=by omega
 generalize A * 131 + B * 1117 + p * 29 + q * 53 = x at hx ⊢
 have hd : 0 ≤ Int.tdiv x 64 ∧ Int.tdiv x 64 ≤ x:=by
  rw [Int.tdiv_eq_ediv_of_nonneg hx.1];omega
 rw [wrap_id (by omega) (by omega)]
 exact xor_nonneg x _ hx.1 (by omega) hd.1 (by omega)
theorem tmod_in (x n : Int) (hx : 0 ≤ x) (hn : 1 ≤ n) : 0 ≤ Int.tmod x n ∧ Int.tmod x n < n:=⟨Int.tmod_nonneg n hx,Int.tmod_lt_of_pos x (by omega)⟩
/-- A pick: its number is below what is asked, and the place is one on. -/
theorem pick_ev (b : List Int) (hb : Code b) (p n : Int) (h0 : 0 ≤ p) (hp : p ≤ 1099511627776) (hl : b.length ≤ 1000000) :
  ∃ r,Ev (fun k=>spec_l6Rd_pick.f k b p n) (r,p + 1) ∧ 0 ≤ r ∧ (1 ≤ n → r < n) ∧ (n < 1 → r = 0):=by
 unfold spec_l6Rd_pick.f
 rw [wrap_id (n:=p + 1) (by omega) (by omega)]
 have hz : ∀ x : Bool,x = true → Ev (fun k=>spec_l6Rd_pick.j0 k n x b (p + 1)) (0,p + 1):=fun x hx=>Ev.step (f:=fun _=>some (0,p + 1)) (fun k=>by simp only [spec_l6Rd_pick.j0];rw [if_pos hx]) (Ev.now _)
 by_cases hn : n < 1
 ·exact ⟨0,Ev.pos hn (hz true rfl),by omega,by omega,fun _=>rfl⟩
 ·by_cases he : (b.length : Int) = 0
  ·exact ⟨0,Ev.neg hn (hz _ (beq_iff_eq.2 he)),by omega,by omega,fun _=>rfl⟩
  ·have hw : wrap64 (p + 1 - 1) = p:=by rw [wrap_id (by omega) (by omega)];omega
   have hw7 : wrap64 (wrap64 (p * 7) + 3) = p * 7 + 3:=by rw [wrap_id (n:=p * 7) (by omega) (by omega),wrap_id (by omega) (by omega)]
   by_cases hlt : p < (b.length : Int)
   ·have hA:=rd_code hb p
    refine ⟨Int.tmod (rd b p) n,Ev.neg hn (Ev.step (f:=fun _=>some (Int.tmod (rd b p) n,p + 1)) (fun k=>?_) (Ev.now _)),(tmod_in _ _ hA.1 (by omega)).1,fun _=>(tmod_in _ _ hA.1 (by omega)).2,fun h=>absurd h hn⟩
    simp only [spec_l6Rd_pick.j0,hw]
    rw [if_neg (by rw [beq_iff_eq];exact he),if_pos hlt,if_pos h0,if_neg (by omega),wrap_id (by omega) (by omega)]
   ·have hx:=pick_val b hb p h0 hp (b.length : Int) (by omega)
    have t1:=tmod_in p (b.length : Int) h0 (by omega)
    have t2:=tmod_in (p * 7 + 3) (b.length : Int) (by omega) (by omega)
    refine ⟨_,Ev.neg hn (Ev.step (f:=fun _=>some (_,p + 1)) (fun k=>?_) (Ev.now _)),(tmod_in _ n hx (by omega)).1,fun _=>(tmod_in _ n hx (by omega)).2,fun h=>absurd h hn⟩
    simp only [spec_l6Rd_pick.j0,hw]
    rw [if_neg (by rw [beq_iff_eq];exact he),if_neg hlt,if_neg he,if_pos t1.1,if_pos t1.2,hw7,if_pos t2.1,if_pos t2.2,if_neg (by omega)]
theorem open_eq (l : List Int) (hl : Code l) : ∃ b,spec_l6Open.f l = some (b,0) ∧ Code b ∧ b.length ≤ 2000:=by
 unfold spec_l6Open.f
 by_cases h : (l.length : Int) > 2000
 ·rw [if_pos h,if_pos (by omega)]
  exact ⟨_,rfl,fun x hx=>hl x (List.mem_of_mem_take hx),by rw [List.length_take];omega⟩
 ·rw [if_neg h];exact ⟨_,rfl,hl,by omega⟩
theorem l6In_eq (a b c : Int) : spec_l6In.f a b c = some (decide (b ≤ a ∧ a ≤ c)):=by
 unfold spec_l6In.f
 by_cases h : a ≥ b
 ·rw [if_pos h];simp;omega
 ·rw [if_neg h];simp;omega
theorem within_eq (a b c : Int) : impl_within.f a b c = some (decide (b ≤ a ∧ a ≤ c)):=by
 unfold impl_within.f
 by_cases h : a ≥ b
 ·rw [if_pos h];simp;omega
 ·rw [if_neg h];simp;omega
theorem sDoor_eq (a p : Int) : spec_EndDoor.f a p = some (doorE a p):=by
 unfold spec_EndDoor.f doorE
 by_cases h : a = 9
 ·rw [if_pos h,l6In_eq];simp [h]
 ·rw [if_neg h];simp [h]
theorem iDoor_eq (a p : Int) : impl_EndDoor.f a p = some (doorE a p):=by
 unfold impl_EndDoor.f doorE
 by_cases h : a = 9
 ·rw [if_pos h,within_eq];simp [h]
 ·rw [if_neg h];simp [h]
theorem host_eq (p : Int) (a : Int) : spec_l1Host.f a p = some (decide (1 ≤ p ∧ p ≤ 9)):=by
 unfold spec_l1Host.f;rw [l6In_eq];rfl
theorem sIn_eq (a p : Int) : spec_EndInside.f a p = some (inE a p):=by
 unfold spec_EndInside.f inE
 rw [l6In_eq,host_eq]
 by_cases h : 1 ≤ a ∧ a ≤ 3 <;> simp [h] <;> (try rw [eq_comm,decide_eq_false_iff_not]) <;> omega
theorem iIn_eq (a p : Int) : impl_EndInside.f a p = some (inE a p):=by
 unfold impl_EndInside.f inE
 rw [within_eq,within_eq]
 by_cases h : 1 ≤ a ∧ a ≤ 3 <;> simp [h] <;> (try rw [eq_comm,decide_eq_false_iff_not]) <;> omega
theorem sOut_eq (a p : Int) : spec_EndOutside.f a p = some (outE a p):=by
 unfold spec_EndOutside.f outE
 rw [l6In_eq,host_eq]
 by_cases h : 4 ≤ a ∧ a ≤ 6 <;> simp [h] <;> (try rw [eq_comm,decide_eq_false_iff_not]) <;> omega
theorem iOut_eq (a p : Int) : impl_EndOutside.f a p = some (outE a p):=by
 unfold impl_EndOutside.f outE
 rw [within_eq,within_eq]
 by_cases h : 4 ≤ a ∧ a ≤ 6 <;> simp [h] <;> (try rw [eq_comm,decide_eq_false_iff_not]) <;> omega
theorem l2Byte_eq (c : Int) : spec_l2Byte.f c = some (okb c):=by
 unfold spec_l2Byte.f okb
 repeat' split
 all_goals (congr 1;first|(symm;rw [decide_eq_true_eq];omega)|(rw [Bool.eq_iff_iff,beq_iff_eq,decide_eq_true_eq];omega))
theorem all_rd (s : ByteArray) (f : Int → Bool) : (bytesOf s).all f = true ↔ ∀ i : Nat,i < s.size → f (bt s i) = true:=by
 rw [List.all_eq_true]
 constructor
 ·intro h i hi
  have hl : i < (bytesOf s).length:=by rw [bytesOf_size];exact hi
  have e : bt s i = (bytesOf s)[i]:=by rw [bt_rd];simp [rd,List.getD_eq_getElem?_getD,List.getElem?_eq_getElem hl]
  rw [e];exact h _ (List.getElem_mem hl)
 ·intro h x hx
  obtain ⟨i,hl,rfl⟩:=List.getElem_of_mem hx
  have e : bt s i = (bytesOf s)[i]:=by rw [bt_rd];simp [rd,List.getD_eq_getElem?_getD,List.getElem?_eq_getElem hl]
  rw [← e];exact h i (by rwa [bytesOf_size] at hl)
theorem sTextOk_loop (s : ByteArray) (hs : s.size ≤ 9223372036854775806) : ∀ (d : Nat) (i : Nat),i + d = s.size → (∀ j : Nat,j < i → okb (bt s j) = true) → Ev (fun k=>spec_TextOk.l0 k s i) (textOk (bytesOf s)):=by
 intro d
 induction d with
 | zero =>
  intro i hi ha
  refine Ev.step (f:=fun _=>some (decide ((s.size : Int) ≤ 40))) (fun k=>?_) ?_
  ·simp only [spec_TextOk.l0];rw [if_neg (by omega)]
  ·have e : textOk (bytesOf s) = decide ((s.size : Int) ≤ 40):=by
    unfold textOk
    rw [(all_rd s okb).2 (fun j hj=>ha j (by omega)),bytesOf_size,Bool.true_and]
    by_cases h : s.size ≤ 40
    ·rw [decide_eq_true h,decide_eq_true (by omega)]
    ·rw [decide_eq_false h,decide_eq_false (by omega)]
   rw [e];exact Ev.now _
 | succ d ih =>
  intro i hi ha
  cases hb : okb (bt s i) with
  | true =>
   refine Ev.step (f:=fun k=>spec_TextOk.l0 k s ((i + 1 : Nat) : Int)) (fun k=>?_) (ih (i + 1) (by omega) (fun j hj=>?_))
   ·simp only [spec_TextOk.l0];rw [if_pos (by omega),if_pos (by omega),l2Byte_eq,hb,wrap_id (by omega) (by omega)];rfl
   ·by_cases e : j = i
    ·subst e;exact hb
    ·exact ha j (by omega)
  | false =>
   refine Ev.step (f:=fun _=>some false) (fun k=>?_) ?_
   ·simp only [spec_TextOk.l0];rw [if_pos (by omega),if_pos (by omega),l2Byte_eq,hb];rfl
   ·have e : textOk (bytesOf s) = false:=by
     unfold textOk
     rw [Bool.and_eq_false_iff];left
     cases h : (bytesOf s).all okb with
     | false=>rfl
     | true=>have:=(all_rd s okb).1 h i (by omega);rw [hb] at this;cases this
    rw [e];exact Ev.now _
theorem sTextOk (s : ByteArray) (hs : s.size ≤ 9223372036854775806) : Ev (fun k=>spec_TextOk.f k s) (textOk (bytesOf s)) :=
 sTextOk_loop s hs s.size 0 (by omega) (fun j hj=>absurd hj (Nat.not_lt_zero _))
theorem iTextOk (s : ByteArray) (hs : s.size ≤ 140737488355328) : impl_TextOk.f s = some (textOk (bytesOf s)):=by
 unfold impl_TextOk.f textOk
 rw [if_pos hs,bytesOf_size];rfl
theorem digit_eq (c : Int) (h : 0 ≤ c ∧ c ≤ 255) : spec_l1Digit.f c = some (if 48 ≤ c ∧ c ≤ 57 then c - 48 else -1):=by
 unfold spec_l1Digit.f
 by_cases h1 : c < 48
 ·rw [if_pos h1,if_neg (by omega)]
 ·rw [if_neg h1]
  by_cases h2 : c > 57
  ·rw [if_pos h2,if_neg (by omega)]
  ·rw [if_neg h2,if_pos (by omega)];congr 1;omega
end Go.Proofs.YtejpgpjjocbbjaaDoor.Pure
namespace Go.Proofs.YtejpgpjjocbbjaaDoor.Plain
open Go.Proofs.YtejpgpjjocbbjaaDoorW.PrintWords Go.RowKit
set_option linter.unusedVariables false
set_option linter.unusedSimpArgs false
/-- A packet in form. -/
def pktOk (k a p b q n : Int) (l : List Int) : Bool:=anyE a p && anyE b q && decide (0 ≤ n ∧ n ≤ 99) && ((decide (k = 1) && textOk l && decide (l ≠ [])) || (decide (k = 2) && decide (l = [])))
theorem pktOk_iff (k a p b q n : Int) (l : List Int) : pktOk k a p b q n l = true ↔ (anyE a p = true ∧ anyE b q = true) ∧ (0 ≤ n ∧ n ≤ 99) ∧ ((k = 1 ∧ textOk l = true ∧ l ≠ []) ∨ (k = 2 ∧ l = [])):=by
 simp [pktOk,and_assoc]
/-- A text, cut at each blank. -/
def split32 : List Int → List (List Int)
 | []=>[[]]
 | x :: l=>if x = 32 then [] :: split32 l else match split32 l with
  | []=>[[x]]
  | w :: r=>(x :: w) :: r
theorem split32_ne (l : List Int) : split32 l ≠ []:=by
 cases l with
 | nil=>simp [split32]
 | cons x l =>
  unfold split32
  split
  ·simp
  ·split <;> simp
theorem split32_one : ∀ (u : List Int),32 ∉ u → split32 u = [u]
 | [],_=>rfl
 | x :: u,h=>by
  have h1 : x ≠ 32:=fun e=>h (by rw [e];exact List.mem_cons_self)
  have h2 : 32 ∉ u:=fun e=>h (List.mem_cons_of_mem _ e)
  unfold split32
  rw [if_neg h1,split32_one u h2]
theorem split32_app : ∀ (u v : List Int),32 ∉ u → split32 (u ++ 32 :: v) = u :: split32 v
 | [],v,_=>by simp [split32]
 | x :: u,v,h=>by
  have h1 : x ≠ 32:=fun e=>h (by rw [e];exact List.mem_cons_self)
  have h2 : 32 ∉ u:=fun e=>h (List.mem_cons_of_mem _ e)
  rw [List.cons_append,split32,if_neg h1,split32_app u v h2]
/-- The words, a blank between each two. -/
def join32 : List (List Int) → List Int
 | []=>[]
 | [w]=>w
 | w :: r=>w ++ 32 :: join32 r
theorem split32_join : ∀ (ws : List (List Int)),ws ≠ [] → (∀ w ∈ ws,32 ∉ w) → split32 (join32 ws) = ws
 | [],h,_=>absurd rfl h
 | [w],_,h=>split32_one w (h w (by simp))
 | w :: x :: r,_,h=>by
  show split32 (w ++ 32 :: join32 (x :: r)) = _
  rw [split32_app _ _ (h w (by simp)),split32_join (x :: r) (by simp) (fun y hy=>h y (List.mem_cons_of_mem _ hy))]
theorem dec_no32 (n : Int) (h : 0 ≤ n ∧ n ≤ 99) : 32 ∉ dec n:=by
 unfold dec;split <;> simp <;> omega
theorem endText_no32 (a p : Int) : 32 ∉ endText a p:=by
 cases h : anyE a p with
 | false=>rw [endText_none a p h];simp
 | true =>
  rcases (anyE_iff a p).1 h with h2|⟨rfl,h2⟩
  ·rw [endText_host a p h2];simp;omega
  ·rw [endText_door p h2];simp;omega
theorem textOk_no32 {l : List Int} (h : textOk l = true) : 32 ∉ l:=by
 intro hm
 simp only [textOk,Bool.and_eq_true,List.all_eq_true] at h
 have:=h.1 32 hm
 simp [okb] at this
/-- The words of a packet in form. -/
def pktWords (k a p b q n : Int) (l : List Int) : List (List Int):=if k = 2 then [[97,99,107],endText a p,endText b q,dec n] else [[100,97,116,97],endText a p,endText b q,dec n,l]
def pktText (k a p b q n : Int) (l : List Int) : List Int:=if pktOk k a p b q n l = true then join32 (pktWords k a p b q n l) else []
theorem pktWords_no32 {k a p b q n : Int} {l : List Int} (h : pktOk k a p b q n l = true) : ∀ w ∈ pktWords k a p b q n l,32 ∉ w:=by
 obtain ⟨_,h3,h4⟩:=(pktOk_iff _ _ _ _ _ _ _).1 h
 have hd:=dec_no32 n h3
 have ha:=endText_no32 a p
 have hb:=endText_no32 b q
 intro w hw
 unfold pktWords at hw
 split at hw
 ·simp only [List.mem_cons,List.not_mem_nil,or_false] at hw
  rcases hw with rfl|rfl|rfl|rfl <;> first|assumption|decide
 ·rename_i hk
  have hl : 32 ∉ l:=by
   rcases h4 with h4|h4
   ·exact textOk_no32 h4.2.1
   ·rw [h4.2];simp
  simp only [List.mem_cons,List.not_mem_nil,or_false] at hw
  rcases hw with rfl|rfl|rfl|rfl|rfl <;> first|assumption|decide
theorem pktWords_ne (k a p b q n : Int) (l : List Int) : pktWords k a p b q n l ≠ []:=by unfold pktWords;split <;> simp
theorem pktText_split {k a p b q n : Int} {l : List Int} (h : pktOk k a p b q n l = true) : split32 (pktText k a p b q n l) = pktWords k a p b q n l:=by
 unfold pktText;rw [if_pos h];exact split32_join _ (pktWords_ne _ _ _ _ _ _ _) (pktWords_no32 h)
theorem pktText_nil (k a p b q n : Int) (l : List Int) : pktText k a p b q n l = [] ↔ pktOk k a p b q n l = false:=by
 unfold pktText
 cases h : pktOk k a p b q n l with
 | false=>simp
 | true =>
  simp only [if_true]
  constructor
  ·intro e
   have:=split32_join _ (pktWords_ne k a p b q n l) (pktWords_no32 h)
   rw [e] at this
   unfold pktWords at this
   split at this <;> simp [split32] at this
  ·intro e;cases e
end Go.Proofs.YtejpgpjjocbbjaaDoor.Plain
namespace Go.Proofs.YtejpgpjjocbbjaaDoor.Pure
open Go.RowKit Go.Proofs.YtejpgpjjocbbjaaDoorW.PrintWords Go.Proofs.YtejpgpjjocbbjaaDoorW.PrintMore Go.Proofs.YtejpgpjjocbbjaaDoor.Plain Go.Proofs.YtejpgpjjocbbjaaDoor.A
set_option linter.unusedVariables false
set_option linter.unusedSimpArgs false
theorem sAny_eq (a p : Int) : spec_l1Any.f a p = some (anyE a p):=by
 unfold spec_l1Any.f anyE
 rw [sIn_eq,sOut_eq,sDoor_eq]
 cases inE a p <;> cases outE a p <;> simp
theorem iAny_eq (a p : Int) : impl_End_any.f a p = some (anyE a p):=by
 unfold impl_End_any.f anyE
 rw [iIn_eq,iOut_eq,iDoor_eq]
 cases inE a p <;> cases outE a p <;> simp
theorem toList_nil (s : ByteArray) : s.toList = ([] : List UInt8) ↔ bytesOf s = []:=by
 have:=bytesOf_toList (s:=s) (t:=ByteArray.empty)
 rw [show ByteArray.empty.toList = ([] : List UInt8) from by rw [ByteArray.toList_eq];rfl] at this
 rw [this];rfl
theorem toList_emp (s : ByteArray) : s.toList.isEmpty = decide (bytesOf s = []):=by
 rw [Bool.eq_iff_iff,List.isEmpty_iff,decide_eq_true_eq,toList_nil]
theorem sPktOk (k a p b q n : Int) (s : ByteArray) (hs : s.size ≤ 9223372036854775806) : Ev (fun r=>spec_PktOk.f r k a p b q n s) (pktOk k a p b q n (bytesOf s)):=by
 unfold spec_PktOk.f pktOk
 refine Ev.call (sAny_eq a p) ?_
 have fin : ∀ (x : Bool) (hx : x = true),Ev (fun r=>spec_PktOk.j0 r x k a p b q n s) false:=fun x hx=>Ev.step (f:=fun _=>some false) (fun r=>by simp only [spec_PktOk.j0];rw [if_pos hx]) (Ev.now _)
 cases h1 : anyE a p with
 | false=>simp;exact fin _ rfl
 | true =>
  simp only [if_true]
  refine Ev.call (sAny_eq b q) ?_
  cases h2 : anyE b q with
  | false=>simp;exact fin _ rfl
  | true =>
   simp only [if_true]
   refine Ev.call (l6In_eq n 0 99) ?_
   by_cases h3 : 0 ≤ n ∧ n ≤ 99
   ·rw [decide_eq_true h3]
    simp only [Bool.not_true,Bool.true_and]
    refine Ev.step (f:=fun r=>if k = 1 then ((spec_TextOk.f r s).bind fun t=>(if t = true then (some (!s.toList.isEmpty)) else (some false))) else (if k = 2 then (some s.toList.isEmpty) else (some false))) (fun r=>by simp only [spec_PktOk.j0];rw [if_neg (by decide)]) ?_
    by_cases hk : k = 1
    ·simp only [hk,if_true]
     refine Ev.bind (sTextOk s hs) ?_
     cases ht : textOk (bytesOf s) with
     | false=>simp;exact Ev.now _
     | true=>simp only [if_true,toList_emp];simp;exact Ev.now _
    ·simp only [if_neg hk]
     by_cases hk2 : k = 2
     ·simp only [hk2,if_true,toList_emp];simp;exact Ev.now _
     ·simp [hk,hk2];exact Ev.now _
   ·rw [decide_eq_false h3]
    simp;exact fin _ rfl
theorem iPktOk (k a p b q n : Int) (s : ByteArray) (hs : s.size ≤ 140737488355328) : impl_PktOk.f k a p b q n s = some (pktOk k a p b q n (bytesOf s)):=by
 unfold impl_PktOk.f pktOk
 rw [iAny_eq,iAny_eq,within_eq,iTextOk s hs,toList_emp]
 simp only [toList_nil]
 cases anyE a p <;> cases anyE b q <;> by_cases h3 : 0 ≤ n ∧ n ≤ 99 <;> by_cases hk : k = 1 <;> by_cases hk2 : k = 2 <;> cases textOk (bytesOf s) <;> by_cases he : bytesOf s = [] <;> simp [h3,hk,hk2,he] <;> omega
theorem of_ev (b : List Int) (hb : Code b) (p : Int) (h0 : 0 ≤ p) (hp : p ≤ 1099511627776) (hl : b.length ≤ 1000000) (l : List ByteArray) (hn : 1 ≤ l.length) :
  ∃ s,s ∈ l ∧ Ev (fun k=>spec_l6Rd_of.f k b p l) (s,p + 1):=by
 obtain ⟨r,hr,r0,r1,_⟩:=pick_ev b hb p (l.length : Int) h0 hp hl
 have r2:=r1 (by omega)
 refine ⟨rdOf ByteArray.empty l r,?_,?_⟩
 ·unfold rdOf
  rw [List.getD_eq_getElem?_getD,List.getElem?_eq_getElem (by omega)]
  exact List.getElem_mem _
 ·unfold spec_l6Rd_of.f
  exact Ev.bind hr (Ev.pos r0 (Ev.pos r2 (Ev.now _)))
theorem end_ev (b : List Int) (hb : Code b) (p : Int) (h0 : 0 ≤ p) (hp : p ≤ 1099511000000) (hl : b.length ≤ 1000000) :
  ∃ a q p',Ev (fun k=>spec_l71End.f k b p) (a,q,p') ∧ p ≤ p' ∧ p' ≤ p + 3:=by
 obtain ⟨r,hr,r0,_⟩:=pick_ev b hb p 12 h0 (by omega) hl
 have one : ∀ m : Int,∃ x,Ev (fun k=>spec_l6Rd_pick.f k b (p + 1) m) (x,p + 1 + 1):=fun m=>by
  obtain ⟨x,hx,_⟩:=pick_ev b hb (p + 1) m (by omega) (by omega) hl
  exact ⟨x,hx⟩
 have two : ∀ m : Int,∃ x,Ev (fun k=>spec_l6Rd_pick.f k b (p + 1 + 1) m) (x,p + 1 + 1 + 1):=fun m=>by
  obtain ⟨x,hx,_⟩:=pick_ev b hb (p + 1 + 1) m (by omega) (by omega) hl
  exact ⟨x,hx⟩
 have j2 : ∀ x : Bool,∃ a q p',Ev (fun k=>spec_l71End.j2 k x b (p + 1)) (a,q,p') ∧ p ≤ p' ∧ p' ≤ p + 3:=fun x=>by
  cases x with
  | true =>
   obtain ⟨x,hx⟩:=one 8
   refine ⟨_,_,_,Ev.step (f:=fun k=>(spec_l6Rd_pick.f k b (p + 1) 8).bind fun bt=>some (9,wrap64 (10 + bt.1),bt.2)) (fun k=>by simp only [spec_l71End.j2];rw [if_pos trivial]) (Ev.bind hx (Ev.now _)),?_⟩
   simp only;omega
  | false =>
   obtain ⟨x,hx⟩:=one 12
   obtain ⟨y,hy⟩:=two 20
   refine ⟨_,_,_,Ev.step (f:=fun k=>(spec_l6Rd_pick.f k b (p + 1) 12).bind fun bt=>((spec_l6Rd_pick.f k b bt.2 20).bind fun ct=>(some (bt.1,ct.1,ct.2)))) (fun k=>by simp only [spec_l71End.j2];rw [if_neg (by decide)]) (Ev.bind hx (Ev.bind hy (Ev.now _))),?_⟩
   simp only;omega
 have j1 : ∀ (v : Int) (x : Bool),∃ a q p',Ev (fun k=>spec_l71End.j1 k v x b (p + 1)) (a,q,p') ∧ p ≤ p' ∧ p' ≤ p + 3:=fun v x=>by
  cases x with
  | true =>
   obtain ⟨x,hx⟩:=one 3
   obtain ⟨y,hy⟩:=two 9
   refine ⟨_,_,_,Ev.step (f:=fun k=>(spec_l6Rd_pick.f k b (p + 1) 3).bind fun bt=>((spec_l6Rd_pick.f k b bt.2 9).bind fun ct=>(some (wrap64 (4 + bt.1),wrap64 (1 + ct.1),ct.2)))) (fun k=>by simp only [spec_l71End.j1];rw [if_pos trivial]) (Ev.bind hx (Ev.bind hy (Ev.now _))),?_⟩
   simp only;omega
  | false =>
   have s : ∀ k,spec_l71End.j1 (k + 1) v false b (p + 1) = if v = 7 then (spec_l71End.j2 k (v == 7) b (p + 1)) else (if v = 8 then (spec_l71End.j2 k (v == 8) b (p + 1)) else (if v = 9 then (spec_l71End.j2 k (v == 9) b (p + 1)) else (spec_l71End.j2 k (v == 10) b (p + 1)))):=fun k=>by simp only [spec_l71End.j1];rw [if_neg (by decide)]
   by_cases h7 : v = 7
   ·obtain ⟨a,q,p',h,h'⟩:=j2 (v == 7)
    exact ⟨a,q,p',Ev.step s (Ev.pos h7 h),h'⟩
   ·by_cases h8 : v = 8
    ·obtain ⟨a,q,p',h,h'⟩:=j2 (v == 8)
     exact ⟨a,q,p',Ev.step s (Ev.neg h7 (Ev.pos h8 h)),h'⟩
    ·by_cases h9 : v = 9
     ·obtain ⟨a,q,p',h,h'⟩:=j2 (v == 9)
      exact ⟨a,q,p',Ev.step s (Ev.neg h7 (Ev.neg h8 (Ev.pos h9 h))),h'⟩
     ·obtain ⟨a,q,p',h,h'⟩:=j2 (v == 10)
      exact ⟨a,q,p',Ev.step s (Ev.neg h7 (Ev.neg h8 (Ev.neg h9 h))),h'⟩
 have j0 : ∀ (v : Int) (x : Bool),∃ a q p',Ev (fun k=>spec_l71End.j0 k v x b (p + 1)) (a,q,p') ∧ p ≤ p' ∧ p' ≤ p + 3:=fun v x=>by
  cases x with
  | true =>
   obtain ⟨x,hx⟩:=one 3
   obtain ⟨y,hy⟩:=two 9
   refine ⟨_,_,_,Ev.step (f:=fun k=>(spec_l6Rd_pick.f k b (p + 1) 3).bind fun bt=>((spec_l6Rd_pick.f k b bt.2 9).bind fun ct=>(some (wrap64 (1 + bt.1),wrap64 (1 + ct.1),ct.2)))) (fun k=>by simp only [spec_l71End.j0];rw [if_pos trivial]) (Ev.bind hx (Ev.bind hy (Ev.now _))),?_⟩
   simp only;omega
  | false =>
   have s : ∀ k,spec_l71End.j0 (k + 1) v false b (p + 1) = if v = 4 then (spec_l71End.j1 k v (v == 4) b (p + 1)) else (if v = 5 then (spec_l71End.j1 k v (v == 5) b (p + 1)) else (spec_l71End.j1 k v (v == 6) b (p + 1))):=fun k=>by simp only [spec_l71End.j0];rw [if_neg (by decide)]
   by_cases h7 : v = 4
   ·obtain ⟨a,q,p',h,h'⟩:=j1 v (v == 4)
    exact ⟨a,q,p',Ev.step s (Ev.pos h7 h),h'⟩
   ·by_cases h8 : v = 5
    ·obtain ⟨a,q,p',h,h'⟩:=j1 v (v == 5)
     exact ⟨a,q,p',Ev.step s (Ev.neg h7 (Ev.pos h8 h)),h'⟩
    ·obtain ⟨a,q,p',h,h'⟩:=j1 v (v == 6)
     exact ⟨a,q,p',Ev.step s (Ev.neg h7 (Ev.neg h8 h)),h'⟩
 unfold spec_l71End.f
 by_cases c0 : r = 0
 ·obtain ⟨a,q,p',h,h'⟩:=j0 r (r == 0)
  exact ⟨a,q,p',Ev.bind hr (Ev.pos c0 h),h'⟩
 ·by_cases c1 : r = 1
  ·obtain ⟨a,q,p',h,h'⟩:=j0 r (r == 1)
   exact ⟨a,q,p',Ev.bind hr (Ev.neg c0 (Ev.pos c1 h)),h'⟩
  ·by_cases c2 : r = 2
   ·obtain ⟨a,q,p',h,h'⟩:=j0 r (r == 2)
    exact ⟨a,q,p',Ev.bind hr (Ev.neg c0 (Ev.neg c1 (Ev.pos c2 h))),h'⟩
   ·obtain ⟨a,q,p',h,h'⟩:=j0 r (r == 3)
    exact ⟨a,q,p',Ev.bind hr (Ev.neg c0 (Ev.neg c1 (Ev.neg c2 h))),h'⟩
theorem bytesOf_nums (l : List Int) (h : Code l) : bytesOf (strOfNums l) = l:=by
 unfold bytesOf
 rw [strOfNums_data,List.map_map]
 conv=>rhs;rw [← List.map_id l]
 apply List.map_congr_left
 intro x hx
 have:=h x hx
 show ((UInt8.ofNat x.toNat).toNat : Int) = x
 rw [UInt8.toNat_ofNat']
 omega
theorem dec_ev (n : Int) (h0 : 0 ≤ n) (h1 : n ≤ 99) : ∃ s,Ev (fun k=>spec_l6Dec.f k n) s ∧ bytesOf s = dec n:=by
 have base : ∀ m : Int,0 ≤ m → m < 10 → Ev (fun k=>spec_l6Dec.f k m) (strOfNums [48 + m]):=fun m m0 m1=>by
  refine Ev.step (f:=fun _=>some (strOfNums [48 + m])) (fun k=>?_) (Ev.now _)
  simp only [spec_l6Dec.f]
  rw [if_neg (by omega),if_neg (by omega),if_pos m1,wrap_id (by omega) (by omega),Int.emod_eq_of_lt (by omega) (by omega)]
 by_cases h : n < 10
 ·refine ⟨_,base n h0 h,?_⟩
  rw [bytesOf_nums _ (by intro x hx;simp at hx;omega)]
  unfold dec;rw [if_pos h]
 ·have e1 : Int.tdiv n 10 = n / 10:=Int.tdiv_eq_ediv_of_nonneg h0
  have e2 : Int.tmod n 10 = n % 10:=Int.tmod_eq_emod_of_nonneg h0
  refine ⟨strOfNums [48 + n / 10] ++ strOfNums [48 + n % 10],?_,?_⟩
  ·refine Ev.step (f:=fun k=>(spec_l6Dec.f k (n / 10)).bind fun t=>((some (([48 + n % 10] : List Int) : List Int)).bind fun y=>(if t.size + (strOfNums y).size ≤ 9223372036854775807 then (some (t ++ (strOfNums y))) else (none)))) (fun k=>?_) ?_
   ·simp only [spec_l6Dec.f]
    rw [if_neg (by omega),if_neg (by omega),if_neg h,e1,e2,wrap_id (n:=n / 10) (by omega) (by omega),wrap_id (n:=48 + n % 10) (by omega) (by omega),Int.emod_eq_of_lt (a:=48 + n % 10) (by omega) (by omega)]
   ·refine Ev.bind (base (n / 10) (by omega) (by omega)) (Ev.call rfl (Ev.pos ?_ (Ev.now _)))
    rw [strOfNums_size,strOfNums_size];simp
  ·rw [bytesOf_append,bytesOf_nums _ (by intro x hx;simp at hx;omega),bytesOf_nums _ (by intro x hx;simp at hx;omega)]
   unfold dec;rw [if_neg h];rfl
theorem dec_len (n : Int) : (dec n).length ≤ 2:=by unfold dec;split <;> simp
/-- The reference's text of an end. -/
theorem sEndText (a p : Int) : ∃ s,Ev (fun k=>spec_EndText.f k a p) s ∧ bytesOf s = endText a p:=by
 unfold spec_EndText.f
 cases h : anyE a p with
 | false =>
  refine ⟨⟨#[]⟩,Ev.call (sAny_eq a p) (Ev.neg (by rw [h];decide) (Ev.now _)),?_⟩
  rw [endText_none a p h];rfl
 | true =>
  have hr : (1 ≤ a ∧ a ≤ 9) ∧ 1 ≤ p ∧ p ≤ 17:=by rcases (anyE_iff a p).1 h with h|h <;> omega
  obtain ⟨s,hs,es⟩:=dec_ev a (by omega) (by omega)
  obtain ⟨t,ht,et⟩:=dec_ev p (by omega) (by omega)
  have l1 : s.size ≤ 2:=by rw [← bytesOf_size,es];exact dec_len a
  have l2 : t.size ≤ 2:=by rw [← bytesOf_size,et];exact dec_len p
  refine ⟨(s ++ (⟨#[58]⟩ : ByteArray)) ++ t,Ev.call (sAny_eq a p) (Ev.pos h (Ev.bind hs (Ev.pos (by omega) (Ev.bind ht (Ev.pos (by omega) (Ev.now _)))))),?_⟩
  rw [bytesOf_append,bytesOf_append,es,et]
  unfold endText
  rw [if_pos h,List.append_assoc];rfl
theorem endText_len (a p : Int) : (endText a p).length ≤ 4:=by
 cases h : anyE a p with
 | false=>rw [endText_none a p h];simp
 | true =>
  rcases (anyE_iff a p).1 h with h2|⟨rfl,h2⟩
  ·rw [endText_host a p h2];simp
  ·rw [endText_door p h2];simp
theorem text_loop (b : List Int) (hb : Code b) (hl : b.length ≤ 1000000) (most : Int) (hm : 0 ≤ most) (hm2 : most ≤ 1000) : ∀ (n : Nat) (s : ByteArray) (p : Int),0 ≤ p → p + 5 * n ≤ 1099511000000 → (s.size : Int) ≤ most →
  ∃ t p',Ev (fun k=>spec_l71Text.l0 k most s (n : Int) b p) (t,p') ∧ (t.size : Int) ≤ most ∧ p ≤ p' ∧ p' ≤ p + 5 * n
 | 0,s,p,h0,hp,hs=>⟨s,p,Ev.step (f:=fun _=>some (s,p)) (fun k=>by simp only [spec_l71Text.l0];rw [if_neg (by omega)]) (Ev.now _),hs,by omega,by omega⟩
 | n + 1,s,p,h0,hp,hs=>by
  have hw : wrap64 (((n + 1 : Nat) : Int) - 1) = (n : Int):=by rw [wrap_id (by omega) (by omega)];omega
  obtain ⟨x,hx,ex⟩:=of_ev b hb p h0 (by omega) hl [(⟨#[97]⟩ : ByteArray),(⟨#[98,99]⟩ : ByteArray),(⟨#[64]⟩ : ByteArray),(⟨#[64,49]⟩ : ByteArray),(⟨#[59]⟩ : ByteArray),(⟨#[58,53]⟩ : ByteArray),(⟨#[120,49]⟩ : ByteArray),(⟨#[64,64]⟩ : ByteArray),(⟨#[64,49,58]⟩ : ByteArray),(⟨#[55]⟩ : ByteArray)] (by simp)
  have hxs : x.size ≤ 3:=by
   simp only [List.mem_cons,List.not_mem_nil,or_false] at hx
   rcases hx with rfl|rfl|rfl|rfl|rfl|rfl|rfl|rfl|rfl|rfl <;> decide
  obtain ⟨r,er,r0,_⟩:=pick_ev b hb (p + 1) 5 (by omega) (by omega) hl
  by_cases hr : r < 3
  ·obtain ⟨a,q,p1,he,hp1,hp2⟩:=end_ev b hb (p + 1 + 1) (by omega) (by omega) hl
   obtain ⟨u,hu,eu⟩:=sEndText a q
   have lu : u.size ≤ 4:=by rw [← bytesOf_size,eu];exact endText_len a q
   by_cases hc : wrap64 ((s.size : Int) + (1 + (u.size : Int) + 1)) ≤ most
   ·have hc2 : (s.size : Int) + (1 + (u.size : Int) + 1) ≤ most:=by rwa [wrap_id (by omega) (by omega)] at hc
    obtain ⟨t,p',ht,h1,h2,h3⟩:=text_loop b hb hl most hm hm2 n (s ++ (((⟨#[64]⟩ : ByteArray) ++ u) ++ (⟨#[59]⟩ : ByteArray))) p1 (by omega) (by omega) (by
     have e1 : (⟨#[64]⟩ : ByteArray).size = 1:=rfl
     have e2 : (⟨#[59]⟩ : ByteArray).size = 1:=rfl
     rw [ByteArray.size_append,ByteArray.size_append,ByteArray.size_append,e1,e2];omega)
    refine ⟨t,p',Ev.step (f:=fun k=>_) (fun k=>by simp only [spec_l71Text.l0];rw [if_pos (by omega),hw]) ?_,h1,by omega,by omega⟩
    refine Ev.bind ex ?_
    refine Ev.bind er ?_
    refine Ev.pos hr ?_
    refine Ev.bind he ?_
    refine Ev.bind hu ?_
    refine Ev.pos (by omega) ?_
    refine Ev.pos (by omega) ?_
    refine Ev.pos hc ?_
    refine Ev.pos (by omega) ?_
    exact ht
   ·obtain ⟨t,p',ht,h1,h2,h3⟩:=text_loop b hb hl most hm hm2 n s p1 (by omega) (by omega) hs
    refine ⟨t,p',Ev.step (f:=fun k=>_) (fun k=>by simp only [spec_l71Text.l0];rw [if_pos (by omega),hw]) ?_,h1,by omega,by omega⟩
    refine Ev.bind ex ?_
    refine Ev.bind er ?_
    refine Ev.pos hr ?_
    refine Ev.bind he ?_
    refine Ev.bind hu ?_
    refine Ev.pos (by omega) ?_
    refine Ev.pos (by omega) ?_
    refine Ev.neg hc ?_
    exact ht
  ·by_cases hc : wrap64 ((s.size : Int) + (x.size : Int)) ≤ most
   ·have hc2 : (s.size : Int) + (x.size : Int) ≤ most:=by rwa [wrap_id (by omega) (by omega)] at hc
    obtain ⟨t,p',ht,h1,h2,h3⟩:=text_loop b hb hl most hm hm2 n (s ++ x) (p + 1 + 1) (by omega) (by omega) (by rw [ByteArray.size_append];omega)
    refine ⟨t,p',Ev.step (f:=fun k=>_) (fun k=>by simp only [spec_l71Text.l0];rw [if_pos (by omega),hw]) ?_,h1,by omega,by omega⟩
    refine Ev.bind ex ?_
    refine Ev.bind er ?_
    refine Ev.neg hr ?_
    refine Ev.pos hc ?_
    refine Ev.pos (show s.size + x.size ≤ 9223372036854775807 from by omega) ?_
    exact ht
   ·obtain ⟨t,p',ht,h1,h2,h3⟩:=text_loop b hb hl most hm hm2 n s (p + 1 + 1) (by omega) (by omega) hs
    refine ⟨t,p',Ev.step (f:=fun k=>_) (fun k=>by simp only [spec_l71Text.l0];rw [if_pos (by omega),hw]) ?_,h1,by omega,by omega⟩
    refine Ev.bind ex ?_
    refine Ev.bind er ?_
    refine Ev.neg hr ?_
    refine Ev.neg hc ?_
    exact ht
theorem text_ev (b : List Int) (hb : Code b) (p : Int) (h0 : 0 ≤ p) (hp : p ≤ 1099510000000) (hl : b.length ≤ 1000000) (most : Int) (hm : 0 ≤ most) (hm2 : most ≤ 1000) :
  ∃ t p',Ev (fun k=>spec_l71Text.f k b p most) (t,p') ∧ (t.size : Int) ≤ most ∧ p ≤ p' ∧ p' ≤ p + 31:=by
 obtain ⟨r,hr,r0,r1,_⟩:=pick_ev b hb p 7 h0 (by omega) hl
 have r2:=r1 (by omega)
 obtain ⟨n,rfl⟩:=Int.eq_ofNat_of_zero_le r0
 obtain ⟨t,p',ht,h1,h2,h3⟩:=text_loop b hb hl most hm hm2 n ⟨#[]⟩ (p + 1) (by omega) (by omega) (by show ((0 : Nat) : Int) ≤ most;omega)
 exact ⟨t,p',Ev.bind hr ht,h1,by omega,by omega⟩
theorem pktJ_ev (b : List Int) (hb : Code b) (p : Int) (h0 : 0 ≤ p) (hp : p ≤ 1099500000000) (hl : b.length ≤ 1000000) (k a q a' q' n : Int) (s : ByteArray) (hs : s.size ≤ 100) :
  ∃ k2 n2 s2 p',Ev (fun r=>spec_l71Pkt.j0 r b p k a q a' q' n s) (k2,a,q,a',q',n2,s2,p') ∧ s2.size ≤ 100 ∧ p ≤ p' ∧ p' ≤ p + 2:=by
 obtain ⟨r,hr,r0,_⟩:=pick_ev b hb p 20 h0 (by omega) hl
 have st : ∀ f : Nat → Option (Int × Int × Int × Int × Int × Int × ByteArray × Int),∀ z,(∀ m,spec_l71Pkt.j0 (m + 1) b p k a q a' q' n s = f m) → Ev f z → Ev (fun r=>spec_l71Pkt.j0 r b p k a q a' q' n s) z:=fun f z h1 h2=>Ev.step h1 h2
 by_cases c0 : r = 0
 ·obtain ⟨x,hx,_⟩:=pick_ev b hb (p + 1) 4 (by omega) (by omega) hl
  refine ⟨x,n,s,p + 1 + 1,?_,hs,by omega,by omega⟩
  refine st _ _ (fun m=>by simp only [spec_l71Pkt.j0];rfl) ?_
  refine Ev.bind hr ?_
  refine Ev.pos c0 ?_
  exact Ev.bind hx (Ev.now _)
 ·by_cases c1 : r = 1
  ·obtain ⟨x,hx,x0,x1,_⟩:=pick_ev b hb (p + 1) 3 (by omega) (by omega) hl
   have x2:=x1 (by omega)
   refine ⟨k,rd [(-1),99,100] x,s,p + 1 + 1,?_,hs,by omega,by omega⟩
   refine st _ _ (fun m=>by simp only [spec_l71Pkt.j0];rfl) ?_
   refine Ev.bind hr ?_
   refine Ev.neg c0 ?_
   refine Ev.pos c1 ?_
   refine Ev.call rfl ?_
   refine Ev.bind hx ?_
   refine Ev.pos x0 ?_
   refine Ev.pos (by simpa using x2) ?_
   exact Ev.now _
  ·by_cases c2 : r = 2
   ·obtain ⟨x,hx,ex⟩:=of_ev b hb (p + 1) (by omega) (by omega) hl [(⟨#[]⟩ : ByteArray),(⟨#[97,32,98]⟩ : ByteArray),(⟨#[120]⟩ : ByteArray)] (by simp)
    refine ⟨k,n,x,p + 1 + 1,?_,?_,by omega,by omega⟩
    ·refine st _ _ (fun m=>by simp only [spec_l71Pkt.j0];rfl) ?_
     refine Ev.bind hr ?_
     refine Ev.neg c0 ?_
     refine Ev.neg c1 ?_
     refine Ev.pos c2 ?_
     exact Ev.bind ex (Ev.now _)
    ·simp only [List.mem_cons,List.not_mem_nil,or_false] at hx
     rcases hx with rfl|rfl|rfl <;> decide
   ·refine ⟨k,n,s,p + 1,?_,hs,by omega,by omega⟩
    refine st _ _ (fun m=>by simp only [spec_l71Pkt.j0];rfl) ?_
    refine Ev.bind hr ?_
    refine Ev.neg c0 ?_
    refine Ev.neg c1 ?_
    refine Ev.neg c2 ?_
    exact Ev.now _
theorem pkt_ev (b : List Int) (hb : Code b) (p : Int) (h0 : 0 ≤ p) (hp : p ≤ 1099400000000) (hl : b.length ≤ 1000000) :
  ∃ k a q a' q' n s p',Ev (fun r=>spec_l71Pkt.f r b p) (k,a,q,a',q',n,s,p') ∧ s.size ≤ 100 ∧ p ≤ p' ∧ p' ≤ p + 50:=by
 obtain ⟨r,hr,r0,_⟩:=pick_ev b hb p 2 h0 (by omega) hl
 obtain ⟨a,q,p1,e1,h1,h1'⟩:=end_ev b hb (p + 1) (by omega) (by omega) hl
 obtain ⟨a',q',p2,e2,h2,h2'⟩:=end_ev b hb p1 (by omega) (by omega) hl
 obtain ⟨n,hn,n0,_⟩:=pick_ev b hb p2 20 (by omega) (by omega) hl
 by_cases c : wrap64 (1 + r) = 1
 ·obtain ⟨t,p3,ht,hs,h3,h3'⟩:=text_ev b hb (p2 + 1) (by omega) (by omega) hl 16 (by omega) (by omega)
  have ea : (⟨#[97]⟩ : ByteArray).size = 1:=rfl
  obtain ⟨k2,n2,s2,p',hj,g1,g2,g3⟩:=pktJ_ev b hb p3 (by omega) (by omega) hl (wrap64 (1 + r)) a q a' q' n (t ++ (⟨#[97]⟩ : ByteArray)) (by rw [ByteArray.size_append,ea];omega)
  refine ⟨k2,a,q,a',q',n2,s2,p',?_,g1,by omega,by omega⟩
  unfold spec_l71Pkt.f
  refine Ev.bind hr ?_
  refine Ev.bind e1 ?_
  refine Ev.bind e2 ?_
  refine Ev.bind hn ?_
  refine Ev.pos c ?_
  refine Ev.bind ht ?_
  refine Ev.pos (show t.size + 1 ≤ 9223372036854775807 from by omega) ?_
  exact hj
 ·obtain ⟨k2,n2,s2,p',hj,g1,g2,g3⟩:=pktJ_ev b hb (p2 + 1) (by omega) (by omega) hl (wrap64 (1 + r)) a q a' q' n ⟨#[]⟩ (by decide)
  refine ⟨k2,a,q,a',q',n2,s2,p',?_,g1,by omega,by omega⟩
  unfold spec_l71Pkt.f
  refine Ev.bind hr ?_
  refine Ev.bind e1 ?_
  refine Ev.bind e2 ?_
  refine Ev.bind hn ?_
  refine Ev.neg c ?_
  exact hj
theorem decDigits_dec : ∀ n : Nat,n < 100 → (Lib.decDigits n).map (fun b=>(b.toNat : Int)) = dec (n : Int):=by decide +kernel
theorem bytesOf_list (l : List UInt8) : bytesOf (⟨l.toArray⟩ : ByteArray) = l.map (fun b=>(b.toNat : Int)):=by
 simp [bytesOf]
theorem itoa_eq (a : Int) (h : 0 ≤ a ∧ a ≤ 99) : ∃ s,strconv_Itoa.f a = some s ∧ bytesOf s = dec a:=by
 obtain ⟨n,rfl⟩:=Int.eq_ofNat_of_zero_le h.1
 refine ⟨_,by unfold strconv_Itoa.f;rw [if_pos h],?_⟩
 rw [bytesOf_list]
 exact decDigits_dec n (by omega)
theorem dec_len2 (n : Int) : (dec n).length ≤ 2:=by unfold dec;split <;> simp
/-- EndText answers, with the end's text. -/
theorem iEndText (a p : Int) : ∃ s,impl_EndText.f a p = some s ∧ bytesOf s = endText a p:=by
 unfold impl_EndText.f
 rw [iAny_eq]
 cases hc : anyE a p with
 | false =>
  refine ⟨⟨#[]⟩,by simp,?_⟩
  rw [endText_none a p hc];rfl
 | true =>
  have hr:=(anyE_iff a p).1 hc
  obtain ⟨s,hs,hsb⟩:=itoa_eq a (by omega)
  obtain ⟨t,ht,htb⟩:=itoa_eq p (by omega)
  have ls : s.size ≤ 2:=by have:=congrArg List.length hsb;rw [bytesOf_length] at this;have:=dec_len2 a;omega
  have lt : t.size ≤ 2:=by have:=congrArg List.length htb;rw [bytesOf_length] at this;have:=dec_len2 p;omega
  refine ⟨(s ++ (⟨#[58]⟩ : ByteArray)) ++ t,?_,?_⟩
  ·simp only [Option.bind_some,if_true,hs,ht]
   rw [if_pos (by omega),if_pos (by omega)]
  ·have e1 : bytesOf (⟨#[58]⟩ : ByteArray) = [58]:=rfl
   rw [bytesOf_append,bytesOf_append,hsb,htb,e1,endText,if_pos hc]
   simp
theorem beq_bytes (s t : ByteArray) : (s.toList == t.toList) = (bytesOf s == bytesOf t):=by
 rw [Bool.eq_iff_iff,beq_iff_eq,beq_iff_eq,bytesOf_toList]
theorem join4 (a b c d : ByteArray) (h : a.size + b.size + c.size + d.size ≤ 1000) : ∃ t,strings_Join.f [a,b,c,d] (⟨#[32]⟩ : ByteArray) = some t ∧ bytesOf t = join32 [bytesOf a,bytesOf b,bytesOf c,bytesOf d]:=by
 have e : Lib.join ([a,b,c,d].map (·.data.toList)) (⟨#[32]⟩ : ByteArray).data.toList = a.data.toList ++ 32 :: (b.data.toList ++ 32 :: (c.data.toList ++ 32 :: d.data.toList)):=by
  simp [Lib.join,List.intercalate,List.intersperse]
 have la : a.data.toList.length = a.size:=by rw [Array.length_toList];rfl
 have lb : b.data.toList.length = b.size:=by rw [Array.length_toList];rfl
 have lc : c.data.toList.length = c.size:=by rw [Array.length_toList];rfl
 have ld : d.data.toList.length = d.size:=by rw [Array.length_toList];rfl
 refine ⟨⟨(Lib.join ([a,b,c,d].map (·.data.toList)) (⟨#[32]⟩ : ByteArray).data.toList).toArray⟩,?_,?_⟩
 ·unfold strings_Join.f
  rw [if_pos ⟨by rw [e];simp only [List.length_append,List.length_cons];omega,by simp⟩]
 ·rw [bytesOf_list,e]
  simp [join32,bytesOf]
theorem join5 (a b c d x : ByteArray) (h : a.size + b.size + c.size + d.size + x.size ≤ 1000) : ∃ t,strings_Join.f [a,b,c,d,x] (⟨#[32]⟩ : ByteArray) = some t ∧ bytesOf t = join32 [bytesOf a,bytesOf b,bytesOf c,bytesOf d,bytesOf x]:=by
 have e : Lib.join ([a,b,c,d,x].map (·.data.toList)) (⟨#[32]⟩ : ByteArray).data.toList = a.data.toList ++ 32 :: (b.data.toList ++ 32 :: (c.data.toList ++ 32 :: (d.data.toList ++ 32 :: x.data.toList))):=by
  simp [Lib.join,List.intercalate,List.intersperse]
 have la : a.data.toList.length = a.size:=by rw [Array.length_toList];rfl
 have lb : b.data.toList.length = b.size:=by rw [Array.length_toList];rfl
 have lc : c.data.toList.length = c.size:=by rw [Array.length_toList];rfl
 have ld : d.data.toList.length = d.size:=by rw [Array.length_toList];rfl
 have lx : x.data.toList.length = x.size:=by rw [Array.length_toList];rfl
 refine ⟨⟨(Lib.join ([a,b,c,d,x].map (·.data.toList)) (⟨#[32]⟩ : ByteArray).data.toList).toArray⟩,?_,?_⟩
 ·unfold strings_Join.f
  rw [if_pos ⟨by rw [e];simp only [List.length_append,List.length_cons];omega,by simp⟩]
 ·rw [bytesOf_list,e]
  simp [join32,bytesOf]
theorem iPktText (k a p b q n : Int) (s : ByteArray) (hs : s.size ≤ 140737488355328) : ∃ t,impl_PktText.f k a p b q n s = some t ∧ bytesOf t = pktText k a p b q n (bytesOf s):=by
 unfold impl_PktText.f
 rw [iPktOk k a p b q n s hs]
 cases h : pktOk k a p b q n (bytesOf s) with
 | false=>exact ⟨⟨#[]⟩,by simp,by rw [(pktText_nil _ _ _ _ _ _ _).2 h];rfl⟩
 | true =>
  obtain ⟨⟨h1,h2⟩,h3,h4⟩:=(pktOk_iff _ _ _ _ _ _ _).1 h
  obtain ⟨x,hx,ex⟩:=iEndText a p
  obtain ⟨y,hy,ey⟩:=iEndText b q
  obtain ⟨z,hz,ez⟩:=itoa_eq n h3
  have lx:=bytesOf_length x
  have ly:=bytesOf_length y
  have lz:=bytesOf_length z
  rw [ex] at lx;rw [ey] at ly;rw [ez] at lz
  have:=endText_len a p
  have:=endText_len b q
  have:=dec_len n
  have e3 : bytesOf (⟨#[97,99,107]⟩ : ByteArray) = [97,99,107]:=rfl
  have e4 : bytesOf (⟨#[100,97,116,97]⟩ : ByteArray) = [100,97,116,97]:=rfl
  have s3 : (⟨#[97,99,107]⟩ : ByteArray).size = 3:=rfl
  have s4 : (⟨#[100,97,116,97]⟩ : ByteArray).size = 4:=rfl
  simp only [Option.bind_some,if_true,hx,hy,hz]
  unfold pktText pktWords
  rw [if_pos h]
  rcases h4 with ⟨rfl,ht,hn⟩|⟨rfl,ht⟩
  ·have hl:=bytesOf_length s
   have h40 : (bytesOf s).length ≤ 40:=by simp only [textOk,Bool.and_eq_true,decide_eq_true_eq] at ht;exact ht.2
   obtain ⟨t,ht1,ht2⟩:=join5 (⟨#[100,97,116,97]⟩ : ByteArray) x y z s (by omega)
   refine ⟨t,?_,?_⟩
   ·rw [if_pos rfl,if_pos (by simp)]
    have e : ([(⟨#[97,99,107]⟩ : ByteArray),x,y,z].set (0 : Int).toNat (⟨#[100,97,116,97]⟩ : ByteArray)) = [(⟨#[100,97,116,97]⟩ : ByteArray),x,y,z]:=rfl
    simp only [e]
    rw [if_pos (by simp)]
    have e2 : [(⟨#[100,97,116,97]⟩ : ByteArray),x,y,z] ++ [s] = [(⟨#[100,97,116,97]⟩ : ByteArray),x,y,z,s]:=rfl
    rw [e2,ht1];rfl
   ·rw [ht2,ex,ey,ez,e4];rfl
  ·obtain ⟨t,ht1,ht2⟩:=join4 (⟨#[97,99,107]⟩ : ByteArray) x y z (by omega)
   refine ⟨t,?_,?_⟩
   ·rw [if_neg (by decide),ht1];rfl
   ·rw [ht2,ex,ey,ez,e3];rfl
theorem sPktText (k a p b q n : Int) (s : ByteArray) (hs : s.size ≤ 140737488355328) : ∃ t,Ev (fun r=>spec_PktText.f r k a p b q n s) t ∧ bytesOf t = pktText k a p b q n (bytesOf s):=by
 unfold spec_PktText.f
 cases h : pktOk k a p b q n (bytesOf s) with
 | false=>exact ⟨⟨#[]⟩,Ev.bind (sPktOk k a p b q n s (by omega)) (Ev.neg (by rw [h];decide) (Ev.now _)),by rw [(pktText_nil _ _ _ _ _ _ _).2 h];rfl⟩
 | true =>
  obtain ⟨⟨h1,h2⟩,h3,h4⟩:=(pktOk_iff _ _ _ _ _ _ _).1 h
  obtain ⟨x,hx,ex⟩:=sEndText a p
  obtain ⟨y,hy,ey⟩:=sEndText b q
  obtain ⟨z,hz,ez⟩:=dec_ev n h3.1 h3.2
  have lx:=bytesOf_length x
  have ly:=bytesOf_length y
  have lz:=bytesOf_length z
  rw [ex] at lx;rw [ey] at ly;rw [ez] at lz
  have:=endText_len a p
  have:=endText_len b q
  have:=dec_len n
  unfold pktText pktWords
  rw [if_pos h]
  rcases h4 with ⟨rfl,ht,hn⟩|⟨rfl,ht⟩
  ·have hl:=bytesOf_length s
   have h40 : (bytesOf s).length ≤ 40:=by simp only [textOk,Bool.and_eq_true,decide_eq_true_eq] at ht;exact ht.2
   refine ⟨(((⟨#[100,97,116,97,32]⟩ : ByteArray) ++ ((((x ++ (⟨#[32]⟩ : ByteArray)) ++ y) ++ (⟨#[32]⟩ : ByteArray)) ++ z)) ++ (⟨#[32]⟩ : ByteArray)) ++ s,?_,?_⟩
   ·refine Ev.bind (sPktOk 1 a p b q n s (by omega)) (Ev.pos h ?_)
    refine Ev.bind hx (Ev.pos (by omega) (Ev.bind hy (Ev.pos (by omega) (Ev.pos (by omega) (Ev.bind hz (Ev.pos (by omega) ?_))))))
    refine Ev.neg (by decide) ?_
    refine Ev.pos (show 5 + (x.size + 1 + y.size + 1 + z.size) ≤ 9223372036854775807 from by omega) ?_
    refine Ev.pos (show 5 + (x.size + 1 + y.size + 1 + z.size) + 1 ≤ 9223372036854775807 from by omega) ?_
    refine Ev.pos (show 5 + (x.size + 1 + y.size + 1 + z.size) + 1 + s.size ≤ 9223372036854775807 from by omega) ?_
    exact Ev.now _
   ·have e5 : bytesOf (⟨#[100,97,116,97,32]⟩ : ByteArray) = [100,97,116,97,32]:=rfl
    have e1 : bytesOf (⟨#[32]⟩ : ByteArray) = [32]:=rfl
    simp only [bytesOf_append,ex,ey,ez,e5,e1]
    simp [join32]
  ·refine ⟨(⟨#[97,99,107,32]⟩ : ByteArray) ++ ((((x ++ (⟨#[32]⟩ : ByteArray)) ++ y) ++ (⟨#[32]⟩ : ByteArray)) ++ z),?_,?_⟩
   ·refine Ev.bind (sPktOk 2 a p b q n s (by omega)) (Ev.pos h ?_)
    refine Ev.bind hx (Ev.pos (by omega) (Ev.bind hy (Ev.pos (by omega) (Ev.pos (by omega) (Ev.bind hz (Ev.pos (by omega) ?_))))))
    refine Ev.pos rfl ?_
    refine Ev.pos (show 4 + (x.size + 1 + y.size + 1 + z.size) ≤ 9223372036854775807 from by omega) ?_
    exact Ev.now _
   ·have e5 : bytesOf (⟨#[97,99,107,32]⟩ : ByteArray) = [97,99,107,32]:=rfl
    have e1 : bytesOf (⟨#[32]⟩ : ByteArray) = [32]:=rfl
    simp only [bytesOf_append,ex,ey,ez,e5,e1]
    simp [join32]
theorem indexByte_range (l : List UInt8) (c : UInt8) : -1 ≤ Lib.indexByte l c ∧ Lib.indexByte l c < l.length:=by
 induction l with
 | nil=>simp [Lib.indexByte]
 | cons b l ih =>
  unfold Lib.indexByte
  split
  ·simp
  ·split
   ·simp only [List.length_cons];omega
   ·simp only [List.length_cons];omega
theorem cut_some (s : ByteArray) (c : UInt8) (hs : s.size ≤ 140737488355328) : ∃ x y b,strings_Cut.f s (⟨#[c]⟩ : ByteArray) = some (x,y,b) ∧ x.size ≤ s.size ∧ y.size ≤ s.size:=by
 have hr:=indexByte_range s.data.toList c
 have hl : s.data.toList.length = s.size:=by rw [Array.length_toList];rfl
 have e1 : stringslite_Index.f s (⟨#[c]⟩ : ByteArray) = some (Lib.indexByte s.data.toList c):=by
  unfold stringslite_Index.f;rw [if_pos (show (⟨#[c]⟩ : ByteArray).size = 1 from rfl)];rfl
 have e2 : ((⟨#[c]⟩ : ByteArray).size : Int) = 1:=rfl
 unfold strings_Cut.f stringslite_Cut.f
 rw [e1,e2]
 simp only [Option.bind_some]
 generalize Lib.indexByte s.data.toList c = i at hr
 by_cases h : i ≥ 0
 ·have hw : wrap64 (i + 1) = i + 1:=wrap_id (by omega) (by omega)
  rw [hw,if_pos h,if_pos h,if_pos (by omega),if_pos (by omega),if_pos (by omega)]
  exact ⟨_,_,_,rfl,by rw [ByteArray.size_extract];omega,by rw [ByteArray.size_extract];omega⟩
 ·rw [if_neg h]
  exact ⟨_,_,_,rfl,Nat.le_refl _,by show 0 ≤ s.size;omega⟩
theorem atoi_some (s : ByteArray) (hs : s.size ≤ 140737488355328) : ∃ v e,strconv_Atoi.f s = some (v,e):=by
 unfold strconv_Atoi.f
 rw [if_pos (by omega)]
 cases Lib.atoiAll s.data.toList <;> exact ⟨_,_,rfl⟩
/-- Of an end's text the end; else none, if any answer. -/
theorem iEndRead_none (s : ByteArray) (hs : s.size ≤ 140737488355328) : impl_EndRead.f s = some (0,0,false) ∨ ∃ a p,anyE a p = true ∧ endText a p = bytesOf s ∧ impl_EndRead.f s = some (a,p,true):=by
 obtain ⟨x,y,b,e1,hx,hy⟩:=cut_some s 58 hs
 obtain ⟨v,e,e2⟩:=atoi_some x (by omega)
 obtain ⟨u,f,e3⟩:=atoi_some y (by omega)
 unfold impl_EndRead.f
 rw [e1]
 simp only [Option.bind_some,e2,e3]
 cases e with
 | some _=>left;rfl
 | none =>
  cases f with
  | some _=>left;rfl
  | none =>
   simp only [Option.isNone_none,if_true,iAny_eq,Option.bind_some]
   cases ha : anyE v u with
   | false=>left;rfl
   | true =>
    obtain ⟨t,ht,htb⟩:=iEndText v u
    simp only [if_true,ht,Option.bind_some]
    by_cases hc : t.toList = s.toList
    ·rw [if_pos hc]
     exact .inr ⟨v,u,ha,by rw [← htb];exact bytesOf_toList.1 hc,rfl⟩
    ·rw [if_neg hc];left;rfl
theorem indexByte_take (l : List UInt8) (c : UInt8) : Lib.indexByte l c = if c ∈ l then ((l.takeWhile (fun x=>x != c)).length : Int) else -1:=by
 induction l with
 | nil=>simp [Lib.indexByte]
 | cons b l ih =>
  unfold Lib.indexByte
  by_cases h : b = c
  ·subst h;simp
  ·have h1 : (b == c) = false:=beq_eq_false_iff_ne.2 h
   have h2 : (b != c) = true:=bne_iff_ne.2 h
   have h3 : ¬ c = b:=fun e=>h e.symm
   rw [h1,ih]
   simp only [List.takeWhile_cons,h2,List.mem_cons,h3,false_or,if_true,Bool.false_eq_true,if_false]
   by_cases hm : c ∈ l
   ·rw [if_pos hm,if_pos hm]
    have : ¬ (((l.takeWhile (fun x=>x != c)).length : Int) == -1) = true:=by rw [beq_iff_eq];omega
    rw [if_neg this];simp
   ·rw [if_neg hm,if_neg hm];rfl
theorem bytesOf_data (s : ByteArray) : bytesOf s = s.data.toList.map (fun b=>(b.toNat : Int)):=by
 simp [bytesOf]
def lit (l : List Int) : ByteArray:=⟨(l.map fun x=>UInt8.ofNat x.toNat).toArray⟩
def goodCut (a p : Nat) : Bool:=match strings_Cut.f (lit (endText a p)) (⟨#[58]⟩ : ByteArray) with
 | some (x,y,_)=>(match strconv_Atoi.f x,strconv_Atoi.f y with | some (v,none),some (u,none)=>decide (v = a ∧ u = p) | _,_=>false)
 | none=>false
theorem good_all : ∀ a ∈ List.range 10,∀ p ∈ List.range 18,anyE a p = true → goodCut a p = true:=by decide +kernel
theorem lit_all : ∀ a ∈ List.range 10,∀ p ∈ List.range 18,anyE a p = true → bytesOf (lit (endText a p)) = endText a p:=by decide +kernel
theorem iEndRead_some (s : ByteArray) (a p : Int) (h : anyE a p = true) (hs : bytesOf s = endText a p) : impl_EndRead.f s = some (a,p,true):=by
 have hr:=(anyE_iff a p).1 h
 obtain ⟨n,rfl⟩:=Int.eq_ofNat_of_zero_le (show 0 ≤ a by omega)
 obtain ⟨m,rfl⟩:=Int.eq_ofNat_of_zero_le (show 0 ≤ p by omega)
 have g:=good_all n (List.mem_range.2 (by omega)) m (List.mem_range.2 (by omega)) h
 have e:=lit_all n (List.mem_range.2 (by omega)) m (List.mem_range.2 (by omega)) h
 obtain rfl : s = lit (endText n m):=bytesOf_inj (hs.trans e.symm)
 unfold goodCut at g
 unfold impl_EndRead.f
 cases e1 : strings_Cut.f (lit (endText n m)) (⟨#[58]⟩ : ByteArray) with
 | none=>rw [e1] at g;cases g
 | some r =>
  obtain ⟨x,y,b⟩:=r
  rw [e1] at g
  simp only [Option.bind_some]
  cases e2 : strconv_Atoi.f x with
  | none=>simp only [e2] at g;cases g
  | some r2 =>
   obtain ⟨v,f⟩:=r2
   cases e3 : strconv_Atoi.f y with
   | none=>simp only [e2,e3] at g;cases f <;> cases g
   | some r3 =>
    obtain ⟨u,f2⟩:=r3
    simp only [e2,e3] at g
    cases f with
    | some _=>cases g
    | none =>
     cases f2 with
     | some _=>cases g
     | none =>
      obtain ⟨rfl,rfl⟩:=of_decide_eq_true g
      obtain ⟨t,ht,htb⟩:=iEndText (n : Int) (m : Int)
      simp only [Option.bind_some,Option.isNone_none,if_true,iAny_eq,h,ht]
      rw [if_pos (bytesOf_toList.2 (htb.trans e.symm))]
/-- EndRead: the end whose text this is, or none. -/
theorem iEndRead (s : ByteArray) (hs : s.size ≤ 140737488355328) : impl_EndRead.f s = some (match endRead (bytesOf s) with | some (a,p)=>(a,p,true) | none=>(0,0,false)):=by
 cases h : endRead (bytesOf s) with
 | some r =>
  obtain ⟨a,p⟩:=r
  obtain ⟨h1,h2⟩:=(endRead_iff _ a p).1 h
  exact iEndRead_some s a p h1 h2.symm
 | none =>
  rcases iEndRead_none s hs with h0|⟨a,p,h1,h2,_⟩
  ·exact h0
  ·rw [(endRead_iff _ a p).2 ⟨h1,h2⟩] at h;cases h
/-- An end that is read: itself, or none. -/
def readE (l : List Int) : Int × Int × Bool:=match endRead l with | some (a,p)=>(a,p,true) | none=>(0,0,false)
/-- A figure's number, or -1. -/
def dig (c : Int) : Int:=if 48 ≤ c ∧ c ≤ 57 then c - 48 else -1
theorem dig_range (c : Int) : -1 ≤ dig c ∧ dig c ≤ 9:=by unfold dig;split <;> omega
theorem readE_fin (s : ByteArray) (hn : bytesOf s ≠ []) (a p : Int) (hr : ∀ b q,anyE b q = true → endText b q = bytesOf s → b = a ∧ q = p) :
  Ev (fun k=>(spec_EndText.f k a p).bind fun t=>if t.toList = s.toList then some (a,p,true) else some (0,0,false)) (readE (bytesOf s)):=by
 obtain ⟨t,ht,htb⟩:=sEndText a p
 refine Ev.bind ht ?_
 by_cases h : endText a p = bytesOf s
 ·refine Ev.pos (bytesOf_toList.2 (htb.trans h)) ?_
  have ha : anyE a p = true:=by
   cases hc : anyE a p with
   | true=>rfl
   | false=>exact absurd (h.symm.trans (endText_none a p hc)) hn
  have : readE (bytesOf s) = (a,p,true):=by unfold readE;rw [(endRead_iff _ a p).2 ⟨ha,h⟩]
  rw [this];exact Ev.now _
 ·refine Ev.neg (fun hc=>h (htb.symm.trans (bytesOf_toList.1 hc))) ?_
  have : readE (bytesOf s) = (0,0,false):=by
   unfold readE
   cases hc : endRead (bytesOf s) with
   | none=>rfl
   | some r =>
    obtain ⟨b,q⟩:=r
    obtain ⟨h1,h2⟩:=(endRead_iff _ b q).1 hc
    obtain ⟨rfl,rfl⟩:=hr b q h1 h2
    exact absurd h2 h
  rw [this];exact Ev.now _
theorem endText_lens (a p : Int) (h : anyE a p = true) : (endText a p).length = 3 ∨ (endText a p).length = 4:=by
 rcases (anyE_iff a p).1 h with h2|⟨rfl,h2⟩
 ·rw [endText_host a p h2];exact .inl rfl
 ·rw [endText_door p h2];exact .inr rfl
theorem readE_none (l : List Int) (h : ¬ (l.length = 3 ∨ l.length = 4)) : readE l = (0,0,false):=by
 unfold readE
 cases hc : endRead l with
 | none=>rfl
 | some r =>
  obtain ⟨b,q⟩:=r
  obtain ⟨h1,h2⟩:=(endRead_iff _ b q).1 hc
  rw [← h2] at h
  exact absurd (endText_lens b q h1) h
theorem bt_list (s : ByteArray) (i : Nat) : bt s (i : Int) = (bytesOf s).getD i 0:=by rw [bt_rd];rfl
theorem sEndRead (s : ByteArray) : Ev (fun k=>spec_EndRead.f k s) (readE (bytesOf s)):=by
 have hlen:=bytesOf_length s
 unfold spec_EndRead.f
 refine Ev.call (l6In_eq _ _ _) ?_
 by_cases h : 3 ≤ (s.size : Int) ∧ (s.size : Int) ≤ 4
 ·refine Ev.pos (by simpa using h) ?_
  refine Ev.pos (by omega) ?_
  refine Ev.call (digit_eq (bt s 0) (bt_range s 0)) ?_
  have d0:=dig_range (bt s 0)
  have d2:=dig_range (bt s 2)
  have d3:=dig_range (bt s 3)
  have one : ∀ (a acc i : Int),0 ≤ i → i < (s.size : Int) → -1 ≤ acc → acc ≤ 9 → Ev (fun k=>spec_EndRead.l0 k s (s.size : Int) (i + 1) a (10 * acc + dig (bt s i))) (readE (bytesOf s)) →
    Ev (fun k=>spec_EndRead.l0 k s (s.size : Int) i a acc) (readE (bytesOf s)):=by
   intro a acc i h0 hi l1 l2 hk
   have hd:=dig_range (bt s i)
   refine Ev.step (f:=fun k=>_) (fun k=>by simp only [spec_EndRead.l0];rfl) ?_
   refine Ev.pos hi ?_
   refine Ev.pos h0 ?_
   refine Ev.pos hi ?_
   refine Ev.call (digit_eq (bt s i) (bt_range s i)) ?_
   have e1 : wrap64 (i + 1) = i + 1:=wrap_id (by omega) (by omega)
   have e2 : wrap64 (wrap64 (10 * acc) + dig (bt s i)) = 10 * acc + dig (bt s i):=by
    rw [wrap_id (n:=10 * acc) (by omega) (by omega),wrap_id (by omega) (by omega)]
   show Ev (fun k=>spec_EndRead.l0 k s (s.size : Int) (wrap64 (i + 1)) a (wrap64 (wrap64 (10 * acc) + dig (bt s i)))) _
   rw [e1,e2];exact hk
  have last : ∀ (a p i : Int),¬ i < (s.size : Int) → (∀ b q,anyE b q = true → endText b q = bytesOf s → b = a ∧ q = p) → Ev (fun k=>spec_EndRead.l0 k s (s.size : Int) i a p) (readE (bytesOf s)):=by
   intro a p i hi hr
   refine Ev.step (f:=fun k=>_) (fun k=>by simp only [spec_EndRead.l0];rfl) ?_
   refine Ev.neg hi ?_
   exact readE_fin s (fun hc=>by rw [hc] at hlen;simp at hlen;omega) a p hr
  show Ev (fun k=>spec_EndRead.l0 k s (s.size : Int) 2 (dig (bt s 0)) 0) _
  have b0:=bt_list s 0
  have b2:=bt_list s 2
  have b3:=bt_list s 3
  refine one _ 0 2 (by omega) (by omega) (by omega) (by omega) ?_
  by_cases h3 : s.size = 3
  ·refine last _ _ _ (by omega) ?_
   intro b q hb hq
   rcases (anyE_iff b q).1 hb with hc|⟨rfl,hc⟩
   ·rw [endText_host b q hc] at hq
    rw [← hq] at b0 b2
    have e0 : bt s 0 = 48 + b:=b0
    have e2 : bt s 2 = 48 + q:=b2
    rw [e0,e2]
    unfold dig
    rw [if_pos (by omega),if_pos (by omega)]
    omega
   ·rw [endText_door q hc] at hq
    have:=congrArg List.length hq
    simp at this;omega
  ·refine one _ _ 3 (by omega) (by omega) (by omega) (by omega) ?_
   refine last _ _ _ (by omega) ?_
   intro b q hb hq
   rcases (anyE_iff b q).1 hb with hc|⟨rfl,hc⟩
   ·rw [endText_host b q hc] at hq
    have:=congrArg List.length hq
    simp at this;omega
   ·rw [endText_door q hc] at hq
    rw [← hq] at b0 b2 b3
    have e0 : bt s 0 = 57:=b0
    have e2 : bt s 2 = 49:=b2
    have e3 : bt s 3 = 38 + q:=b3
    rw [e0,e2,e3]
    unfold dig
    rw [if_pos (by omega),if_pos (by omega),if_pos (by omega)]
    omega
 ·refine Ev.neg (by simpa using h) ?_
  rw [readE_none _ (by rw [hlen];omega)]
  exact Ev.now _
theorem iReadE (s : ByteArray) (hs : s.size ≤ 140737488355328) : impl_EndRead.f s = some (readE (bytesOf s)):=iEndRead s hs
theorem readE_text (a p : Int) (h : anyE a p = true) : readE (endText a p) = (a,p,true):=by
 unfold readE;rw [endRead_endText a p h]
end Go.Proofs.YtejpgpjjocbbjaaDoor.Pure
namespace Go.Proofs.YtejpgpjjocbbjaaDoor.Plain
open Go.Proofs.YtejpgpjjocbbjaaDoorW.PrintWords Go.RowKit
set_option linter.unusedVariables false
set_option linter.unusedSimpArgs false
theorem split32_snoc32 : ∀ u : List Int,split32 (u ++ [32]) = split32 u ++ [[]]
 | []=>rfl
 | y :: u=>by
  have ih:=split32_snoc32 u
  rw [List.cons_append]
  unfold split32
  by_cases h : y = 32
  ·rw [if_pos h,if_pos h,ih];rfl
  ·rw [if_neg h,if_neg h,ih]
   cases hs : split32 u with
   | nil=>exact absurd hs (split32_ne u)
   | cons w r=>rfl
theorem split32_snoc (x : Int) (hx : x ≠ 32) : ∀ u : List Int,split32 (u ++ [x]) = (split32 u).set ((split32 u).length - 1) ((split32 u).getD ((split32 u).length - 1) [] ++ [x])
 | []=>by simp [split32,hx]
 | y :: u=>by
  have ih:=split32_snoc x hx u
  rw [List.cons_append]
  cases hs : split32 u with
  | nil=>exact absurd hs (split32_ne u)
  | cons w r =>
   rw [hs] at ih
   by_cases h : y = 32
   ·have e1 : split32 (y :: (u ++ [x])) = [] :: split32 (u ++ [x]):=by rw [split32,if_pos h]
    have e2 : split32 (y :: u) = [] :: (w :: r):=by rw [split32,if_pos h,hs]
    rw [e1,e2,ih]
    simp
   ·have e2 : split32 (y :: u) = (y :: w) :: r:=by rw [split32,if_neg h,hs]
    rw [e2]
    cases r with
    | nil =>
     have e1 : split32 (u ++ [x]) = [w ++ [x]]:=by rw [ih];rfl
     rw [split32,if_neg h,e1];rfl
    | cons v r =>
     have e1 : split32 (u ++ [x]) = w :: (v :: r).set r.length ((v :: r).getD r.length [] ++ [x]):=by rw [ih];simp
     rw [split32,if_neg h,e1];simp
theorem split32_len : ∀ (l : List Int),∀ w ∈ split32 l,w.length ≤ l.length
 | [],w,h=>by simp [split32] at h;subst h;exact Nat.le_refl _
 | x :: l,w,h=>by
  have ih:=split32_len l
  unfold split32 at h
  split at h
  ·rcases List.mem_cons.1 h with rfl|h
   ·exact Nat.zero_le _
   ·have:=ih w h;simp;omega
  ·cases hs : split32 l with
   | nil=>exact absurd hs (split32_ne l)
   | cons v r =>
    rw [hs] at h ih
    rcases List.mem_cons.1 h with rfl|h
    ·have:=ih v (by simp);simp;omega
    ·have:=ih w (List.mem_cons_of_mem _ h);simp;omega
theorem split32_count : ∀ (l : List Int),(split32 l).length ≤ l.length + 1
 | []=>Nat.le_refl _
 | x :: l=>by
  have ih:=split32_count l
  unfold split32
  split
  ·simp;omega
  ·cases hs : split32 l with
   | nil=>simp
   | cons v r=>rw [hs] at ih;simp at ih ⊢;omega
theorem dec_lens (n : Int) : (dec n).length = 1 ∨ (dec n).length = 2:=by unfold dec;split <;> simp
theorem endText_len_ (a p : Int) : (endText a p).length ≤ 4:=by
 cases h : anyE a p with
 | false=>rw [endText_none a p h];simp
 | true =>
  rcases (anyE_iff a p).1 h with h2|⟨rfl,h2⟩
  ·rw [endText_host a p h2];simp
  ·rw [endText_door p h2];simp
theorem pktText_len (k a p b q n : Int) (l : List Int) : (pktText k a p b q n l).length ≤ 58:=by
 unfold pktText
 by_cases h : pktOk k a p b q n l = true
 ·rw [if_pos h]
  have h1:=endText_len_ a p
  have h2:=endText_len_ b q
  have h3:=dec_lens n
  have h4 : l.length ≤ 40:=by
   rcases ((pktOk_iff _ _ _ _ _ _ _).1 h).2.2 with ⟨_,h,_⟩|⟨_,h⟩
   ·simp only [textOk,Bool.and_eq_true,decide_eq_true_eq] at h;exact h.2
   ·rw [h];simp
  unfold pktWords
  split <;> simp [join32] <;> omega
 ·rw [if_neg h];simp
end Go.Proofs.YtejpgpjjocbbjaaDoor.Plain
namespace Go.Proofs.YtejpgpjjocbbjaaDoor.Pure
open Go.RowKit Go.Proofs.YtejpgpjjocbbjaaDoorW.PrintWords Go.Proofs.YtejpgpjjocbbjaaDoorW.PrintMore Go.Proofs.YtejpgpjjocbbjaaDoor.Plain Go.Proofs.YtejpgpjjocbbjaaDoor.A
set_option linter.unusedVariables false
set_option linter.unusedSimpArgs false
theorem wd_bytes (ws : List ByteArray) (j : Nat) : bytesOf (rdOf ByteArray.empty ws (j : Int)) = (ws.map bytesOf).getD j []:=by
 unfold rdOf
 rw [show ((j : Int)).toNat = j from rfl,List.getD_eq_getElem?_getD,List.getD_eq_getElem?_getD,List.getElem?_map]
 cases ws[j]? <;> rfl
theorem sCut_loop (s : ByteArray) (hs : s.size ≤ 1000) : ∀ (d i : Nat) (ws : List ByteArray),i + d = s.size → ws.map bytesOf = split32 ((bytesOf s).take i) →
  ∃ ws',Ev (fun k=>spec_l12Cut.l0 k s 32 ws (i : Int)) ws' ∧ ws'.map bytesOf = split32 (bytesOf s)
 | 0,i,ws,h,hw=>by
  refine ⟨ws,?_,?_⟩
  ·refine Ev.step (f:=fun k=>_) (fun k=>by simp only [spec_l12Cut.l0];rfl) ?_
   exact Ev.neg (by omega) (Ev.now _)
  ·rw [hw,List.take_of_length_le (by rw [bytesOf_size];omega)]
 | d + 1,i,ws,h,hw=>by
  have hi : i < (bytesOf s).length:=by rw [bytesOf_size];omega
  have hb : bt s (i : Int) = (bytesOf s)[i]:=by
   rw [bt_list,List.getD_eq_getElem?_getD,List.getElem?_eq_getElem hi];rfl
  have ht : (bytesOf s).take (i + 1) = (bytesOf s).take i ++ [bt s (i : Int)]:=by
   rw [List.take_succ_eq_append_getElem hi,hb]
  have hl : ws.length = (split32 ((bytesOf s).take i)).length:=by rw [← hw,List.length_map]
  have hl1 : 1 ≤ ws.length:=by
   rw [hl]
   cases hc : split32 ((bytesOf s).take i) with
   | nil=>exact absurd hc (split32_ne _)
   | cons _ _=>simp
  have hl2 : ws.length ≤ 1001:=by
   have:=split32_count ((bytesOf s).take i)
   rw [List.length_take] at this
   omega
  have e1 : wrap64 ((i : Int) + 1) = ((i + 1 : Nat) : Int):=by rw [wrap_id (by omega) (by omega)];rfl
  have e2 : wrap64 ((ws.length : Int) - 1) = ((ws.length - 1 : Nat) : Int):=by rw [wrap_id (by omega) (by omega)];omega
  by_cases hx : bt s (i : Int) = 32
  ·obtain ⟨ws',h1,h2⟩:=sCut_loop s hs d (i + 1) (ws ++ [(⟨#[]⟩ : ByteArray)]) (by omega) (by
    rw [List.map_append,hw,ht,hx,split32_snoc32];rfl)
   refine ⟨ws',?_,h2⟩
   refine Ev.step (f:=fun k=>_) (fun k=>by simp only [spec_l12Cut.l0,e1];rfl) ?_
   refine Ev.pos (by omega) ?_
   refine Ev.pos (by omega) ?_
   refine Ev.pos hx ?_
   refine Ev.pos (by omega) ?_
   exact h1
  ·have hc : Code [bt s (i : Int)]:=by
    intro z hz
    rw [List.mem_singleton.1 hz]
    exact bt_range s i
   have hn : bytesOf (strOfNums [bt s (i : Int)]) = [bt s (i : Int)]:=bytesOf_nums _ hc
   have hn1 : (strOfNums [bt s (i : Int)]).size = 1:=by rw [← bytesOf_size,hn];rfl
   have hwd:=wd_bytes ws (ws.length - 1)
   have hws : (rdOf ByteArray.empty ws ((ws.length - 1 : Nat) : Int)).size ≤ 1000:=by
    rw [← bytesOf_size,hwd,hw,List.getD_eq_getElem?_getD,List.getElem?_eq_getElem (by rw [← hl];omega)]
    have:=split32_len _ _ (List.getElem_mem (l:=split32 ((bytesOf s).take i)) (n:=ws.length - 1) (by rw [← hl];omega))
    rw [List.length_take] at this
    simp only [Option.getD_some]
    omega
   obtain ⟨ws',h1,h2⟩:=sCut_loop s hs d (i + 1) (ws.set (ws.length - 1) (rdOf ByteArray.empty ws ((ws.length - 1 : Nat) : Int) ++ strOfNums [bt s (i : Int)])) (by omega) (by
    rw [List.map_set,bytesOf_append,hwd,hn,hw,ht,split32_snoc _ hx,hl])
   refine ⟨ws',?_,h2⟩
   refine Ev.step (f:=fun k=>_) (fun k=>by simp only [spec_l12Cut.l0,e1,e2];rfl) ?_
   refine Ev.pos (by omega) ?_
   refine Ev.pos (by omega) ?_
   refine Ev.neg hx ?_
   refine Ev.pos (by omega) ?_
   refine Ev.pos (by omega) ?_
   refine Ev.call rfl ?_
   refine Ev.pos (by rw [hn1];omega) ?_
   exact h1
theorem sCut (s : ByteArray) (hs : s.size ≤ 1000) : ∃ ws,Ev (fun k=>spec_l12Cut.f k s 32) ws ∧ ws.map bytesOf = split32 (bytesOf s) :=
 sCut_loop s hs s.size 0 [(⟨#[]⟩ : ByteArray)] (Nat.zero_add _) rfl
theorem sDec_end (w : ByteArray) (acc : Int) (i : Nat) (hi : ¬ i < w.size) : Ev (fun k=>spec_l12Dec.l0 k w acc (i : Int)) acc:=by
 refine Ev.step (f:=fun k=>_) (fun k=>by simp only [spec_l12Dec.l0];rfl) ?_
 exact Ev.neg (by omega) (Ev.now _)
theorem sDec_neg (w : ByteArray) (acc : Int) (i : Nat) (hi : i < w.size) (hx : dig (bt w (i : Int)) < 0) : Ev (fun k=>spec_l12Dec.l0 k w acc (i : Int)) (-1):=by
 refine Ev.step (f:=fun k=>_) (fun k=>by simp only [spec_l12Dec.l0];rfl) ?_
 refine Ev.pos (by omega) ?_
 refine Ev.pos (by omega) ?_
 refine Ev.call (digit_eq _ (bt_range w i)) ?_
 exact Ev.pos hx (Ev.now _)
theorem sDec_pos (w : ByteArray) (hw : w.size ≤ 1000) (acc : Int) (i : Nat) (hi : i < w.size) (hx : ¬ dig (bt w (i : Int)) < 0) (h0 : 0 ≤ acc) (h1 : acc ≤ 100) (v : Int)
  (hv : Ev (fun k=>spec_l12Dec.l0 k w (10 * acc + dig (bt w (i : Int))) ((i + 1 : Nat) : Int)) v) : Ev (fun k=>spec_l12Dec.l0 k w acc (i : Int)) v:=by
 have hd:=dig_range (bt w (i : Int))
 have e1 : wrap64 ((i : Int) + 1) = ((i + 1 : Nat) : Int):=by rw [wrap_id (by omega) (by omega)];rfl
 have e2 : wrap64 (wrap64 (10 * acc) + dig (bt w (i : Int))) = 10 * acc + dig (bt w (i : Int)):=by
  rw [wrap_id (n:=10 * acc) (by omega) (by omega),wrap_id (by omega) (by omega)]
 refine Ev.step (f:=fun k=>_) (fun k=>by simp only [spec_l12Dec.l0,e1];rfl) ?_
 refine Ev.pos (by omega) ?_
 refine Ev.pos (by omega) ?_
 refine Ev.call (digit_eq _ (bt_range w i)) ?_
 refine Ev.neg hx ?_
 refine Ev.call (digit_eq _ (bt_range w i)) ?_
 show Ev (fun n=>spec_l12Dec.l0 n w (wrap64 (wrap64 (10 * acc) + dig (bt w (i : Int)))) ((i + 1 : Nat) : Int)) v
 rw [e2];exact hv
theorem dig_of {c n : Int} (h : c = 48 + n) (h0 : 0 ≤ n) (h1 : n ≤ 9) : dig c = n:=by unfold dig;rw [if_pos (by omega)];omega
theorem sDec (w : ByteArray) (hw : w.size ≤ 1000) : ∃ v,Ev (fun k=>spec_l12Dec.f k w) v ∧ ∀ n,0 ≤ n → n ≤ 99 → bytesOf w = dec n → v = n:=by
 have hl:=bytesOf_size w
 have b0:=bt_list w 0
 have b1:=bt_list w 1
 have hd0:=dig_range (bt w ((0 : Nat) : Int))
 have hd1:=dig_range (bt w ((1 : Nat) : Int))
 have start : ∀ v,1 ≤ w.size ∧ w.size ≤ 2 → Ev (fun k=>spec_l12Dec.l0 k w 0 ((0 : Nat) : Int)) v → Ev (fun k=>spec_l12Dec.f k w) v:=by
  intro v h hv
  unfold spec_l12Dec.f
  refine Ev.call (l6In_eq _ _ _) ?_
  exact Ev.pos (decide_eq_true (by omega)) hv
 by_cases h : 1 ≤ w.size ∧ w.size ≤ 2
 ·by_cases h2 : w.size = 2
  ·by_cases x0 : dig (bt w ((0 : Nat) : Int)) < 0
   ·refine ⟨-1,start _ h (sDec_neg w 0 0 (by omega) x0),fun n n0 n1 e=>?_⟩
    rw [e] at b0 hl
    unfold dec at b0 hl
    split at hl
    ·simp at hl;omega
    ·rename_i hn
     rw [if_neg hn] at b0
     have:=dig_of (show bt w ((0 : Nat) : Int) = 48 + n / 10 from b0) (by omega) (by omega)
     omega
   ·by_cases x1 : dig (bt w ((1 : Nat) : Int)) < 0
    ·refine ⟨-1,start _ h (sDec_pos w hw 0 0 (by omega) x0 (by omega) (by omega) _ (sDec_neg w _ 1 (by omega) x1)),fun n n0 n1 e=>?_⟩
     rw [e] at b1 hl
     unfold dec at b1 hl
     split at hl
     ·simp at hl;omega
     ·rename_i hn
      rw [if_neg hn] at b1
      have:=dig_of (show bt w ((1 : Nat) : Int) = 48 + n % 10 from b1) (by omega) (by omega)
      omega
    ·refine ⟨_,start _ h (sDec_pos w hw 0 0 (by omega) x0 (by omega) (by omega) _ (sDec_pos w hw _ 1 (by omega) x1 (by omega) (by omega) _ (sDec_end w _ 2 (by omega)))),fun n n0 n1 e=>?_⟩
     rw [e] at b0 b1 hl
     unfold dec at b0 b1 hl
     split at hl
     ·simp at hl;omega
     ·rename_i hn
      rw [if_neg hn] at b0 b1
      have g0:=dig_of (show bt w ((0 : Nat) : Int) = 48 + n / 10 from b0) (by omega) (by omega)
      have g1:=dig_of (show bt w ((1 : Nat) : Int) = 48 + n % 10 from b1) (by omega) (by omega)
      omega
  ·by_cases x0 : dig (bt w ((0 : Nat) : Int)) < 0
   ·refine ⟨-1,start _ h (sDec_neg w 0 0 (by omega) x0),fun n n0 n1 e=>?_⟩
    rw [e] at b0 hl
    unfold dec at b0 hl
    split at hl
    ·rename_i hn
     rw [if_pos hn] at b0
     have:=dig_of (show bt w ((0 : Nat) : Int) = 48 + n from b0) (by omega) (by omega)
     omega
    ·simp at hl;omega
   ·refine ⟨_,start _ h (sDec_pos w hw 0 0 (by omega) x0 (by omega) (by omega) _ (sDec_end w _ 1 (by omega))),fun n n0 n1 e=>?_⟩
    rw [e] at b0 hl
    unfold dec at b0 hl
    split at hl
    ·rename_i hn
     rw [if_pos hn] at b0
     have:=dig_of (show bt w ((0 : Nat) : Int) = 48 + n from b0) (by omega) (by omega)
     omega
    ·simp at hl;omega
 ·refine ⟨-1,?_,fun n n0 n1 e=>?_⟩
  ·unfold spec_l12Dec.f
   refine Ev.call (l6In_eq _ _ _) ?_
   exact Ev.neg (by rw [decide_eq_false (by omega)];decide) (Ev.now _)
  ·have:=dec_lens n
   rw [← e,hl] at this
   omega
theorem atoi_all : ∀ n ∈ List.range 100,strconv_Atoi.f (lit (dec n)) = some ((n : Int),none):=by decide +kernel
theorem lit_dec : ∀ n ∈ List.range 100,bytesOf (lit (dec n)) = dec n:=by decide +kernel
theorem atoi_dec (w : ByteArray) (n : Int) (h0 : 0 ≤ n) (h1 : n ≤ 99) (e : bytesOf w = dec n) : strconv_Atoi.f w = some (n,none):=by
 obtain ⟨m,rfl⟩:=Int.eq_ofNat_of_zero_le h0
 obtain rfl : w = lit (dec m):=bytesOf_inj (e.trans (lit_dec m (List.mem_range.2 (by omega))).symm)
 exact atoi_all m (List.mem_range.2 (by omega))
theorem index_split (c : UInt8) : ∀ l : List UInt8,c ∈ l → ∃ u v,l = u ++ c :: v ∧ c ∉ u ∧ Lib.indexByte l c = (u.length : Int)
 | [],h=>absurd h (by simp)
 | b :: l,h=>by
  by_cases hb : b = c
  ·exact ⟨[],l,by rw [hb];rfl,by simp,by unfold Lib.indexByte;rw [if_pos (by rw [hb];simp)];rfl⟩
  ·have hl : c ∈ l:=by
    rcases List.mem_cons.1 h with h|h
    ·exact absurd h.symm hb
    ·exact h
   obtain ⟨u,v,e,hu,hi⟩:=index_split c l hl
   refine ⟨b :: u,v,by rw [e];rfl,fun hc=>?_,?_⟩
   ·rcases List.mem_cons.1 hc with hc|hc
    ·exact hb hc.symm
    ·exact hu hc
   ·unfold Lib.indexByte
    rw [if_neg (by simpa using hb),hi,if_neg (by rw [beq_iff_eq];omega)]
    simp
theorem ints_mem (c : UInt8) (l : List UInt8) : ((c.toNat : Int) ∈ l.map (fun b=>(b.toNat : Int))) ↔ c ∈ l:=by
 rw [List.mem_map]
 constructor
 ·rintro ⟨b,hb,e⟩
  have : b = c:=UInt8.toNat_inj.1 (by omega)
  exact this ▸ hb
 ·intro h;exact ⟨c,h,rfl⟩
theorem ints_count (c : UInt8) : ∀ l : List UInt8,(l.map (fun b=>(b.toNat : Int))).count (c.toNat : Int) = l.count c
 | []=>rfl
 | b :: l=>by
  have ih:=ints_count c l
  rw [List.map_cons,List.count_cons,List.count_cons,ih]
  by_cases h : b = c
  ·rw [if_pos (by simp [h]),if_pos (by simp [h])]
  ·rw [if_neg (by rw [beq_iff_eq];intro e;exact h (UInt8.toNat_inj.1 (by omega))),if_neg (by simpa using h)]
theorem splitB_32 : ∀ (k : Nat) (s : ByteArray),(bytesOf s).count 32 ≤ k → (Lib.splitB (⟨#[32]⟩ : ByteArray) 0 k s).map bytesOf = split32 (bytesOf s)
 | 0,s,h=>by
  have : (32 : Int) ∉ bytesOf s:=fun hm=>by have:=List.count_pos_iff.2 hm;omega
  rw [split32_one _ this];rfl
 | k + 1,s,h=>by
  have hb:=bytesOf_data s
  have e0 : Lib.indexB s (⟨#[32]⟩ : ByteArray) = Lib.indexByte s.data.toList 32:=by
   show Lib.index s.data.toList [32] = _
   rw [Lib.index_one]
  unfold Lib.splitB
  by_cases hm : (32 : UInt8) ∈ s.data.toList
  ·obtain ⟨u,v,e,hu,hi⟩:=index_split 32 s.data.toList hm
   rw [e0,hi,if_neg (by rw [beq_iff_eq];omega)]
   have hB : bytesOf s = u.map (fun b=>(b.toNat : Int)) ++ 32 :: v.map (fun b=>(b.toNat : Int)):=by
    rw [hb,e,List.map_append,List.map_cons];rfl
   have hU : (32 : Int) ∉ u.map (fun b=>(b.toNat : Int)):=fun hc=>hu ((ints_mem 32 u).1 hc)
   have h1 : bytesOf (s.extract 0 (((u.length : Int)).toNat + 0)) = u.map (fun b=>(b.toNat : Int)):=by
    rw [bytesOf_from,hB]
    exact List.take_left' (by simp)
   have h2 : bytesOf (s.extract (((u.length : Int)).toNat + (⟨#[32]⟩ : ByteArray).size) s.size) = v.map (fun b=>(b.toNat : Int)):=by
    rw [bytesOf_to_end,hB,show ((u.length : Int)).toNat + (⟨#[32]⟩ : ByteArray).size = u.length + 1 from rfl]
    rw [List.drop_append,List.drop_eq_nil_of_le (by simp)]
    simp
   rw [List.map_cons,h1,splitB_32 k _ (by
    rw [h2]
    rw [hB,List.count_append,List.count_cons_self] at h
    omega),h2,hB,split32_app _ _ hU]
  ·have hi : Lib.indexByte s.data.toList 32 = -1:=by rw [indexByte_take,if_neg hm]
   rw [e0,hi,if_pos (by decide)]
   have : (32 : Int) ∉ bytesOf s:=fun hc=>hm ((ints_mem 32 _).1 (by rw [← hb];exact hc))
   rw [split32_one _ this];rfl
theorem iSplit (s : ByteArray) (hs : s.size ≤ 4294967280) : ∃ ws,strings_Split.f s (⟨#[32]⟩ : ByteArray) = some ws ∧ ws.map bytesOf = split32 (bytesOf s):=by
 refine ⟨Lib.splitB (⟨#[32]⟩ : ByteArray) 0 (Lib.countB s (⟨#[32]⟩ : ByteArray)) s,?_,?_⟩
 ·unfold strings_Split.f
  rw [if_pos ⟨hs,rfl⟩]
 ·refine splitB_32 _ s ?_
  have e : Lib.countB s (⟨#[32]⟩ : ByteArray) = s.data.toList.count 32:=by
   show Lib.count s.data.toList [32] = _
   rw [Lib.count_one]
  rw [e,bytesOf_data]
  exact Nat.le_of_eq (ints_count 32 _)
theorem clone_eq (s : ByteArray) (h : s.size ≤ 140737488355328) : strings_Clone.f s = some s:=by
 unfold strings_Clone.f stringslite_Clone.f
 rw [if_pos h];rfl
abbrev PR:=Int × Int × Int × Int × Int × Int × ByteArray × Bool
def noP : PR:=(0,0,0,0,0,0,(⟨#[]⟩ : ByteArray),false)
/-- Is this the text of a packet in form. -/
def isP (s : ByteArray) : Prop:=∃ k a p b q n l,pktOk k a p b q n l = true ∧ pktText k a p b q n l = bytesOf s
theorem wd_len (s : ByteArray) (ws : List ByteArray) (h : ws.map bytesOf = split32 (bytesOf s)) (j : Nat) : (rdOf ByteArray.empty ws (j : Int)).size ≤ s.size:=by
 rw [← bytesOf_size,wd_bytes,h,List.getD_eq_getElem?_getD]
 cases hj : (split32 (bytesOf s))[j]? with
 | none=>exact Nat.zero_le _
 | some w =>
  have:=split32_len _ w (List.mem_of_getElem? hj)
  rw [bytesOf_size] at this
  exact this
theorem iPkt_j2_no (s : ByteArray) (hn : ¬ isP s) (x7 x9 : Bool) (x11 : Option Int) (k a p b q n : Int) (t : ByteArray) (ht : t.size ≤ 140737488355328) : Ev (fun r=>impl_PktRead.j2 r s x7 x9 x11 k a p b q n t) noP:=by
 refine Ev.step (f:=fun r=>_) (fun r=>by simp only [impl_PktRead.j2];rfl) ?_
 cases x7 with
 | false=>exact Ev.neg (by decide) (Ev.now _)
 | true =>
  refine Ev.pos rfl ?_
  cases x9 with
  | false=>exact Ev.neg (by decide) (Ev.now _)
  | true =>
   refine Ev.pos rfl ?_
   cases x11 with
   | some _=>exact Ev.neg (by simp) (Ev.now _)
   | none =>
    refine Ev.pos rfl ?_
    refine Ev.call (iPktOk k a p b q n t ht) ?_
    cases hok : pktOk k a p b q n (bytesOf t) with
    | false=>exact Ev.neg (by decide) (Ev.now _)
    | true =>
     refine Ev.pos rfl ?_
     obtain ⟨y,hy,ey⟩:=iPktText k a p b q n t ht
     refine Ev.call hy ?_
     exact Ev.neg (fun e=>hn ⟨k,a,p,b,q,n,bytesOf t,hok,ey.symm.trans (bytesOf_toList.1 e)⟩) (Ev.now _)
theorem iPkt_j1_no (s : ByteArray) (hn : ¬ isP s) (hs : s.size ≤ 70) (ws : List ByteArray) (hw : ws.map bytesOf = split32 (bytesOf s)) (h4 : 4 ≤ (ws.length : Int)) (kk c1 c2 c3 c4 c5 : Int) : Ev (fun r=>impl_PktRead.j1 r s ws kk c1 c2 c3 c4 c5 (⟨#[]⟩ : ByteArray)) noP:=by
 have l1:=wd_len s ws hw 1
 have l2:=wd_len s ws hw 2
 have l3:=wd_len s ws hw 3
 have l4:=wd_len s ws hw 4
 obtain ⟨v,e,ha⟩:=atoi_some (rdOf ByteArray.empty ws ((3 : Nat) : Int)) (by omega)
 refine Ev.step (f:=fun r=>_) (fun r=>by simp only [impl_PktRead.j1];rfl) ?_
 refine Ev.pos (by omega) ?_
 refine Ev.call (iReadE (rdOf ByteArray.empty ws ((1 : Nat) : Int)) (by omega)) ?_
 refine Ev.pos (by omega) ?_
 refine Ev.call (iReadE (rdOf ByteArray.empty ws ((2 : Nat) : Int)) (by omega)) ?_
 refine Ev.pos (by omega) ?_
 refine Ev.call ha ?_
 refine Ev.ite (fun h5=>?_) (fun _=>iPkt_j2_no s hn _ _ _ _ _ _ _ _ _ _ (Nat.zero_le _))
 refine Ev.pos (by omega) ?_
 refine Ev.call (clone_eq (rdOf ByteArray.empty ws ((4 : Nat) : Int)) (by omega)) ?_
 exact iPkt_j2_no s hn _ _ _ _ _ _ _ _ _ _ (by omega)
theorem iPktRead_no (s : ByteArray) (hs : s.size ≤ 4294967280) (hn : ¬ isP s) : Ev (fun r=>impl_PktRead.f r s) noP:=by
 obtain ⟨ws,e,hw⟩:=iSplit s hs
 unfold impl_PktRead.f
 refine Ev.call e ?_
 have bad : Ev (fun r=>impl_PktRead.j0 r s ws true) noP:=Ev.step (f:=fun r=>_) (fun r=>by simp only [impl_PktRead.j0];rfl) (Ev.pos (by trivial) (Ev.now _))
 refine Ev.ite (fun _=>bad) (fun h70=>?_)
 refine Ev.call (within_eq _ _ _) ?_
 by_cases h : (4 : Int) ≤ (ws.length : Int) ∧ (ws.length : Int) ≤ 5
 ·rw [decide_eq_true h]
  refine Ev.step (f:=fun r=>_) (fun r=>by simp only [impl_PktRead.j0];rfl) ?_
  refine Ev.neg (by decide) ?_
  refine Ev.pos (by omega) ?_
  exact Ev.ite (fun _=>iPkt_j1_no s hn (by omega) ws hw h.1 _ _ _ _ _ _) (fun _=>iPkt_j1_no s hn (by omega) ws hw h.1 _ _ _ _ _ _)
 ·rw [decide_eq_false h];exact bad
theorem words_of {s : ByteArray} {ws : List ByteArray} (hw : ws.map bytesOf = split32 (bytesOf s)) {k a p b q n : Int} {l : List Int} (h : pktOk k a p b q n l = true) (e : pktText k a p b q n l = bytesOf s) : ws.map bytesOf = pktWords k a p b q n l:=by
 rw [hw,← e,pktText_split h]
theorem word_at {ws : List ByteArray} {L : List (List Int)} (h : ws.map bytesOf = L) (j : Nat) (w : List Int) (hj : L.getD j [] = w) : bytesOf (rdOf ByteArray.empty ws (j : Int)) = w:=by rw [wd_bytes,h,hj]
theorem iPkt_j2_yes (s : ByteArray) (k a p b q n : Int) (t : ByteArray) (ht : t.size ≤ 140737488355328) (hok : pktOk k a p b q n (bytesOf t) = true) (e : pktText k a p b q n (bytesOf t) = bytesOf s) :
  Ev (fun r=>impl_PktRead.j2 r s true true none k a p b q n t) (k,a,p,b,q,n,t,true):=by
 refine Ev.step (f:=fun r=>_) (fun r=>by simp only [impl_PktRead.j2];rfl) ?_
 refine Ev.pos (by simp) ?_
 refine Ev.pos (by simp) ?_
 refine Ev.pos (by simp) ?_
 refine Ev.call (iPktOk k a p b q n t ht) ?_
 refine Ev.pos hok ?_
 obtain ⟨y,hy,ey⟩:=iPktText k a p b q n t ht
 refine Ev.call hy ?_
 exact Ev.pos (bytesOf_toList.2 (ey.trans e)) (Ev.now _)
theorem iPktRead_yes (s : ByteArray) (k a p b q n : Int) (l : List Int) (h : pktOk k a p b q n l = true) (e : pktText k a p b q n l = bytesOf s) :
  ∃ t,bytesOf t = l ∧ Ev (fun r=>impl_PktRead.f r s) (k,a,p,b,q,n,t,true):=by
 have h58:=pktText_len k a p b q n l
 rw [e,bytesOf_size] at h58
 obtain ⟨ws,e0,hw⟩:=iSplit s (by omega)
 have hW:=words_of hw h e
 obtain ⟨⟨h1,h2⟩,h3,h4⟩:=(pktOk_iff _ _ _ _ _ _ _).1 h
 have l1:=wd_len s ws hw 1
 have l2:=wd_len s ws hw 2
 have l4:=wd_len s ws hw 4
 have start : ∀ R : PR,(4 : Int) ≤ (ws.length : Int) ∧ (ws.length : Int) ≤ 5 → Ev (fun r=>impl_PktRead.j1 r s ws (if bytesOf (rdOf ByteArray.empty ws ((0 : Nat) : Int)) = [100,97,116,97] then 1 else 2) 0 0 0 0 0 (⟨#[]⟩ : ByteArray)) R → Ev (fun r=>impl_PktRead.f r s) R:=by
  intro R hl hR
  unfold impl_PktRead.f
  refine Ev.call e0 ?_
  refine Ev.neg (by omega) ?_
  refine Ev.call (within_eq _ _ _) ?_
  rw [decide_eq_true hl]
  refine Ev.step (f:=fun r=>_) (fun r=>by simp only [impl_PktRead.j0];rfl) ?_
  refine Ev.neg (by decide) ?_
  refine Ev.pos (by omega) ?_
  have e4 : ([100,97,116,97] : List UInt8) = (⟨#[100,97,116,97]⟩ : ByteArray).toList:=by rw [ByteArray.toList_eq]
  have hb : bytesOf (⟨#[100,97,116,97]⟩ : ByteArray) = [100,97,116,97]:=rfl
  rw [e4]
  by_cases c : bytesOf (rdOf ByteArray.empty ws ((0 : Nat) : Int)) = [100,97,116,97]
  ·rw [if_pos c] at hR
   exact Ev.pos (bytesOf_toList.2 (c.trans hb.symm)) hR
  ·rw [if_neg c] at hR
   exact Ev.neg (fun h=>c ((bytesOf_toList.1 h).trans hb)) hR
 rcases h4 with ⟨rfl,ht,hn⟩|⟨rfl,rfl⟩
 ·unfold pktWords at hW
  rw [if_neg (by decide)] at hW
  have hlen : ws.length = 5:=by have:=congrArg List.length hW;simpa using this
  have w0 : bytesOf (rdOf ByteArray.empty ws ((0 : Nat) : Int)) = [100,97,116,97]:=word_at hW 0 _ rfl
  have w1 : bytesOf (rdOf ByteArray.empty ws ((1 : Nat) : Int)) = endText a p:=word_at hW 1 _ rfl
  have w2 : bytesOf (rdOf ByteArray.empty ws ((2 : Nat) : Int)) = endText b q:=word_at hW 2 _ rfl
  have w3 : bytesOf (rdOf ByteArray.empty ws ((3 : Nat) : Int)) = dec n:=word_at hW 3 _ rfl
  have w4 : bytesOf (rdOf ByteArray.empty ws ((4 : Nat) : Int)) = l:=word_at hW 4 _ rfl
  have E1:=iReadE (rdOf ByteArray.empty ws ((1 : Nat) : Int)) (by omega)
  have E2:=iReadE (rdOf ByteArray.empty ws ((2 : Nat) : Int)) (by omega)
  rw [w1,readE_text a p h1] at E1
  rw [w2,readE_text b q h2] at E2
  refine ⟨_,w4,start _ ⟨by omega,by omega⟩ ?_⟩
  rw [if_pos w0]
  refine Ev.step (f:=fun r=>_) (fun r=>by simp only [impl_PktRead.j1];rfl) ?_
  refine Ev.pos (by omega) ?_
  refine Ev.call E1 ?_
  refine Ev.pos (by omega) ?_
  refine Ev.call E2 ?_
  refine Ev.pos (by omega) ?_
  refine Ev.call (atoi_dec (rdOf ByteArray.empty ws ((3 : Nat) : Int)) n h3.1 h3.2 w3) ?_
  refine Ev.pos (by omega) ?_
  refine Ev.pos (by omega) ?_
  refine Ev.call (clone_eq (rdOf ByteArray.empty ws ((4 : Nat) : Int)) (by omega)) ?_
  exact iPkt_j2_yes s 1 a p b q n _ (by omega) (by rw [w4];exact h) (by rw [w4];exact e)
 ·unfold pktWords at hW
  rw [if_pos rfl] at hW
  have hlen : ws.length = 4:=by have:=congrArg List.length hW;simpa using this
  have w0 : bytesOf (rdOf ByteArray.empty ws ((0 : Nat) : Int)) = [97,99,107]:=word_at hW 0 _ rfl
  have w1 : bytesOf (rdOf ByteArray.empty ws ((1 : Nat) : Int)) = endText a p:=word_at hW 1 _ rfl
  have w2 : bytesOf (rdOf ByteArray.empty ws ((2 : Nat) : Int)) = endText b q:=word_at hW 2 _ rfl
  have w3 : bytesOf (rdOf ByteArray.empty ws ((3 : Nat) : Int)) = dec n:=word_at hW 3 _ rfl
  have E1:=iReadE (rdOf ByteArray.empty ws ((1 : Nat) : Int)) (by omega)
  have E2:=iReadE (rdOf ByteArray.empty ws ((2 : Nat) : Int)) (by omega)
  rw [w1,readE_text a p h1] at E1
  rw [w2,readE_text b q h2] at E2
  refine ⟨(⟨#[]⟩ : ByteArray),rfl,start _ ⟨by omega,by omega⟩ ?_⟩
  rw [if_neg (by rw [w0];decide)]
  refine Ev.step (f:=fun r=>_) (fun r=>by simp only [impl_PktRead.j1];rfl) ?_
  refine Ev.pos (by omega) ?_
  refine Ev.call E1 ?_
  refine Ev.pos (by omega) ?_
  refine Ev.call E2 ?_
  refine Ev.pos (by omega) ?_
  refine Ev.call (atoi_dec (rdOf ByteArray.empty ws ((3 : Nat) : Int)) n h3.1 h3.2 w3) ?_
  refine Ev.neg (by omega) ?_
  exact iPkt_j2_yes s 2 a p b q n (⟨#[]⟩ : ByteArray) (Nat.zero_le _) h e
theorem sPkt_fin (s : ByteArray) (k a p b q n : Int) (t : ByteArray) (ht : t.size ≤ 140737488355328) (hok : pktOk k a p b q n (bytesOf t) = true) (c : pktText k a p b q n (bytesOf t) = bytesOf s) :
  Ev (fun r=>(spec_PktText.f r k a p b q n t).bind fun u=>if u.toList = s.toList then (if s.toList = ([] : List UInt8) then some noP else some ((k,a,p,b,q,n,t,true) : PR)) else some noP) (k,a,p,b,q,n,t,true):=by
 obtain ⟨u,hu,eu⟩:=sPktText k a p b q n t ht
 refine Ev.bind hu ?_
 refine Ev.pos (bytesOf_toList.2 (eu.trans c)) ?_
 refine Ev.neg (fun h=>?_) (Ev.now _)
 rw [toList_nil,← c,pktText_nil,hok] at h
 cases h
theorem sPkt_none (s : ByteArray) (k a p b q n : Int) (t : ByteArray) (ht : t.size ≤ 140737488355328) (hno : ¬ (pktOk k a p b q n (bytesOf t) = true ∧ pktText k a p b q n (bytesOf t) = bytesOf s)) :
  Ev (fun r=>(spec_PktText.f r k a p b q n t).bind fun u=>if u.toList = s.toList then (if s.toList = ([] : List UInt8) then some noP else some ((k,a,p,b,q,n,t,true) : PR)) else some noP) noP:=by
 obtain ⟨u,hu,eu⟩:=sPktText k a p b q n t ht
 refine Ev.bind hu ?_
 by_cases c : pktText k a p b q n (bytesOf t) = bytesOf s
 ·refine Ev.pos (bytesOf_toList.2 (eu.trans c)) ?_
  have hok : ¬ pktOk k a p b q n (bytesOf t) = true:=fun h=>hno ⟨h,c⟩
  refine Ev.pos ?_ (Ev.now _)
  rw [toList_nil,← c,pktText_nil]
  simpa using hok
 ·exact Ev.neg (fun h=>c (eu.symm.trans (bytesOf_toList.1 h))) (Ev.now _)
theorem sPktRead_yes (s : ByteArray) (k a p b q n : Int) (l : List Int) (h : pktOk k a p b q n l = true) (e : pktText k a p b q n l = bytesOf s) :
  ∃ t,bytesOf t = l ∧ Ev (fun r=>spec_PktRead.f r s) (k,a,p,b,q,n,t,true):=by
 have h58:=pktText_len k a p b q n l
 rw [e,bytesOf_size] at h58
 obtain ⟨ws,e0,hw⟩:=sCut s (by omega)
 have hW:=words_of hw h e
 obtain ⟨⟨h1,h2⟩,h3,h4⟩:=(pktOk_iff _ _ _ _ _ _ _).1 h
 have l3:=wd_len s ws hw 3
 have l4:=wd_len s ws hw 4
 have E1:=sEndRead (rdOf ByteArray.empty ws ((1 : Nat) : Int))
 have E2:=sEndRead (rdOf ByteArray.empty ws ((2 : Nat) : Int))
 obtain ⟨v,hv,hvn⟩:=sDec (rdOf ByteArray.empty ws ((3 : Nat) : Int)) (by omega)
 unfold spec_PktRead.f
 rcases h4 with ⟨rfl,ht,hn⟩|⟨rfl,rfl⟩
 ·unfold pktWords at hW
  rw [if_neg (by decide)] at hW
  have hlen : ws.length = 5:=by have:=congrArg List.length hW;simpa using this
  have w1 : bytesOf (rdOf ByteArray.empty ws ((1 : Nat) : Int)) = endText a p:=word_at hW 1 _ rfl
  have w2 : bytesOf (rdOf ByteArray.empty ws ((2 : Nat) : Int)) = endText b q:=word_at hW 2 _ rfl
  have w3 : bytesOf (rdOf ByteArray.empty ws ((3 : Nat) : Int)) = dec n:=word_at hW 3 _ rfl
  have w4 : bytesOf (rdOf ByteArray.empty ws ((4 : Nat) : Int)) = l:=word_at hW 4 _ rfl
  rw [w1,readE_text a p h1] at E1
  rw [w2,readE_text b q h2] at E2
  obtain rfl:=hvn n h3.1 h3.2 w3
  refine ⟨_,w4,?_⟩
  refine Ev.neg (by omega) ?_
  refine Ev.bind e0 ?_
  refine Ev.call (l6In_eq _ _ _) ?_
  refine Ev.pos (decide_eq_true (by omega)) ?_
  refine Ev.pos (by omega) ?_
  refine Ev.bind hv ?_
  refine Ev.pos (by omega) ?_
  refine Ev.bind E1 ?_
  refine Ev.pos (by omega) ?_
  refine Ev.bind E2 ?_
  refine Ev.pos (by omega) ?_
  refine Ev.pos (by omega) ?_
  exact sPkt_fin s 1 a p b q v (rdOf ByteArray.empty ws ((4 : Nat) : Int)) (by omega) (by rw [w4];exact h) (by rw [w4];exact e)
 ·unfold pktWords at hW
  rw [if_pos rfl] at hW
  have hlen : ws.length = 4:=by have:=congrArg List.length hW;simpa using this
  have w1 : bytesOf (rdOf ByteArray.empty ws ((1 : Nat) : Int)) = endText a p:=word_at hW 1 _ rfl
  have w2 : bytesOf (rdOf ByteArray.empty ws ((2 : Nat) : Int)) = endText b q:=word_at hW 2 _ rfl
  have w3 : bytesOf (rdOf ByteArray.empty ws ((3 : Nat) : Int)) = dec n:=word_at hW 3 _ rfl
  rw [w1,readE_text a p h1] at E1
  rw [w2,readE_text b q h2] at E2
  obtain rfl:=hvn n h3.1 h3.2 w3
  refine ⟨(⟨#[]⟩ : ByteArray),rfl,?_⟩
  refine Ev.neg (by omega) ?_
  refine Ev.bind e0 ?_
  refine Ev.call (l6In_eq _ _ _) ?_
  refine Ev.pos (decide_eq_true (by omega)) ?_
  refine Ev.pos (by omega) ?_
  refine Ev.bind hv ?_
  refine Ev.pos (by omega) ?_
  refine Ev.bind E1 ?_
  refine Ev.pos (by omega) ?_
  refine Ev.bind E2 ?_
  refine Ev.neg (by omega) ?_
  exact sPkt_fin s 2 a p b q v (⟨#[]⟩ : ByteArray) (Nat.zero_le _) h e
theorem sPktRead_no (s : ByteArray) (hs : s.size ≤ 4294967280) (hn : ¬ isP s) : Ev (fun r=>spec_PktRead.f r s) noP:=by
 unfold spec_PktRead.f
 refine Ev.ite (fun _=>Ev.now _) (fun h70=>?_)
 obtain ⟨ws,e0,hw⟩:=sCut s (by omega)
 have l3:=wd_len s ws hw 3
 have l4:=wd_len s ws hw 4
 obtain ⟨v,hv,_⟩:=sDec (rdOf ByteArray.empty ws ((3 : Nat) : Int)) (by omega)
 refine Ev.bind e0 ?_
 refine Ev.call (l6In_eq _ _ _) ?_
 have no : ∀ (k a p b q n : Int) (t : ByteArray),t.size ≤ 140737488355328 → Ev (fun r=>(spec_PktText.f r k a p b q n t).bind fun u=>if u.toList = s.toList then (if s.toList = ([] : List UInt8) then some noP else some ((k,a,p,b,q,n,t,true) : PR)) else some noP) noP:=by
  intro k a p b q n t ht
  exact sPkt_none s k a p b q n t ht (fun h=>hn ⟨k,a,p,b,q,n,_,h.1,h.2⟩)
 refine Ev.ite (fun h=>?_) (fun _=>Ev.now _)
 have h:=of_decide_eq_true h
 refine Ev.pos (by omega) ?_
 refine Ev.bind hv ?_
 refine Ev.pos (by omega) ?_
 refine Ev.bind (sEndRead (rdOf ByteArray.empty ws ((1 : Nat) : Int))) ?_
 refine Ev.pos (by omega) ?_
 refine Ev.bind (sEndRead (rdOf ByteArray.empty ws ((2 : Nat) : Int))) ?_
 refine Ev.ite (fun h5=>?_) (fun _=>no _ _ _ _ _ _ _ (Nat.zero_le _))
 refine Ev.pos (by omega) ?_
 exact no _ _ _ _ _ _ (rdOf ByteArray.empty ws ((4 : Nat) : Int)) (by omega)
/-- PktRead, of the program and of the reference: the packet whose text this is, or none. -/
theorem pktRead (s : ByteArray) (hs : s.size ≤ 4294967280) : ∃ R : PR,Ev (fun r=>impl_PktRead.f r s) R ∧ Ev (fun r=>spec_PktRead.f r s) R ∧
  ((R = noP ∧ ¬ isP s) ∨ ∃ k a p b q n t,R = (k,a,p,b,q,n,t,true) ∧ pktOk k a p b q n (bytesOf t) = true ∧ pktText k a p b q n (bytesOf t) = bytesOf s):=by
 by_cases h : isP s
 ·obtain ⟨k,a,p,b,q,n,l,h1,h2⟩:=h
  obtain ⟨t,ht,e1⟩:=iPktRead_yes s k a p b q n l h1 h2
  obtain ⟨u,hu,e2⟩:=sPktRead_yes s k a p b q n l h1 h2
  obtain rfl : t = u:=bytesOf_inj (ht.trans hu.symm)
  subst ht
  exact ⟨_,e1,e2,.inr ⟨k,a,p,b,q,n,t,rfl,h1,h2⟩⟩
 ·exact ⟨noP,iPktRead_no s hs h,sPktRead_no s hs h,.inl ⟨rfl,h⟩⟩
theorem drawPktRead_ev (l : List Int) (hc : Code l) : ∃ s,Ev (fun r=>spec_DrawPktRead.f r l) s ∧ s.size ≤ 100:=by
 obtain ⟨b,eb,hb,hl⟩:=open_eq l hc
 obtain ⟨k,a,q,a',q',m,x,p1,e1,h1,h2,h3⟩:=pkt_ev b hb 0 (by omega) (by omega) (by omega)
 obtain ⟨t,ht,et⟩:=sPktText k a q a' q' m x (by omega)
 have lt : t.size ≤ 58:=by rw [← bytesOf_size,et];exact pktText_len _ _ _ _ _ _ _
 have hw : wrap64 ((t.size : Int) + 1) = (t.size : Int) + 1:=wrap_id (by omega) (by omega)
 obtain ⟨n,hn,n0,n1,_⟩:=pick_ev b hb p1 ((t.size : Int) + 1) (by omega) (by omega) (by omega)
 have n2:=n1 (by omega)
 obtain ⟨c,hcc,c0,_⟩:=pick_ev b hb (p1 + 1) 8 (by omega) (by omega) (by omega)
 by_cases e0 : c = 0
 ·refine ⟨t.extract 0 n.toNat,?_,by rw [ByteArray.size_extract];omega⟩
  unfold spec_DrawPktRead.f
  refine Ev.call eb ?_
  refine Ev.bind e1 ?_
  refine Ev.bind ht ?_
  rw [hw]
  refine Ev.bind hn ?_
  refine Ev.bind hcc ?_
  refine Ev.pos e0 ?_
  refine Ev.pos n0 ?_
  refine Ev.pos (show n ≤ (t.size : Int) from by omega) ?_
  exact Ev.now _
 ·by_cases e2 : c = 1
  ·obtain ⟨y,hm,hx⟩:=of_ev b hb (p1 + 1 + 1) (by omega) (by omega) (by omega) [(⟨#[48]⟩ : ByteArray),(⟨#[32]⟩ : ByteArray),(⟨#[97]⟩ : ByteArray),(⟨#[32,120]⟩ : ByteArray),(⟨#[57]⟩ : ByteArray)] (by decide)
   have hs : y.size ≤ 2:=by
    simp only [List.mem_cons,List.not_mem_nil,or_false] at hm
    rcases hm with rfl|rfl|rfl|rfl|rfl <;> decide
   refine ⟨((t.extract 0 n.toNat) ++ y) ++ (t.extract n.toNat t.size),?_,?_⟩
   ·unfold spec_DrawPktRead.f
    refine Ev.call eb ?_
    refine Ev.bind e1 ?_
    refine Ev.bind ht ?_
    rw [hw]
    refine Ev.bind hn ?_
    refine Ev.bind hcc ?_
    refine Ev.neg e0 ?_
    refine Ev.pos e2 ?_
    refine Ev.pos n0 ?_
    refine Ev.pos (show n ≤ (t.size : Int) from by omega) ?_
    refine Ev.bind hx ?_
    refine Ev.pos (show n.toNat + y.size ≤ 9223372036854775807 from by omega) ?_
    refine Ev.pos (show n.toNat + y.size + (t.size - n.toNat) ≤ 9223372036854775807 from by omega) ?_
    exact Ev.now _
   ·rw [ByteArray.size_append,ByteArray.size_append,ByteArray.size_extract,ByteArray.size_extract];omega
  ·refine ⟨t,?_,by omega⟩
   unfold spec_DrawPktRead.f
   refine Ev.call eb ?_
   refine Ev.bind e1 ?_
   refine Ev.bind ht ?_
   rw [hw]
   refine Ev.bind hn ?_
   refine Ev.bind hcc ?_
   refine Ev.neg e0 ?_
   refine Ev.neg e2 ?_
   exact Ev.now _
theorem FnPktStrict : laws_FnPktStrict.Pure:=by
 intro l hl hb hw
 apply Ev.rounds
 unfold laws_FnPktStrict.f
 refine Ev.ite (fun _=>Ev.now _) (fun hsmall=>?_)
 obtain ⟨s,e,hs⟩:=drawPktRead_ev l (code_of hw)
 obtain ⟨R,e1,e2,cR⟩:=pktRead s (by omega)
 refine Ev.bind e ?_
 refine Ev.bind e2 ?_
 refine Ev.bind e1 ?_
 refine Ev.neg (by simp) ?_
 refine Ev.neg (by simp) ?_
 refine Ev.step (f:=fun r=>_) (fun r=>by simp only [laws_FnPktStrict.j0];rfl) ?_
 rcases cR with ⟨rfl,_⟩|⟨k,a,p,b,q,n,t,rfl,g1,g2⟩
 ·refine Ev.pos rfl ?_
  refine Ev.pos rfl ?_
  simp only [BEq.rfl,Bool.and_self]
  exact Ev.now _
 ·have h58:=pktText_len k a p b q n (bytesOf t)
  have ht : t.size ≤ 140737488355328:=by
   have h40 : (bytesOf t).length ≤ 40:=by
    rcases ((pktOk_iff _ _ _ _ _ _ _).1 g1).2.2 with ⟨_,h,_⟩|⟨_,h⟩
    ·simp only [textOk,Bool.and_eq_true,decide_eq_true_eq] at h;exact h.2
    ·rw [h];simp
   rw [bytesOf_size] at h40
   omega
  obtain ⟨y,hy,ey⟩:=iPktText k a p b q n t ht
  refine Ev.neg (by simp) ?_
  refine Ev.call (iPktOk k a p b q n t ht) ?_
  refine Ev.pos g1 ?_
  refine Ev.call hy ?_
  rw [beq_bytes,ey,g2,BEq.rfl]
  exact Ev.now _
end Go.Proofs.YtejpgpjjocbbjaaDoor.Pure
