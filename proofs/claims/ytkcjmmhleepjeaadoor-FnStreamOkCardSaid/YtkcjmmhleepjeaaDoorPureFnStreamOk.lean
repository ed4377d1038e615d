/- The law on streams in form, as plain Lean: a stream has a part of each piece. -/
import Derived.Test.YtkcjmmhleepjeaaDoorV
import Derived.Lib.Strings
import Derived.Lib.IndexBytes
import Derived.Lib.IndexMore
import Derived.IntWalk
import Derived.Laws.Bits64
import Derived.Test.YtkcjmmhleepjeaaDoorAx2
import Derived.Test.YtkcjmmhleepjeaaDoorAx3
import Derived.Test.YtkcjmmhleepjeaaDoorAx4
import Derived.Test.YtkcjmmhleepjeaaDoorAx5
import Derived.Test.YtkcjmmhleepjeaaDoorAx6
import Derived.Test.YtkcjmmhleepjeaaDoorAx7
import Derived.Test.YtkcjmmhleepjeaaDoorAx8
import Derived.Test.YtkcjmmhleepjeaaDoorAx9
import Derived.Test.YtkcjmmhleepjeaaDoorAx10
import Derived.Test.YtkcjmmhleepjeaaDoorAx11
import Derived.Test.YtkcjmmhleepjeaaDoorAx12
import Derived.Test.YtkcjmmhleepjeaaDoorAx13
import Derived.Test.YtkcjmmhleepjeaaDoorAx14
import Derived.Test.YtkcjmmhleepjeaaDoorAx15
import Derived.Test.YtkcjmmhleepjeaaDoorAx16
namespace Go.Proofs.YtkcjmmhleepjeaaDoor.Plain
open Go.Proofs.YtkcjmmhleepjeaaDoorW.PrintWords Go.RowKit
set_option linter.unusedVariables false
set_option linter.unusedSimpArgs false
def okb (c : Int) : Bool:=decide ((97 ≤ c ∧ c ≤ 122) ∨ (48 ≤ c ∧ c ≤ 57) ∨ c = 64 ∨ c = 58 ∨ c = 59)
def textOk (l : List Int) : Bool:=l.all okb && decide (l.length ≤ 40)
def inE (a p : Int) : Bool:=decide (1 ≤ a ∧ a ≤ 3 ∧ 1 ≤ p ∧ p ≤ 9)
def outE (a p : Int) : Bool:=decide (4 ≤ a ∧ a ≤ 6 ∧ 1 ≤ p ∧ p ≤ 9)
def doorE (a p : Int) : Bool:=decide (a = 9 ∧ 10 ≤ p ∧ p ≤ 17)
def anyE (a p : Int) : Bool:=inE a p || outE a p || doorE a p
def dec (n : Int) : List Int:=if n < 10 then [48 + n] else [48 + n / 10,48 + n % 10]
def endText (a p : Int) : List Int:=if anyE a p then dec a ++ 58 :: dec p else []
def endRead (l : List Int) : Option (Int × Int) :=
 match l with
 | [x,c,y]=>if c = 58 ∧ 49 ≤ x ∧ x ≤ 54 ∧ 49 ≤ y ∧ y ≤ 57 then some (x - 48,y - 48) else none
 | [x,c,y,z]=>if x = 57 ∧ c = 58 ∧ y = 49 ∧ 48 ≤ z ∧ z ≤ 55 then some (9,z - 38) else none
 | _=>none
theorem anyE_iff (a p : Int) : anyE a p = true ↔ (1 ≤ a ∧ a ≤ 6 ∧ 1 ≤ p ∧ p ≤ 9) ∨ (a = 9 ∧ 10 ≤ p ∧ p ≤ 17):=by
 simp only [anyE,inE,outE,doorE,Bool.or_eq_true,decide_eq_true_eq];omega
theorem endText_host (a p : Int) (h : 1 ≤ a ∧ a ≤ 6 ∧ 1 ≤ p ∧ p ≤ 9) : endText a p = [48 + a,58,48 + p]:=by
 have : anyE a p = true:=(anyE_iff a p).2 (.inl h)
 simp only [endText,this,if_true,dec]
 rw [if_pos (by omega),if_pos (by omega)];rfl
theorem endText_door (p : Int) (h : 10 ≤ p ∧ p ≤ 17) : endText 9 p = [57,58,49,38 + p]:=by
 have : anyE 9 p = true:=(anyE_iff 9 p).2 (.inr ⟨rfl,h.1,h.2⟩)
 simp only [endText,this,if_true,dec]
 rw [if_pos (by omega),if_neg (by omega)]
 have h1 : 48 + p / 10 = 49:=by omega
 have h2 : 48 + p % 10 = 38 + p:=by omega
 simp [h1,h2]
theorem endText_none (a p : Int) (h : anyE a p = false) : endText a p = []:=by simp [endText,h]
theorem endRead_iff (l : List Int) (a p : Int) : endRead l = some (a,p) ↔ anyE a p = true ∧ endText a p = l:=by
 constructor
 ·intro h
  unfold endRead at h
  split at h
  ·rename_i x c y
   split at h
   ·rename_i hc
    simp only [Option.some.injEq,Prod.mk.injEq] at h
    obtain ⟨rfl,rfl⟩:=h
    have h3 : 1 ≤ x - 48 ∧ x - 48 ≤ 6 ∧ 1 ≤ y - 48 ∧ y - 48 ≤ 9:=by omega
    refine ⟨(anyE_iff _ _).2 (.inl h3),?_⟩
    rw [endText_host _ _ h3]
    have h4 : 48 + (x - 48) = x:=by omega
    have h5 : 48 + (y - 48) = y:=by omega
    rw [h4,h5,hc.1]
   ·cases h
  ·rename_i x c y z
   split at h
   ·rename_i hc
    simp only [Option.some.injEq,Prod.mk.injEq] at h
    obtain ⟨rfl,rfl⟩:=h
    have h3 : 10 ≤ z - 38 ∧ z - 38 ≤ 17:=by omega
    refine ⟨(anyE_iff _ _).2 (.inr ⟨rfl,h3⟩),?_⟩
    rw [endText_door _ h3]
    have h4 : 38 + (z - 38) = z:=by omega
    rw [h4,hc.1,hc.2.1,hc.2.2.1]
   ·cases h
  ·cases h
 ·rintro ⟨h1,rfl⟩
  rcases (anyE_iff a p).1 h1 with h2|⟨rfl,h2⟩
  ·rw [endText_host a p h2]
   simp only [endRead]
   rw [if_pos ⟨trivial,by omega,by omega,by omega,by omega⟩]
   have h4 : 48 + a - 48 = a:=by omega
   have h5 : 48 + p - 48 = p:=by omega
   rw [h4,h5]
  ·rw [endText_door p h2]
   simp only [endRead]
   rw [if_pos ⟨trivial,trivial,trivial,by omega,by omega⟩]
   have h5 : 38 + p - 38 = p:=by omega
   rw [h5]
theorem endRead_endText (a p : Int) (h : anyE a p = true) : endRead (endText a p) = some (a,p):=(endRead_iff _ a p).2 ⟨h,rfl⟩
def begins (l : List Int) : Bool :=
 match l with
 | [a]=>decide (a = 64)
 | [a,b]=>decide (a = 64 ∧ 49 ≤ b ∧ b ≤ 57)
 | [a,b,c]=>decide (a = 64 ∧ 49 ≤ b ∧ b ≤ 57 ∧ c = 58)
 | [a,b,c,d]=>decide (a = 64 ∧ 49 ≤ b ∧ b ≤ 57 ∧ c = 58 ∧ 49 ≤ d ∧ d ≤ 57)
 | [a,b,c,d,e]=>decide (a = 64 ∧ 49 ≤ b ∧ b ≤ 57 ∧ c = 58 ∧ 49 ≤ d ∧ d ≤ 57 ∧ 48 ≤ e ∧ e ≤ 57)
 | _=>false
def heldFrom (l : List Int) : Nat → Nat
 | 0=>0
 | n + 1=>if begins (l.drop (l.length - (n + 1))) = true then n + 1 else heldFrom l n
def held (l : List Int) : Nat:=heldFrom l (min 5 l.length)
theorem begins_len {l : List Int} (h : begins l = true) : 1 ≤ l.length ∧ l.length ≤ 5:=by
 unfold begins at h
 split at h <;> first|(simp;done)|(cases h)
theorem heldFrom_le (l : List Int) : ∀ n,heldFrom l n ≤ n
 | 0=>Nat.le_refl _
 | n + 1=>by
  unfold heldFrom
  split
  ·exact Nat.le_refl _
  ·exact Nat.le_succ_of_le (heldFrom_le l n)
theorem held_le (l : List Int) : held l ≤ l.length:=Nat.le_trans (heldFrom_le l _) (by omega)
theorem heldFrom_begins (l : List Int) : ∀ n,0 < heldFrom l n → begins (l.drop (l.length - heldFrom l n)) = true
 | 0,h=>absurd h (Nat.lt_irrefl 0)
 | n + 1,h=>by
  unfold heldFrom at h ⊢
  split
  ·rename_i hb;exact hb
  ·rename_i hb
   rw [if_neg hb] at h
   exact heldFrom_begins l n h
theorem held_begins (l : List Int) (h : 0 < held l) : begins (l.drop (l.length - held l)) = true:=heldFrom_begins l _ h
theorem heldFrom_ge (l : List Int) (m : Nat) (hm : begins (l.drop (l.length - m)) = true) (h1 : 1 ≤ m) : ∀ n,m ≤ n → m ≤ heldFrom l n
 | 0,h=>by omega
 | n + 1,h=>by
  unfold heldFrom
  split
  ·exact h
  ·rename_i hb
   by_cases e : m = n + 1
   ·rw [e] at hm;exact absurd hm hb
   ·exact heldFrom_ge l m hm h1 n (by omega)
theorem held_ge (l : List Int) (m : Nat) (hm : begins (l.drop (l.length - m)) = true) (h1 : 1 ≤ m) (h2 : m ≤ l.length) : m ≤ held l:=by
 have h3:=begins_len hm
 rw [List.length_drop] at h3
 exact heldFrom_ge l m hm h1 _ (by omega)
theorem begins_take {l : List Int} (h : begins l = true) (k : Nat) (h1 : 1 ≤ k) : begins (l.take k) = true:=by
 unfold begins at h
 split at h
 ·rename_i a
  match k,h1 with
  | k + 1,_=>simpa [begins] using h
 ·rename_i a b
  simp only [decide_eq_true_eq] at h
  match k,h1 with
  | 1,_=>simp [begins];omega
  | k + 2,_=>simp [begins];omega
 ·rename_i a b c
  simp only [decide_eq_true_eq] at h
  match k,h1 with
  | 1,_=>simp [begins];omega
  | 2,_=>simp [begins];omega
  | k + 3,_=>simp [begins];omega
 ·rename_i a b c d
  simp only [decide_eq_true_eq] at h
  match k,h1 with
  | 1,_=>simp [begins];omega
  | 2,_=>simp [begins];omega
  | 3,_=>simp [begins];omega
  | k + 4,_=>simp [begins];omega
 ·rename_i a b c d e
  simp only [decide_eq_true_eq] at h
  match k,h1 with
  | 1,_=>simp [begins];omega
  | 2,_=>simp [begins];omega
  | 3,_=>simp [begins];omega
  | 4,_=>simp [begins];omega
  | k + 5,_=>simp [begins];omega
 ·cases h
theorem begins_at {l : List Int} (h : begins l = true) (i : Nat) (hi : i < l.length) : (l.getD i 0 = 64 ↔ i = 0) ∧ l.getD i 0 ≠ 59:=by
 unfold begins at h
 split at h
 ·rename_i a
  simp only [decide_eq_true_eq] at h
  match i,hi with
  | 0,_=>simp;omega
 ·rename_i a b
  simp only [decide_eq_true_eq] at h
  match i,hi with
  | 0,_=>simp;omega
  | 1,_=>simp;omega
 ·rename_i a b c
  simp only [decide_eq_true_eq] at h
  match i,hi with
  | 0,_=>simp;omega
  | 1,_=>simp;omega
  | 2,_=>simp;omega
 ·rename_i a b c d
  simp only [decide_eq_true_eq] at h
  match i,hi with
  | 0,_=>simp;omega
  | 1,_=>simp;omega
  | 2,_=>simp;omega
  | 3,_=>simp;omega
 ·rename_i a b c d e
  simp only [decide_eq_true_eq] at h
  match i,hi with
  | 0,_=>simp;omega
  | 1,_=>simp;omega
  | 2,_=>simp;omega
  | 3,_=>simp;omega
  | 4,_=>simp;omega
 ·cases h
structure Pc where
 size : Nat
 named : Bool
 addr : Int
 port : Int
deriving DecidableEq
def nameAt (l : List Int) : Option (Int × Int × Nat) :=
 match l with
 | a :: x :: c :: y :: d :: t =>
  if a = 64 ∧ c = 58 ∧ 49 ≤ x ∧ x ≤ 54 ∧ 49 ≤ y ∧ y ≤ 57 ∧ d = 59 then some (x - 48,y - 48,5)
  else match t with
   | f :: _=>if a = 64 ∧ x = 57 ∧ c = 58 ∧ y = 49 ∧ 48 ≤ d ∧ d ≤ 55 ∧ f = 59 then some (9,d - 38,6) else none
   | []=>none
 | _=>none
def pieceOf (l : List Int) : Pc :=
 match nameAt l with
 | some (a,p,n)=>⟨n,true,a,p⟩
 | none=>⟨1,false,0,0⟩
def toksN : Nat → List Int → List Pc
 | 0,_=>[]
 | k + 1,l=>if l = [] then [] else pieceOf l :: toksN k (l.drop (pieceOf l).size)
def toks (l : List Int) : List Pc:=toksN l.length l
def pieces (l : List Int) : List Pc:=toks (l.take (l.length - held l))
def name (a p : Int) : List Int:=64 :: (endText a p ++ [59])
theorem name_host (a p : Int) (h : 1 ≤ a ∧ a ≤ 6 ∧ 1 ≤ p ∧ p ≤ 9) : name a p = [64,48 + a,58,48 + p,59]:=by
 simp [name,endText_host a p h]
theorem name_door (p : Int) (h : 10 ≤ p ∧ p ≤ 17) : name 9 p = [64,57,58,49,38 + p,59]:=by
 simp [name,endText_door p h]
theorem nameAt_iff (l : List Int) (a p : Int) (n : Nat) : nameAt l = some (a,p,n) ↔ anyE a p = true ∧ n = (name a p).length ∧ ∃ r,l = name a p ++ r:=by
 constructor
 ·intro h
  unfold nameAt at h
  split at h
  ·rename_i a' x c y d t
   split at h
   ·rename_i hc
    simp only [Option.some.injEq,Prod.mk.injEq] at h
    obtain ⟨rfl,rfl,rfl⟩:=h
    have h3 : 1 ≤ x - 48 ∧ x - 48 ≤ 6 ∧ 1 ≤ y - 48 ∧ y - 48 ≤ 9:=by omega
    refine ⟨(anyE_iff _ _).2 (.inl h3),by rw [name_host _ _ h3];rfl,t,?_⟩
    rw [name_host _ _ h3]
    have h4 : 48 + (x - 48) = x:=by omega
    have h5 : 48 + (y - 48) = y:=by omega
    obtain ⟨e1,e2,_,_,_,_,e3⟩:=hc
    rw [h4,h5,e1,e2,e3];rfl
   ·split at h
    ·rename_i f t
     split at h
     ·rename_i hc
      simp only [Option.some.injEq,Prod.mk.injEq] at h
      obtain ⟨rfl,rfl,rfl⟩:=h
      have h3 : 10 ≤ d - 38 ∧ d - 38 ≤ 17:=by omega
      refine ⟨(anyE_iff _ _).2 (.inr ⟨rfl,h3⟩),by rw [name_door _ h3];rfl,t,?_⟩
      rw [name_door _ h3]
      have h4 : 38 + (d - 38) = d:=by omega
      obtain ⟨e1,e2,e3,e4,_,_,e5⟩:=hc
      rw [h4,e1,e2,e3,e4,e5];rfl
     ·cases h
    ·cases h
  ·cases h
 ·rintro ⟨h1,rfl,r,rfl⟩
  rcases (anyE_iff a p).1 h1 with h2|⟨rfl,h2⟩
  ·rw [name_host a p h2]
   simp only [List.cons_append,List.nil_append,nameAt]
   rw [if_pos ⟨trivial,trivial,by omega,by omega,by omega,by omega,trivial⟩]
   have h4 : 48 + a - 48 = a:=by omega
   have h5 : 48 + p - 48 = p:=by omega
   simp [h4,h5]
  ·rw [name_door p h2]
   simp only [List.cons_append,List.nil_append,nameAt]
   rw [if_neg (by simp),if_pos ⟨trivial,trivial,trivial,trivial,by omega,by omega,trivial⟩]
   have h5 : 38 + p - 38 = p:=by omega
   simp [h5]
theorem name_len (a p : Int) (h : anyE a p = true) : (name a p).length = 5 ∨ (name a p).length = 6:=by
 rcases (anyE_iff a p).1 h with h2|⟨rfl,h2⟩
 ·left;rw [name_host a p h2];rfl
 ·right;rw [name_door p h2];rfl
theorem name_at (a p : Int) (h : anyE a p = true) (i : Nat) (hi : i < (name a p).length) : (name a p).getD i 0 = 64 ↔ i = 0:=by
 rcases (anyE_iff a p).1 h with h2|⟨rfl,h2⟩
 ·rw [name_host a p h2] at hi ⊢
  match i,hi with
  | 0,_=>simp
  | 1,_=>simp;omega
  | 2,_=>simp
  | 3,_=>simp;omega
  | 4,_=>simp
 ·rw [name_door p h2] at hi ⊢
  match i,hi with
  | 0,_=>simp
  | 1,_=>simp
  | 2,_=>simp
  | 3,_=>simp
  | 4,_=>simp;omega
  | 5,_=>simp
theorem name_begins (a p : Int) (h : anyE a p = true) (k : Nat) (h1 : 1 ≤ k) (h2 : k < (name a p).length) : begins ((name a p).take k) = true:=by
 rcases (anyE_iff a p).1 h with h3|⟨rfl,h3⟩
 ·rw [name_host a p h3] at h2 ⊢
  match k,h1,h2 with
  | 1,_,_=>simp [begins]
  | 2,_,_=>simp [begins];omega
  | 3,_,_=>simp [begins];omega
  | 4,_,_=>simp [begins];omega
 ·rw [name_door p h3] at h2 ⊢
  match k,h1,h2 with
  | 1,_,_=>simp [begins]
  | 2,_,_=>simp [begins]
  | 3,_,_=>simp [begins]
  | 4,_,_=>simp [begins]
  | 5,_,_=>simp [begins];omega
theorem pieceOf_size (l : List Int) (h : l ≠ []) : 1 ≤ (pieceOf l).size ∧ (pieceOf l).size ≤ l.length:=by
 unfold pieceOf
 split
 ·rename_i a p n hn
  obtain ⟨h1,rfl,r,rfl⟩:=(nameAt_iff l a p n).1 hn
  have:=name_len a p h1
  simp only [List.length_append]
  omega
 ·have : 0 < l.length:=List.length_pos_iff.2 h
  simp only
  omega
theorem toksN_more : ∀ (n : Nat) (l : List Int),l.length ≤ n → toksN n l = toks l
 | 0,l,h=>by
  have : l = []:=List.eq_nil_of_length_eq_zero (by omega)
  subst this;rfl
 | n + 1,l,h=>by
  unfold toks
  by_cases hl : l = []
  ·subst hl;simp [toksN]
  ·have hs:=pieceOf_size l hl
   have hp : 0 < l.length:=List.length_pos_iff.2 hl
   obtain ⟨m,hm⟩ : ∃ m,l.length = m + 1:=⟨l.length - 1,by omega⟩
   rw [hm]
   simp only [toksN,if_neg hl]
   congr 1
   rw [toksN_more n _ (by rw [List.length_drop];omega)]
   by_cases e : m = n
   ·subst e;exact (toksN_more m _ (by rw [List.length_drop];omega)).symm
   ·have : (l.drop (pieceOf l).size).length ≤ m:=by rw [List.length_drop];omega
    exact (toksN_more m _ this).symm
termination_by n=>n
theorem toks_nil : toks [] = []:=rfl
theorem toks_cons (l : List Int) (h : l ≠ []) : toks l = pieceOf l :: toks (l.drop (pieceOf l).size):=by
 have hp : 0 < l.length:=List.length_pos_iff.2 h
 have hs:=pieceOf_size l h
 obtain ⟨m,hm⟩ : ∃ m,l.length = m + 1:=⟨l.length - 1,by omega⟩
 have e : toks l = toksN (m + 1) l:=by unfold toks;rw [hm]
 rw [e]
 simp only [toksN,if_neg h]
 congr 1
 exact toksN_more m _ (by rw [List.length_drop];omega)
def Cut (u v : List Int) : Prop:=∀ (i : Nat) (a p : Int),i < u.length → anyE a p = true → (∃ r,(u ++ v).drop i = name a p ++ r) → i + (name a p).length ≤ u.length
theorem cut_drop {u v : List Int} (h : Cut u v) (k : Nat) (hk : k ≤ u.length) : Cut (u.drop k) v:=by
 intro i a p hi ha hr
 rw [List.length_drop] at hi ⊢
 have:=h (k + i) a p (by omega) ha (by
  obtain ⟨r,hr⟩:=hr
  refine ⟨r,?_⟩
  rw [← hr,← List.drop_drop,List.drop_append_of_le_length hk])
 omega
theorem pieceOf_append {u v : List Int} (h : Cut u v) (hu : u ≠ []) : pieceOf (u ++ v) = pieceOf u:=by
 have hp : 0 < u.length:=List.length_pos_iff.2 hu
 have e : nameAt (u ++ v) = nameAt u:=by
  cases h1 : nameAt (u ++ v) with
  | none =>
   cases h2 : nameAt u with
   | none=>rfl
   | some x =>
    obtain ⟨a,p,n⟩:=x
    obtain ⟨ha,rfl,r,hr⟩:=(nameAt_iff u a p n).1 h2
    have:=(nameAt_iff (u ++ v) a p _).2 ⟨ha,rfl,r ++ v,by rw [hr,List.append_assoc]⟩
    rw [h1] at this;cases this
  | some x =>
   obtain ⟨a,p,n⟩:=x
   obtain ⟨ha,rfl,r,hr⟩:=(nameAt_iff (u ++ v) a p n).1 h1
   have hl:=h 0 a p hp ha ⟨r,by simpa using hr⟩
   refine ((nameAt_iff u a p _).2 ⟨ha,rfl,u.drop (name a p).length,?_⟩).symm
   have e2 : u.take (name a p).length = name a p:=by
    have:=congrArg (List.take (name a p).length) hr
    rw [List.take_append_of_le_length (by omega),List.take_left] at this
    exact this
   conv=>lhs;rw [← List.take_append_drop (name a p).length u]
   rw [e2]
 unfold pieceOf
 rw [e]
theorem toks_append : ∀ (n : Nat) (u v : List Int),u.length ≤ n → Cut u v → toks (u ++ v) = toks u ++ toks v
 | 0,u,v,h,_=>by
  have : u = []:=List.eq_nil_of_length_eq_zero (by omega)
  subst this;rfl
 | n + 1,u,v,h,hc=>by
  by_cases hu : u = []
  ·subst hu;rfl
  ·have hs:=pieceOf_size u hu
   have hn : u ++ v ≠ []:=by simp [hu]
   rw [toks_cons _ hn,toks_cons u hu,pieceOf_append hc hu,List.drop_append_of_le_length hs.2,toks_append n _ v (by rw [List.length_drop];omega) (cut_drop hc _ hs.2)]
   rfl
theorem bytesOf_size (s : ByteArray) : (bytesOf s).length = s.size:=bytesOf_length s
theorem bt_rd (s : ByteArray) (i : Int) : bt s i = rd (bytesOf s) i:=(rd_bytesOf s i).symm
theorem bytesOf_range (s : ByteArray) : ∀ x ∈ bytesOf s,0 ≤ x ∧ x ≤ 255:=by
 intro x hx
 obtain ⟨b,_,rfl⟩:=List.mem_map.1 hx
 have:=b.toNat_lt
 omega
theorem bytesOf_append (s t : ByteArray) : bytesOf (s ++ t) = bytesOf s ++ bytesOf t:=by
 simp [bytesOf,ByteArray.data_append]
theorem bytesOf_extract (s : ByteArray) (a b : Nat) : bytesOf (s.extract a b) = ((bytesOf s).drop a).take (b - a):=by
 simp [bytesOf,Lib.extract_data]
theorem bytesOf_to_end (s : ByteArray) (a : Nat) : bytesOf (s.extract a s.size) = (bytesOf s).drop a:=by
 rw [bytesOf_extract,List.take_of_length_le]
 rw [List.length_drop,bytesOf_size]
 exact Nat.le_refl _
theorem bytesOf_from (s : ByteArray) (b : Nat) : bytesOf (s.extract 0 b) = (bytesOf s).take b:=by
 rw [bytesOf_extract];simp
theorem bytesOf_inj {s t : ByteArray} (h : bytesOf s = bytesOf t) : s = t:=by
 have h1 : s.data.toList = t.data.toList:=by
  unfold bytesOf at h
  exact (List.map_inj_right (fun a b e=>UInt8.toNat_inj.1 (by omega))).1 h
 have h2 : s.data = t.data:=Array.toList_inj.1 h1
 cases s;cases t;simp_all
theorem bytesOf_toList {s t : ByteArray} : s.toList = t.toList ↔ bytesOf s = bytesOf t:=by
 constructor
 ·intro h
  have : s.data.toList = t.data.toList:=by simpa [ByteArray.toList_eq] using h
  simp [bytesOf,this]
 ·intro h;rw [bytesOf_inj h]
theorem Ev.ite {α : Type} {c : Prop} [Decidable c] {g f : Nat → Option α} {r : α} (h1 : c → Ev g r) (h2 : ¬ c → Ev f r) : Ev (fun k=>if c then g k else f k) r:=by
 by_cases h : c
 ·simp only [if_pos h];exact h1 h
 ·simp only [if_neg h];exact h2 h
theorem Ev.pos {α : Type} {c : Prop} [Decidable c] {g f : Nat → Option α} {r : α} (h : c) (h1 : Ev g r) : Ev (fun k=>if c then g k else f k) r:=by
 simp only [if_pos h];exact h1
theorem Ev.neg {α : Type} {c : Prop} [Decidable c] {g f : Nat → Option α} {r : α} (h : ¬ c) (h1 : Ev f r) : Ev (fun k=>if c then g k else f k) r:=by
 simp only [if_neg h];exact h1
theorem Ev.call {α β : Type} {o : Option α} {a : α} {f : Nat → α → Option β} {r : β} (h : o = some a) (k : Ev (fun n=>f n a) r) : Ev (fun n=>o.bind (f n)) r:=by
 subst h;exact k
theorem wrap_id {n : Int} (h1 : -9223372036854775808 ≤ n) (h2 : n ≤ 9223372036854775807) : wrap64 n = n:=IntWalk.wrap64_in n ⟨h1,h2⟩
end Go.Proofs.YtkcjmmhleepjeaaDoor.Plain
namespace Go.Proofs.YtkcjmmhleepjeaaDoor.Pure
open Go.RowKit Go.Proofs.YtkcjmmhleepjeaaDoorW.PrintWords Go.Proofs.YtkcjmmhleepjeaaDoor.Plain Go.Proofs.YtkcjmmhleepjeaaDoor.A Go.Proofs.YtkcjmmhleepjeaaDoorW.PrintMore
set_option linter.unusedVariables false
set_option linter.unusedSimpArgs false
theorem l6In_eq (a b c : Int) : spec_l6In.f a b c = some (decide (b ≤ a ∧ a ≤ c)):=by
 unfold spec_l6In.f
 by_cases h : a ≥ b
 ·rw [if_pos h];simp;omega
 ·rw [if_neg h];simp;omega
theorem within_eq (a b c : Int) : impl_within.f a b c = some (decide (b ≤ a ∧ a ≤ c)):=by
 unfold impl_within.f
 by_cases h : a ≥ b
 ·rw [if_pos h];simp;omega
 ·rw [if_neg h];simp;omega
theorem sDoor_eq (a p : Int) : spec_EndDoor.f a p = some (doorE a p):=by
 unfold spec_EndDoor.f doorE
 by_cases h : a = 9
 ·rw [if_pos h,l6In_eq];simp [h]
 ·rw [if_neg h];simp [h]
theorem iDoor_eq (a p : Int) : impl_EndDoor.f a p = some (doorE a p):=by
 unfold impl_EndDoor.f doorE
 by_cases h : a = 9
 ·rw [if_pos h,within_eq];simp [h]
 ·rw [if_neg h];simp [h]
theorem host_eq (p : Int) (a : Int) : spec_l1Host.f a p = some (decide (1 ≤ p ∧ p ≤ 9)):=by
 unfold spec_l1Host.f;rw [l6In_eq];rfl
theorem sIn_eq (a p : Int) : spec_EndInside.f a p = some (inE a p):=by
 unfold spec_EndInside.f inE
 rw [l6In_eq,host_eq]
 by_cases h : 1 ≤ a ∧ a ≤ 3 <;> simp [h] <;> (try rw [eq_comm,decide_eq_false_iff_not]) <;> omega
theorem iIn_eq (a p : Int) : impl_EndInside.f a p = some (inE a p):=by
 unfold impl_EndInside.f inE
 rw [within_eq,within_eq]
 by_cases h : 1 ≤ a ∧ a ≤ 3 <;> simp [h] <;> (try rw [eq_comm,decide_eq_false_iff_not]) <;> omega
theorem sOut_eq (a p : Int) : spec_EndOutside.f a p = some (outE a p):=by
 unfold spec_EndOutside.f outE
 rw [l6In_eq,host_eq]
 by_cases h : 4 ≤ a ∧ a ≤ 6 <;> simp [h] <;> (try rw [eq_comm,decide_eq_false_iff_not]) <;> omega
theorem iOut_eq (a p : Int) : impl_EndOutside.f a p = some (outE a p):=by
 unfold impl_EndOutside.f outE
 rw [within_eq,within_eq]
 by_cases h : 4 ≤ a ∧ a ≤ 6 <;> simp [h] <;> (try rw [eq_comm,decide_eq_false_iff_not]) <;> omega
theorem l2Byte_eq (c : Int) : spec_l2Byte.f c = some (okb c):=by
 unfold spec_l2Byte.f okb
 repeat' split
 all_goals (congr 1;first|(symm;rw [decide_eq_true_eq];omega)|(rw [Bool.eq_iff_iff,beq_iff_eq,decide_eq_true_eq];omega))
theorem all_rd (s : ByteArray) (f : Int → Bool) : (bytesOf s).all f = true ↔ ∀ i : Nat,i < s.size → f (bt s i) = true:=by
 rw [List.all_eq_true]
 constructor
 ·intro h i hi
  have hl : i < (bytesOf s).length:=by rw [bytesOf_size];exact hi
  have e : bt s i = (bytesOf s)[i]:=by rw [bt_rd];simp [rd,List.getD_eq_getElem?_getD,List.getElem?_eq_getElem hl]
  rw [e];exact h _ (List.getElem_mem hl)
 ·intro h x hx
  obtain ⟨i,hl,rfl⟩:=List.getElem_of_mem hx
  have e : bt s i = (bytesOf s)[i]:=by rw [bt_rd];simp [rd,List.getD_eq_getElem?_getD,List.getElem?_eq_getElem hl]
  rw [← e];exact h i (by rwa [bytesOf_size] at hl)
theorem sTextOk_loop (s : ByteArray) (hs : s.size ≤ 9223372036854775806) : ∀ (d : Nat) (i : Nat),i + d = s.size → (∀ j : Nat,j < i → okb (bt s j) = true) → Ev (fun k=>spec_TextOk.l0 k s i) (textOk (bytesOf s)):=by
 intro d
 induction d with
 | zero =>
  intro i hi ha
  refine Ev.step (f:=fun _=>some (decide ((s.size : Int) ≤ 40))) (fun k=>?_) ?_
  ·simp only [spec_TextOk.l0];rw [if_neg (by omega)]
  ·have e : textOk (bytesOf s) = decide ((s.size : Int) ≤ 40):=by
    unfold textOk
    rw [(all_rd s okb).2 (fun j hj=>ha j (by omega)),bytesOf_size,Bool.true_and]
    by_cases h : s.size ≤ 40
    ·rw [decide_eq_true h,decide_eq_true (by omega)]
    ·rw [decide_eq_false h,decide_eq_false (by omega)]
   rw [e];exact Ev.now _
 | succ d ih =>
  intro i hi ha
  cases hb : okb (bt s i) with
  | true =>
   refine Ev.step (f:=fun k=>spec_TextOk.l0 k s ((i + 1 : Nat) : Int)) (fun k=>?_) (ih (i + 1) (by omega) (fun j hj=>?_))
   ·simp only [spec_TextOk.l0];rw [if_pos (by omega),if_pos (by omega),l2Byte_eq,hb,wrap_id (by omega) (by omega)];rfl
   ·by_cases e : j = i
    ·subst e;exact hb
    ·exact ha j (by omega)
  | false =>
   refine Ev.step (f:=fun _=>some false) (fun k=>?_) ?_
   ·simp only [spec_TextOk.l0];rw [if_pos (by omega),if_pos (by omega),l2Byte_eq,hb];rfl
   ·have e : textOk (bytesOf s) = false:=by
     unfold textOk
     rw [Bool.and_eq_false_iff];left
     cases h : (bytesOf s).all okb with
     | false=>rfl
     | true=>have:=(all_rd s okb).1 h i (by omega);rw [hb] at this;cases this
    rw [e];exact Ev.now _
theorem sTextOk (s : ByteArray) (hs : s.size ≤ 9223372036854775806) : Ev (fun k=>spec_TextOk.f k s) (textOk (bytesOf s)) :=
 sTextOk_loop s hs s.size 0 (by omega) (fun j hj=>absurd hj (Nat.not_lt_zero _))
theorem iTextOk (s : ByteArray) (hs : s.size ≤ 140737488355328) : impl_TextOk.f s = some (textOk (bytesOf s)):=by
 unfold impl_TextOk.f textOk
 rw [if_pos hs,bytesOf_size];rfl
theorem digit_eq (c : Int) (h : 0 ≤ c ∧ c ≤ 255) : spec_l1Digit.f c = some (if 48 ≤ c ∧ c ≤ 57 then c - 48 else -1):=by
 unfold spec_l1Digit.f
 by_cases h1 : c < 48
 ·rw [if_pos h1,if_neg (by omega)]
 ·rw [if_neg h1]
  by_cases h2 : c > 57
  ·rw [if_pos h2,if_neg (by omega)]
  ·rw [if_neg h2,if_pos (by omega)];congr 1;omega
theorem digit_lt (c : Int) (h : 0 ≤ c ∧ c ≤ 255) : ∃ t,spec_l1Digit.f c = some t ∧ (t < 1 ↔ ¬ (49 ≤ c ∧ c ≤ 57)) ∧ (t ≥ 0 ↔ (48 ≤ c ∧ c ≤ 57)):=by
 refine ⟨_,digit_eq c h,?_⟩
 split <;> omega
theorem short_cases (l : List Int) : l = [] ∨ (∃ a,l = [a]) ∨ (∃ a b,l = [a,b]) ∨ (∃ a b c,l = [a,b,c]) ∨ (∃ a b c d,l = [a,b,c,d]) ∨ (∃ a b c d e,l = [a,b,c,d,e]) ∨ (∃ a b c d e f r,l = a :: b :: c :: d :: e :: f :: r):=by
 match l with
 | []=>simp
 | [a]=>simp
 | [a,b]=>simp
 | [a,b,c]=>simp
 | [a,b,c,d]=>simp
 | [a,b,c,d,e]=>simp
 | a :: b :: c :: d :: e :: f :: r=>simp
theorem l2Begins_eq (s : ByteArray) : spec_l2Begins.f s = some (begins (bytesOf s)):=by
 unfold spec_l2Begins.f
 rw [l6In_eq]
 simp only [bt_rd,← bytesOf_size]
 have hr:=bytesOf_range s
 generalize bytesOf s = l at hr
 rcases short_cases l with rfl|⟨a,rfl⟩|⟨a,b,rfl⟩|⟨a,b,c,rfl⟩|⟨a,b,c,d,rfl⟩|⟨a,b,c,d,e,rfl⟩|⟨a,b,c,d,e,f,r,rfl⟩
 ·simp [begins]
 ·simp [begins,rd]
  by_cases h1 : a = 64 <;> simp [h1]
 ·obtain ⟨t1,e1,g1,_⟩:=digit_lt b (hr b (by simp))
  simp [begins,rd,e1]
  by_cases h1 : a = 64 <;> by_cases h2 : t1 < 1 <;> simp [h1,h2] <;> omega
 ·obtain ⟨t1,e1,g1,_⟩:=digit_lt b (hr b (by simp))
  simp [begins,rd,e1]
  by_cases h1 : a = 64 <;> by_cases h2 : t1 < 1 <;> by_cases h3 : c = 58 <;> simp [h1,h2,h3] <;> omega
 ·obtain ⟨t1,e1,g1,_⟩:=digit_lt b (hr b (by simp))
  obtain ⟨t2,e2,g2,_⟩:=digit_lt d (hr d (by simp))
  simp [begins,rd,e1,e2]
  by_cases h1 : a = 64 <;> by_cases h2 : t1 < 1 <;> by_cases h3 : c = 58 <;> by_cases h4 : t2 < 1 <;> simp [h1,h2,h3,h4] <;> omega
 ·obtain ⟨t1,e1,g1,_⟩:=digit_lt b (hr b (by simp))
  obtain ⟨t2,e2,g2,_⟩:=digit_lt d (hr d (by simp))
  obtain ⟨t3,e3,_,g3⟩:=digit_lt e (hr e (by simp))
  simp [begins,rd,e1,e2,e3]
  by_cases h1 : a = 64 <;> by_cases h2 : t1 < 1 <;> by_cases h3 : c = 58 <;> by_cases h4 : t2 < 1 <;> by_cases h5 : t3 ≥ 0 <;> simp [h1,h2,h3,h4,h5] <;> omega
 ·have : ¬ ((1 : Int) ≤ ((a :: b :: c :: d :: e :: f :: r).length : Int) ∧ ((a :: b :: c :: d :: e :: f :: r).length : Int) ≤ 5):=by
   simp only [List.length_cons];omega
  rw [decide_eq_false this]
  rfl
theorem beginning_eq (s : ByteArray) (h0 : 1 ≤ s.size) (h1 : s.size ≤ 140737488355328) : impl_beginning.f s = some (begins (bytesOf s)):=by
 unfold impl_beginning.f
 rw [if_pos h1]
 congr 1
 simp only [bt_rd,← bytesOf_size] at h0 ⊢
 generalize bytesOf s = l at h0
 rcases short_cases l with rfl|⟨a,rfl⟩|⟨a,b,rfl⟩|⟨a,b,c,rfl⟩|⟨a,b,c,d,rfl⟩|⟨a,b,c,d,e,rfl⟩|⟨a,b,c,d,e,f,r,rfl⟩
 ·simp at h0
 ·simp [begins,rd,begb,List.range_succ]
  rw [Bool.eq_iff_iff];simp
 ·simp [begins,rd,begb,List.range_succ]
  rw [Bool.eq_iff_iff];simp
 ·simp [begins,rd,begb,List.range_succ]
  rw [Bool.eq_iff_iff];simp;omega
 ·simp [begins,rd,begb,List.range_succ]
  rw [Bool.eq_iff_iff];simp;omega
 ·simp [begins,rd,begb,List.range_succ]
  rw [Bool.eq_iff_iff];simp;omega
 ·have : begins (a :: b :: c :: d :: e :: f :: r) = false:=rfl
  rw [this,List.all_eq_false]
  exact ⟨5,by rw [List.mem_range];simp only [List.length_cons];omega,by simp [begb]⟩
theorem held_step (s : ByteArray) (n : Nat) (hn : n + 1 ≤ s.size) (hs : s.size ≤ 140737488355328) : bytesOf (s.extract (wrap64 ((s.size : Int) - ((n + 1 : Nat) : Int))).toNat s.size) = (bytesOf s).drop ((bytesOf s).length - (n + 1)):=by
 rw [wrap_id (by omega) (by omega),bytesOf_to_end,bytesOf_size]
 congr 1;omega
theorem sHeld_loop (s : ByteArray) (hs : s.size ≤ 140737488355328) : ∀ n : Nat,n ≤ s.size → Ev (fun k=>spec_l2Held.l0 k s (n : Int)) (heldFrom (bytesOf s) n : Int)
 | 0,_=>by
  refine Ev.step (f:=fun _=>some 0) (fun k=>?_) (Ev.now _)
  simp only [spec_l2Held.l0];rw [if_neg (by omega)]
 | n + 1,hn=>by
  have e1:=held_step s n hn hs
  have e2:=l2Begins_eq (s.extract (wrap64 ((s.size : Int) - ((n + 1 : Nat) : Int))).toNat s.size)
  rw [e1] at e2
  have hw : wrap64 ((s.size : Int) - ((n + 1 : Nat) : Int)) = (s.size : Int) - ((n + 1 : Nat) : Int):=wrap_id (by omega) (by omega)
  cases hb : begins ((bytesOf s).drop ((bytesOf s).length - (n + 1))) with
  | true =>
   refine Ev.step (f:=fun _=>some ((n + 1 : Nat) : Int)) (fun k=>?_) ?_
   ·simp only [spec_l2Held.l0];rw [if_pos (by omega),if_pos (by rw [hw];omega),if_pos (by rw [hw];omega),e2,hb];rfl
   ·simp only [heldFrom,hb,if_true];exact Ev.now _
  | false =>
   refine Ev.step (f:=fun k=>spec_l2Held.l0 k s (n : Int)) (fun k=>?_) ?_
   ·simp only [spec_l2Held.l0];rw [if_pos (by omega),if_pos (by rw [hw];omega),if_pos (by rw [hw];omega),e2,hb,show wrap64 (((n + 1 : Nat) : Int) - 1) = (n : Int) from by rw [wrap_id (by omega) (by omega)];omega];rfl
   ·simp only [heldFrom,hb];exact sHeld_loop s hs n (by omega)
theorem iHeld_loop (s : ByteArray) (hs : s.size ≤ 140737488355328) : ∀ n : Nat,n ≤ s.size → Ev (fun k=>impl_held.l0 k s (n : Int)) (heldFrom (bytesOf s) n : Int)
 | 0,_=>by
  refine Ev.step (f:=fun _=>some 0) (fun k=>?_) (Ev.now _)
  simp only [impl_held.l0];rw [if_neg (by omega)]
 | n + 1,hn=>by
  have e1:=held_step s n hn hs
  have hw : wrap64 ((s.size : Int) - ((n + 1 : Nat) : Int)) = (s.size : Int) - ((n + 1 : Nat) : Int):=wrap_id (by omega) (by omega)
  have hz : (s.extract (wrap64 ((s.size : Int) - ((n + 1 : Nat) : Int))).toNat s.size).size = n + 1:=by
   rw [← bytesOf_size,e1,List.length_drop,bytesOf_size];omega
  have e2:=beginning_eq (s.extract (wrap64 ((s.size : Int) - ((n + 1 : Nat) : Int))).toNat s.size) (by omega) (by omega)
  rw [e1] at e2
  cases hb : begins ((bytesOf s).drop ((bytesOf s).length - (n + 1))) with
  | true =>
   refine Ev.step (f:=fun _=>some ((n + 1 : Nat) : Int)) (fun k=>?_) ?_
   ·simp only [impl_held.l0];rw [if_pos (by omega),if_pos (by rw [hw];omega),if_pos (by rw [hw];omega),e2,hb];rfl
   ·simp only [heldFrom,hb,if_true];exact Ev.now _
  | false =>
   refine Ev.step (f:=fun k=>impl_held.l0 k s (n : Int)) (fun k=>?_) ?_
   ·simp only [impl_held.l0];rw [if_pos (by omega),if_pos (by rw [hw];omega),if_pos (by rw [hw];omega),e2,hb,show wrap64 (((n + 1 : Nat) : Int) - 1) = (n : Int) from by rw [wrap_id (by omega) (by omega)];omega];rfl
   ·simp only [heldFrom,hb];exact iHeld_loop s hs n (by omega)
theorem mn5 (n : Nat) : mn 5 (n : Int) = ((min 5 n : Nat) : Int):=by unfold mn;split <;> omega
theorem sHeld (s : ByteArray) (hs : s.size ≤ 140737488355328) : Ev (fun k=>spec_l2Held.f k s) (held (bytesOf s) : Int):=by
 unfold spec_l2Held.f held
 rw [mn5,bytesOf_size]
 exact sHeld_loop s hs _ (by omega)
theorem iHeld (s : ByteArray) (hs : s.size ≤ 140737488355328) : Ev (fun k=>impl_held.f k s) (held (bytesOf s) : Int):=by
 unfold impl_held.f held
 rw [mn5,bytesOf_size]
 exact iHeld_loop s hs _ (by omega)
theorem sAny_eq (a p : Int) : spec_l1Any.f a p = some (anyE a p):=by
 unfold spec_l1Any.f anyE
 rw [sIn_eq,sOut_eq,sDoor_eq]
 cases inE a p <;> cases outE a p <;> simp
theorem iAny_eq (a p : Int) : impl_End_any.f a p = some (anyE a p):=by
 unfold impl_End_any.f anyE
 rw [iIn_eq,iOut_eq,iDoor_eq]
 cases inE a p <;> cases outE a p <;> simp
theorem toList_nil (s : ByteArray) : s.toList = ([] : List UInt8) ↔ bytesOf s = []:=by
 have:=bytesOf_toList (s:=s) (t:=ByteArray.empty)
 rw [show ByteArray.empty.toList = ([] : List UInt8) from by rw [ByteArray.toList_eq];rfl] at this
 rw [this];rfl
theorem decDigits_dec : ∀ n : Nat,n < 100 → (Lib.decDigits n).map (fun b=>(b.toNat : Int)) = dec (n : Int):=by decide +kernel
theorem bytesOf_list (l : List UInt8) : bytesOf (⟨l.toArray⟩ : ByteArray) = l.map (fun b=>(b.toNat : Int)):=by
 simp [bytesOf]
theorem itoa_eq (a : Int) (h : 0 ≤ a ∧ a ≤ 99) : ∃ s,strconv_Itoa.f a = some s ∧ bytesOf s = dec a:=by
 obtain ⟨n,rfl⟩:=Int.eq_ofNat_of_zero_le h.1
 refine ⟨_,by unfold strconv_Itoa.f;rw [if_pos h],?_⟩
 rw [bytesOf_list]
 exact decDigits_dec n (by omega)
theorem dec_len2 (n : Int) : (dec n).length ≤ 2:=by unfold dec;split <;> simp
theorem iEndText (a p : Int) : ∃ s,impl_EndText.f a p = some s ∧ bytesOf s = endText a p:=by
 unfold impl_EndText.f
 rw [iAny_eq]
 cases hc : anyE a p with
 | false =>
  refine ⟨⟨#[]⟩,by simp,?_⟩
  rw [endText_none a p hc];rfl
 | true =>
  have hr:=(anyE_iff a p).1 hc
  obtain ⟨s,hs,hsb⟩:=itoa_eq a (by omega)
  obtain ⟨t,ht,htb⟩:=itoa_eq p (by omega)
  have ls : s.size ≤ 2:=by have:=congrArg List.length hsb;rw [bytesOf_length] at this;have:=dec_len2 a;omega
  have lt : t.size ≤ 2:=by have:=congrArg List.length htb;rw [bytesOf_length] at this;have:=dec_len2 p;omega
  refine ⟨(s ++ (⟨#[58]⟩ : ByteArray)) ++ t,?_,?_⟩
  ·simp only [Option.bind_some,if_true,hs,ht]
   rw [if_pos (by omega),if_pos (by omega)]
  ·have e1 : bytesOf (⟨#[58]⟩ : ByteArray) = [58]:=rfl
   rw [bytesOf_append,bytesOf_append,hsb,htb,e1,endText,if_pos hc]
   simp
theorem indexByte_range (l : List UInt8) (c : UInt8) : -1 ≤ Lib.indexByte l c ∧ Lib.indexByte l c < l.length:=by
 induction l with
 | nil=>simp [Lib.indexByte]
 | cons b l ih =>
  unfold Lib.indexByte
  split
  ·simp
  ·split
   ·simp only [List.length_cons];omega
   ·simp only [List.length_cons];omega
theorem cut_some (s : ByteArray) (c : UInt8) (hs : s.size ≤ 140737488355328) : ∃ x y b,strings_Cut.f s (⟨#[c]⟩ : ByteArray) = some (x,y,b) ∧ x.size ≤ s.size ∧ y.size ≤ s.size:=by
 have hr:=indexByte_range s.data.toList c
 have hl : s.data.toList.length = s.size:=by rw [Array.length_toList];rfl
 have e1 : stringslite_Index.f s (⟨#[c]⟩ : ByteArray) = some (Lib.indexByte s.data.toList c):=by
  unfold stringslite_Index.f;rw [if_pos (show (⟨#[c]⟩ : ByteArray).size = 1 from rfl)];rfl
 have e2 : ((⟨#[c]⟩ : ByteArray).size : Int) = 1:=rfl
 unfold strings_Cut.f stringslite_Cut.f
 rw [e1,e2]
 simp only [Option.bind_some]
 generalize Lib.indexByte s.data.toList c = i at hr
 by_cases h : i ≥ 0
 ·have hw : wrap64 (i + 1) = i + 1:=wrap_id (by omega) (by omega)
  rw [hw,if_pos h,if_pos h,if_pos (by omega),if_pos (by omega),if_pos (by omega)]
  exact ⟨_,_,_,rfl,by rw [ByteArray.size_extract];omega,by rw [ByteArray.size_extract];omega⟩
 ·rw [if_neg h]
  exact ⟨_,_,_,rfl,Nat.le_refl _,by show 0 ≤ s.size;omega⟩
theorem atoi_some (s : ByteArray) (hs : s.size ≤ 140737488355328) : ∃ v e,strconv_Atoi.f s = some (v,e):=by
 unfold strconv_Atoi.f
 rw [if_pos (by omega)]
 cases Lib.atoiAll s.data.toList <;> exact ⟨_,_,rfl⟩
theorem iEndRead_none (s : ByteArray) (hs : s.size ≤ 140737488355328) : impl_EndRead.f s = some (0,0,false) ∨ ∃ a p,anyE a p = true ∧ endText a p = bytesOf s ∧ impl_EndRead.f s = some (a,p,true):=by
 obtain ⟨x,y,b,e1,hx,hy⟩:=cut_some s 58 hs
 obtain ⟨v,e,e2⟩:=atoi_some x (by omega)
 obtain ⟨u,f,e3⟩:=atoi_some y (by omega)
 unfold impl_EndRead.f
 rw [e1]
 simp only [Option.bind_some,e2,e3]
 cases e with
 | some _=>left;rfl
 | none =>
  cases f with
  | some _=>left;rfl
  | none =>
   simp only [Option.isNone_none,if_true,iAny_eq,Option.bind_some]
   cases ha : anyE v u with
   | false=>left;rfl
   | true =>
    obtain ⟨t,ht,htb⟩:=iEndText v u
    simp only [if_true,ht,Option.bind_some]
    by_cases hc : t.toList = s.toList
    ·rw [if_pos hc]
     exact .inr ⟨v,u,ha,by rw [← htb];exact bytesOf_toList.1 hc,rfl⟩
    ·rw [if_neg hc];left;rfl
theorem indexByte_take (l : List UInt8) (c : UInt8) : Lib.indexByte l c = if c ∈ l then ((l.takeWhile (fun x=>x != c)).length : Int) else -1:=by
 induction l with
 | nil=>simp [Lib.indexByte]
 | cons b l ih =>
  unfold Lib.indexByte
  by_cases h : b = c
  ·subst h;simp
  ·have h1 : (b == c) = false:=beq_eq_false_iff_ne.2 h
   have h2 : (b != c) = true:=bne_iff_ne.2 h
   have h3 : ¬ c = b:=fun e=>h e.symm
   rw [h1,ih]
   simp only [List.takeWhile_cons,h2,List.mem_cons,h3,false_or,if_true,Bool.false_eq_true,if_false]
   by_cases hm : c ∈ l
   ·rw [if_pos hm,if_pos hm]
    have : ¬ (((l.takeWhile (fun x=>x != c)).length : Int) == -1) = true:=by rw [beq_iff_eq];omega
    rw [if_neg this];simp
   ·rw [if_neg hm,if_neg hm];rfl
theorem bytesOf_data (s : ByteArray) : bytesOf s = s.data.toList.map (fun b=>(b.toNat : Int)):=by
 simp [bytesOf]
theorem takeWhile_map_toNat (l : List UInt8) (c : UInt8) : (l.takeWhile (fun x=>x != c)).map (fun b=>(b.toNat : Int)) = (l.map (fun b=>(b.toNat : Int))).takeWhile (fun x=>x != (c.toNat : Int)):=by
 induction l with
 | nil=>rfl
 | cons b l ih =>
  have e : ((b.toNat : Int) != (c.toNat : Int)) = (b != c):=by
   rw [Bool.eq_iff_iff,bne_iff_ne,bne_iff_ne]
   constructor
   ·intro h e;exact h (by rw [e])
   ·intro h e;exact h (UInt8.toNat_inj.1 (by omega))
  simp only [List.takeWhile_cons,List.map_cons,e]
  split
  ·simp [ih]
  ·rfl
theorem takeWhile_all (l : List Int) (c : Int) (h : ∀ z ∈ l,z ≠ c) : l.takeWhile (fun z=>z != c) = l:=by
 induction l with
 | nil=>rfl
 | cons x l ih =>
  rw [List.takeWhile_cons,if_pos (by rw [bne_iff_ne];exact h x List.mem_cons_self),ih (fun z hz=>h z (List.mem_cons_of_mem _ hz))]
theorem cut_bytes (s : ByteArray) (c : UInt8) (hs : s.size ≤ 140737488355328) :
  ∃ x y,strings_Cut.f s (⟨#[c]⟩ : ByteArray) = some (x,y,decide ((c.toNat : Int) ∈ bytesOf s)) ∧ bytesOf x = (bytesOf s).takeWhile (fun z=>z != (c.toNat : Int)) ∧ x.size ≤ s.size ∧ y.size ≤ s.size:=by
 have hl : s.data.toList.length = s.size:=by rw [Array.length_toList];rfl
 have e1 : stringslite_Index.f s (⟨#[c]⟩ : ByteArray) = some (Lib.indexByte s.data.toList c):=by
  unfold stringslite_Index.f;rw [if_pos (show (⟨#[c]⟩ : ByteArray).size = 1 from rfl)];rfl
 have e2 : ((⟨#[c]⟩ : ByteArray).size : Int) = 1:=rfl
 have hmem : ((c.toNat : Int) ∈ bytesOf s) ↔ c ∈ s.data.toList:=by
  rw [bytesOf_data,List.mem_map]
  constructor
  ·rintro ⟨b,hb,e⟩
   have : b = c:=UInt8.toNat_inj.1 (by omega)
   exact this ▸ hb
  ·intro h;exact ⟨c,h,rfl⟩
 have hr:=indexByte_range s.data.toList c
 have ht:=indexByte_take s.data.toList c
 have hb : bytesOf s = s.data.toList.map (fun b=>(b.toNat : Int)):=bytesOf_data s
 unfold strings_Cut.f stringslite_Cut.f
 rw [e1,e2]
 simp only [Option.bind_some]
 by_cases hm : c ∈ s.data.toList
 ·rw [if_pos hm] at ht
  rw [ht] at hr ⊢
  generalize hq : (s.data.toList.takeWhile (fun x=>x != c)).length = q at hr ⊢
  have hw : wrap64 ((q : Int) + 1) = (q : Int) + 1:=wrap_id (by omega) (by omega)
  rw [hw,if_pos (by omega),if_pos (by omega),if_pos (by omega),if_pos (by omega),if_pos (by omega)]
  refine ⟨s.extract 0 ((q : Int)).toNat,s.extract ((q : Int) + 1).toNat s.size,by rw [decide_eq_true (hmem.2 hm)];rfl,?_,by rw [ByteArray.size_extract];omega,by rw [ByteArray.size_extract];omega⟩
  rw [bytesOf_from,hb,← takeWhile_map_toNat,← List.map_take]
  congr 1
  have:=List.takeWhile_prefix (p:=fun x=>x != c) (l:=s.data.toList)
  rw [List.prefix_iff_eq_take] at this
  rw [this,hq];simp
 ·rw [if_neg hm] at ht
  rw [ht,if_neg (by omega)]
  refine ⟨s,⟨#[]⟩,by rw [decide_eq_false (fun h=>hm (hmem.1 h))];rfl,?_,Nat.le_refl _,by show 0 ≤ s.size;omega⟩
  exact (takeWhile_all _ (c.toNat : Int) (fun z hz e=>hm (hmem.1 (by rw [← e];exact hz)))).symm
def lit (l : List Int) : ByteArray:=⟨(l.map fun x=>UInt8.ofNat x.toNat).toArray⟩
def goodCut (a p : Nat) : Bool:=match strings_Cut.f (lit (endText a p)) (⟨#[58]⟩ : ByteArray) with
 | some (x,y,_)=>(match strconv_Atoi.f x,strconv_Atoi.f y with | some (v,none),some (u,none)=>decide (v = a ∧ u = p) | _,_=>false)
 | none=>false
theorem good_all : ∀ a ∈ List.range 10,∀ p ∈ List.range 18,anyE a p = true → goodCut a p = true:=by decide +kernel
theorem lit_all : ∀ a ∈ List.range 10,∀ p ∈ List.range 18,anyE a p = true → bytesOf (lit (endText a p)) = endText a p:=by decide +kernel
theorem iEndRead_some (s : ByteArray) (a p : Int) (h : anyE a p = true) (hs : bytesOf s = endText a p) : impl_EndRead.f s = some (a,p,true):=by
 have hr:=(anyE_iff a p).1 h
 obtain ⟨n,rfl⟩:=Int.eq_ofNat_of_zero_le (show 0 ≤ a by omega)
 obtain ⟨m,rfl⟩:=Int.eq_ofNat_of_zero_le (show 0 ≤ p by omega)
 have g:=good_all n (List.mem_range.2 (by omega)) m (List.mem_range.2 (by omega)) h
 have e:=lit_all n (List.mem_range.2 (by omega)) m (List.mem_range.2 (by omega)) h
 obtain rfl : s = lit (endText n m):=bytesOf_inj (hs.trans e.symm)
 unfold goodCut at g
 unfold impl_EndRead.f
 cases e1 : strings_Cut.f (lit (endText n m)) (⟨#[58]⟩ : ByteArray) with
 | none=>rw [e1] at g;cases g
 | some r =>
  obtain ⟨x,y,b⟩:=r
  rw [e1] at g
  simp only [Option.bind_some]
  cases e2 : strconv_Atoi.f x with
  | none=>simp only [e2] at g;cases g
  | some r2 =>
   obtain ⟨v,f⟩:=r2
   cases e3 : strconv_Atoi.f y with
   | none=>simp only [e2,e3] at g;cases f <;> cases g
   | some r3 =>
    obtain ⟨u,f2⟩:=r3
    simp only [e2,e3] at g
    cases f with
    | some _=>cases g
    | none =>
     cases f2 with
     | some _=>cases g
     | none =>
      obtain ⟨rfl,rfl⟩:=of_decide_eq_true g
      obtain ⟨t,ht,htb⟩:=iEndText (n : Int) (m : Int)
      simp only [Option.bind_some,Option.isNone_none,if_true,iAny_eq,h,ht]
      rw [if_pos (bytesOf_toList.2 (htb.trans e.symm))]
theorem iEndRead (s : ByteArray) (hs : s.size ≤ 140737488355328) : impl_EndRead.f s = some (match endRead (bytesOf s) with | some (a,p)=>(a,p,true) | none=>(0,0,false)):=by
 cases h : endRead (bytesOf s) with
 | some r =>
  obtain ⟨a,p⟩:=r
  obtain ⟨h1,h2⟩:=(endRead_iff _ a p).1 h
  exact iEndRead_some s a p h1 h2.symm
 | none =>
  rcases iEndRead_none s hs with h0|⟨a,p,h1,h2,_⟩
  ·exact h0
  ·rw [(endRead_iff _ a p).2 ⟨h1,h2⟩] at h;cases h
theorem prefix_at (s : ByteArray) (l : List Int) (h : bytesOf s = 64 :: l) : ∃ t,strings_CutPrefix.f s (⟨#[64]⟩ : ByteArray) = some (t,true) ∧ bytesOf t = l:=by
 have hlen:=bytesOf_length s
 rw [h] at hlen
 have h1 : 1 ≤ s.size:=by simp at hlen;omega
 have e2 : ((⟨#[64]⟩ : ByteArray).size : Int) = 1:=rfl
 have e3 : (s.extract 0 (((1 : Int)) : Int).toNat).toList = (⟨#[64]⟩ : ByteArray).toList:=by
  rw [bytesOf_toList,bytesOf_from,h];rfl
 refine ⟨s.extract 1 s.size,?_,?_⟩
 ·unfold strings_CutPrefix.f stringslite_CutPrefix.f stringslite_HasPrefix.f
  rw [e2,if_pos (by omega),if_pos (by omega),if_pos (by omega),e3]
  simp only [BEq.rfl,Option.bind_some,if_true]
  rw [if_pos (by omega),if_pos (by omega)]
  rfl
 ·rw [bytesOf_to_end,h];rfl
theorem prefix_no (s : ByteArray) (h : ∀ l,bytesOf s ≠ 64 :: l) : ∃ t,strings_CutPrefix.f s (⟨#[64]⟩ : ByteArray) = some (t,false):=by
 have hlen:=bytesOf_length s
 have e2 : ((⟨#[64]⟩ : ByteArray).size : Int) = 1:=rfl
 refine ⟨s,?_⟩
 unfold strings_CutPrefix.f stringslite_CutPrefix.f stringslite_HasPrefix.f
 rw [e2]
 by_cases h1 : (s.size : Int) ≥ 1
 ·have e3 : ((s.extract 0 (((1 : Int)) : Int).toNat).toList == (⟨#[64]⟩ : ByteArray).toList) = false:=by
   rw [beq_eq_false_iff_ne]
   intro hc
   rw [bytesOf_toList,bytesOf_from] at hc
   have hc' : (bytesOf s).take 1 = [64]:=hc
   cases hb : bytesOf s with
   | nil=>rw [hb] at hc';cases hc'
   | cons x l =>
    rw [hb] at hc'
    have : x = 64:=by simpa using hc'
    exact h l (by rw [hb,this])
  rw [if_pos h1,if_pos (by omega),if_pos (by omega),e3]
  rfl
 ·rw [if_neg h1];rfl
theorem endText_no59 (a p : Int) : (59 : Int) ∉ endText a p:=by
 cases h : anyE a p with
 | false=>rw [endText_none a p h];simp
 | true =>
  rcases (anyE_iff a p).1 h with h2|⟨rfl,h2⟩
  ·rw [endText_host a p h2];simp;omega
  ·rw [endText_door p h2];simp;omega
theorem takeWhile_before (l : List Int) (c : Int) (h : c ∉ l) (r : List Int) : (l ++ c :: r).takeWhile (fun z=>z != c) = l:=by
 induction l with
 | nil=>simp
 | cons x l ih =>
  have h1 : x ≠ c:=fun e=>h (by rw [e];exact List.mem_cons_self)
  have h2 : c ∉ l:=fun e=>h (List.mem_cons_of_mem _ e)
  rw [List.cons_append,List.takeWhile_cons,if_pos (by rw [bne_iff_ne];exact h1),ih h2]
theorem split_at (l : List Int) (c : Int) (h : c ∈ l) : ∃ r,l = l.takeWhile (fun z=>z != c) ++ c :: r:=by
 induction l with
 | nil=>cases h
 | cons x l ih =>
  by_cases hx : x = c
  ·subst hx;exact ⟨l,by simp⟩
  ·have : c ∈ l:=by
    rcases List.mem_cons.1 h with e|e
    ·exact absurd e.symm hx
    ·exact e
   obtain ⟨r,hr⟩:=ih this
   refine ⟨r,?_⟩
   rw [List.takeWhile_cons,if_pos (by rw [bne_iff_ne];exact hx),List.cons_append,← hr]
theorem iReadName (s : ByteArray) (hs : s.size ≤ 140737488355328) :
  (∃ a p r,impl_readName.f s = some (a,p,true) ∧ anyE a p = true ∧ bytesOf s = endText a p ++ 59 :: r) ∨
  (∃ a p,impl_readName.f s = some (a,p,false) ∧ ∀ b q r,anyE b q = true → bytesOf s ≠ endText b q ++ 59 :: r):=by
 obtain ⟨x,y,e1,hx,lx,ly⟩:=cut_bytes s 59 hs
 have e59 : (((59 : UInt8).toNat : Nat) : Int) = 59:=rfl
 rw [e59] at e1 hx
 have e2:=iEndRead x (by omega)
 unfold impl_readName.f
 rw [e1]
 simp only [Option.bind_some,e2]
 have key : ∀ b q r,anyE b q = true → bytesOf s = endText b q ++ 59 :: r → (59 : Int) ∈ bytesOf s ∧ endRead (bytesOf x) = some (b,q):=by
  intro b q r hb h
  refine ⟨by rw [h];simp,?_⟩
  rw [hx,h,takeWhile_before _ _ (endText_no59 b q),endRead_endText b q hb]
 by_cases hm : (59 : Int) ∈ bytesOf s
 ·cases hr : endRead (bytesOf x) with
  | some r =>
   obtain ⟨a,p⟩:=r
   obtain ⟨h1,h2⟩:=(endRead_iff _ a p).1 hr
   obtain ⟨r,hr2⟩:=split_at _ _ hm
   rw [← hx,← h2] at hr2
   exact .inl ⟨a,p,r,by simp [hm],h1,hr2⟩
  | none =>
   refine .inr ⟨0,0,by simp [hm],fun b q r hb h=>?_⟩
   have:=(key b q r hb h).2
   rw [hr] at this;cases this
 ·refine .inr ?_
  cases hr : endRead (bytesOf x) with
  | some r=>exact ⟨r.1,r.2,by simp [hm],fun b q t hb h=>hm (key b q t hb h).1⟩
  | none=>exact ⟨0,0,by simp [hm],fun b q t hb h=>hm (key b q t hb h).1⟩
theorem endText_len4 (a p : Int) : (endText a p).length ≤ 4:=by
 cases h : anyE a p with
 | false=>rw [endText_none a p h];simp
 | true =>
  rcases (anyE_iff a p).1 h with h2|⟨rfl,h2⟩
  ·rw [endText_host a p h2];simp
  ·rw [endText_door p h2];simp
theorem iName (a p : Int) : ∃ t,impl_name.f a p = some t ∧ bytesOf t = name a p:=by
 obtain ⟨s,hs,hb⟩:=iEndText a p
 have hl : s.size ≤ 4:=by
  have:=congrArg List.length hb
  rw [bytesOf_length] at this
  have:=endText_len4 a p
  omega
 unfold impl_name.f
 rw [hs]
 simp only [Option.bind_some]
 rw [if_pos (by omega),if_pos (by omega)]
 refine ⟨_,rfl,?_⟩
 rw [bytesOf_append,bytesOf_append,hb]
 rfl
theorem iPiece (s : ByteArray) (hs : s.size ≤ 140737488355328) :
  impl_piece.f s = some (((pieceOf (bytesOf s)).size : Int),(pieceOf (bytesOf s)).named,(pieceOf (bytesOf s)).addr,(pieceOf (bytesOf s)).port):=by
 have none_ : nameAt (bytesOf s) = none → pieceOf (bytesOf s) = ⟨1,false,0,0⟩:=fun h=>by unfold pieceOf;rw [h]
 unfold impl_piece.f
 by_cases h : ∃ l,bytesOf s = 64 :: l
 ·obtain ⟨l,hl⟩:=h
  obtain ⟨t,e1,ht⟩:=prefix_at s l hl
  have hsz : t.size ≤ s.size:=by
   have h1:=bytesOf_length s;have h2:=bytesOf_length t
   rw [hl] at h1;rw [ht] at h2;simp at h1;omega
  rw [e1]
  simp only [Option.bind_some,if_true]
  rcases iReadName t (by omega) with ⟨a,p,r,e2,ha,hb⟩|⟨a,p,e2,hno⟩
  ·obtain ⟨n,e3,hn⟩:=iName a p
   have hN : nameAt (bytesOf s) = some (a,p,(name a p).length):=(nameAt_iff _ a p _).2 ⟨ha,rfl,r,by rw [hl,← ht,hb];simp [name]⟩
   have hP : pieceOf (bytesOf s) = ⟨(name a p).length,true,a,p⟩:=by unfold pieceOf;rw [hN]
   have hnl : n.size = (name a p).length:=by rw [← hn,bytesOf_length]
   rw [hP,e2]
   simp only [Option.bind_some,if_true,e3,hnl]
  ·have hN : nameAt (bytesOf s) = none:=by
    cases hc : nameAt (bytesOf s) with
    | none=>rfl
    | some r =>
     obtain ⟨b,q,m⟩:=r
     obtain ⟨h1,_,r,h2⟩:=(nameAt_iff _ b q m).1 hc
     refine absurd ?_ (hno b q r h1)
     rw [ht]
     rw [hl] at h2
     simpa [name] using h2
   rw [none_ hN,e2]
   simp
 ·obtain ⟨t,e1⟩:=prefix_no s (fun l hl=>h ⟨l,hl⟩)
  have hN : nameAt (bytesOf s) = none:=by
   cases hc : nameAt (bytesOf s) with
   | none=>rfl
   | some r =>
    obtain ⟨b,q,m⟩:=r
    obtain ⟨h1,_,r,h2⟩:=(nameAt_iff _ b q m).1 hc
    exact absurd ⟨_,by rw [h2];rfl⟩ h
  rw [none_ hN,e1]
  simp
theorem bits_xor_i64_nat (a b : Nat) (ha : a < 9223372036854775808) (hb : b < 9223372036854775808) :
  Go.bits .xor .i64 (a : Int) (b : Int) = ((a ^^^ b : Nat) : Int):=by
 have hx : a ^^^ b < 2 ^ 63:=Nat.xor_lt_two_pow (by omega) (by omega)
 have h1 : (BitVec.ofInt 64 (a : Int)).toNat = a:=by
  rw [BitVec.toNat_ofInt];omega
 have h2 : (BitVec.ofInt 64 (b : Int)).toNat = b:=by
  rw [BitVec.toNat_ofInt];omega
 show IntKind.wrap .i64 ((BitVec.ofInt 64 (a : Int) ^^^ BitVec.ofInt 64 (b : Int)).toNat : Int) = _
 rw [BitVec.toNat_xor,h1,h2,IntWalk.i64_left,IntWalk.wrap64_in _ (by omega)]
theorem xor_nonneg (x y : Int) (h1 : 0 ≤ x) (h2 : x ≤ 9223372036854775807) (h3 : 0 ≤ y) (h4 : y ≤ 9223372036854775807) : 0 ≤ Go.bits .xor .i64 x y:=by
 obtain ⟨a,rfl⟩:=Int.eq_ofNat_of_zero_le h1
 obtain ⟨b,rfl⟩:=Int.eq_ofNat_of_zero_le h3
 rw [bits_xor_i64_nat a b (by omega) (by omega)]
 omega
def Code (b : List Int) : Prop:=∀ x ∈ b,0 ≤ x ∧ x ≤ 255
theorem code_of {l : List Int} (h : ∀ x ∈ l,(Lit.int .u8 x).wf = true) : Code l:=by
 intro x hx
 have:=h x hx
 simp [Lit.wf,IntKind.min,IntKind.max,IntKind.bits,IntKind.signed] at this
 omega
theorem rd_code {b : List Int} (h : Code b) (i : Int) : 0 ≤ rd b i ∧ rd b i ≤ 255:=by
 unfold rd
 rw [List.getD_eq_getElem?_getD]
 cases e : b[i.toNat]? with
 | none=>simp
 | some x=>simpa using h x (List.mem_of_getElem? e)
theorem pick_val (b : List Int) (hb : Code b) (p : Int) (h0 : 0 ≤ p) (hp : p ≤ 1099511627776) (L : Int) (hL : 1 ≤ L) :
  0 ≤ Go.bits .xor .i64 (wrap64 ((wrap64 ((wrap64 ((wrap64 ((wrap64 (rd b (Int.tmod p L))) * 131)) + (wrap64 ((wrap64 (rd b (Int.tmod (wrap64 ((wrap64 (p * 7)) + 3)) L))) * 1117)))) + (wrap64 (p * 29)))) + (wrap64 ((wrap64 (Int.tdiv p L)) * 53)))) (wrap64 (Int.tdiv (wrap64 ((wrap64 ((wrap64 ((wrap64 ((wrap64 (rd b (Int.tmod p L))) * 131)) + (wrap64 ((wrap64 (rd b (Int.tmod (wrap64 ((wrap64 (p * 7)) + 3)) L))) * 1117)))) + (wrap64 (p * 29)))) + (wrap64 ((wrap64 (Int.tdiv p L)) * 53)))) 64)):=by
 have hA:=rd_code hb (Int.tmod p L)
 have hB:=rd_code hb (Int.tmod (wrap64 ((wrap64 (p * 7)) + 3)) L)
 generalize rd b (Int.tmod p L) = A at hA ⊢
 generalize rd b (Int.tmod (wrap64 ((wrap64 (p * 7)) + 3)) L) = B at hB ⊢
 have hq : 0 ≤ Int.tdiv p L ∧ Int.tdiv p L ≤ p:=by
  rw [Int.tdiv_eq_ediv_of_nonneg h0]
  exact ⟨Int.ediv_nonneg h0 (by omega),Int.ediv_le_self _ h0⟩
 generalize Int.tdiv p L = q at hq ⊢
 have e : wrap64 ((wrap64 ((wrap64 ((wrap64 ((wrap64 A) * 131)) + (wrap64 ((wrap64 B) * 1117)))) + (wrap64 (p * 29)))) + (wrap64 ((wrap64 q) * 53))) = A * 131 + B * 1117 + p * 29 + q * 53:=by
  simp (disch:=omega) only [wrap_id]
 rw [e]
 have hx : 0 ≤ A * 131 + B * 1117 + p * 29 + q * 53 ∧ A * 131 + B * 1117 + p * 29 + q * 53 ≤ 140737488355328:=by omega
 generalize A * 131 + B * 1117 + p * 29 + q * 53 = x at hx ⊢
 have hd : 0 ≤ Int.tdiv x 64 ∧ Int.tdiv x 64 ≤ x:=by
  rw [Int.tdiv_eq_ediv_of_nonneg hx.1];omega
 rw [wrap_id (by omega) (by omega)]
 exact xor_nonneg x _ hx.1 (by omega) hd.1 (by omega)
theorem tmod_in (x n : Int) (hx : 0 ≤ x) (hn : 1 ≤ n) : 0 ≤ Int.tmod x n ∧ Int.tmod x n < n:=⟨Int.tmod_nonneg n hx,Int.tmod_lt_of_pos x (by omega)⟩
theorem pick_ev (b : List Int) (hb : Code b) (p n : Int) (h0 : 0 ≤ p) (hp : p ≤ 1099511627776) (hl : b.length ≤ 1000000) :
  ∃ r,Ev (fun k=>spec_l6Rd_pick.f k b p n) (r,p + 1) ∧ 0 ≤ r ∧ (1 ≤ n → r < n) ∧ (n < 1 → r = 0):=by
 unfold spec_l6Rd_pick.f
 rw [wrap_id (n:=p + 1) (by omega) (by omega)]
 have hz : ∀ x : Bool,x = true → Ev (fun k=>spec_l6Rd_pick.j0 k n x b (p + 1)) (0,p + 1):=fun x hx=>Ev.step (f:=fun _=>some (0,p + 1)) (fun k=>by simp only [spec_l6Rd_pick.j0];rw [if_pos hx]) (Ev.now _)
 by_cases hn : n < 1
 ·exact ⟨0,Ev.pos hn (hz true rfl),by omega,by omega,fun _=>rfl⟩
 ·by_cases he : (b.length : Int) = 0
  ·exact ⟨0,Ev.neg hn (hz _ (beq_iff_eq.2 he)),by omega,by omega,fun _=>rfl⟩
  ·have hw : wrap64 (p + 1 - 1) = p:=by rw [wrap_id (by omega) (by omega)];omega
   have hw7 : wrap64 (wrap64 (p * 7) + 3) = p * 7 + 3:=by rw [wrap_id (n:=p * 7) (by omega) (by omega),wrap_id (by omega) (by omega)]
   by_cases hlt : p < (b.length : Int)
   ·have hA:=rd_code hb p
    refine ⟨Int.tmod (rd b p) n,Ev.neg hn (Ev.step (f:=fun _=>some (Int.tmod (rd b p) n,p + 1)) (fun k=>?_) (Ev.now _)),(tmod_in _ _ hA.1 (by omega)).1,fun _=>(tmod_in _ _ hA.1 (by omega)).2,fun h=>absurd h hn⟩
    simp only [spec_l6Rd_pick.j0,hw]
    rw [if_neg (by rw [beq_iff_eq];exact he),if_pos hlt,if_pos h0,if_neg (by omega),wrap_id (by omega) (by omega)]
   ·have hx:=pick_val b hb p h0 hp (b.length : Int) (by omega)
    have t1:=tmod_in p (b.length : Int) h0 (by omega)
    have t2:=tmod_in (p * 7 + 3) (b.length : Int) (by omega) (by omega)
    refine ⟨_,Ev.neg hn (Ev.step (f:=fun _=>some (_,p + 1)) (fun k=>?_) (Ev.now _)),(tmod_in _ n hx (by omega)).1,fun _=>(tmod_in _ n hx (by omega)).2,fun h=>absurd h hn⟩
    simp only [spec_l6Rd_pick.j0,hw]
    rw [if_neg (by rw [beq_iff_eq];exact he),if_neg hlt,if_neg he,if_pos t1.1,if_pos t1.2,hw7,if_pos t2.1,if_pos t2.2,if_neg (by omega)]
theorem open_eq (l : List Int) (hl : Code l) : ∃ b,spec_l6Open.f l = some (b,0) ∧ Code b ∧ b.length ≤ 2000:=by
 unfold spec_l6Open.f
 by_cases h : (l.length : Int) > 2000
 ·rw [if_pos h,if_pos (by omega)]
  exact ⟨_,rfl,fun x hx=>hl x (List.mem_of_mem_take hx),by rw [List.length_take];omega⟩
 ·rw [if_neg h];exact ⟨_,rfl,hl,by omega⟩
theorem of_ev (b : List Int) (hb : Code b) (p : Int) (h0 : 0 ≤ p) (hp : p ≤ 1099511627776) (hl : b.length ≤ 1000000) (l : List ByteArray) (hn : 1 ≤ l.length) :
  ∃ s,s ∈ l ∧ Ev (fun k=>spec_l6Rd_of.f k b p l) (s,p + 1):=by
 obtain ⟨r,hr,r0,r1,_⟩:=pick_ev b hb p (l.length : Int) h0 hp hl
 have r2:=r1 (by omega)
 refine ⟨rdOf ByteArray.empty l r,?_,?_⟩
 ·unfold rdOf
  rw [List.getD_eq_getElem?_getD,List.getElem?_eq_getElem (by omega)]
  exact List.getElem_mem _
 ·unfold spec_l6Rd_of.f
  exact Ev.bind hr (Ev.pos r0 (Ev.pos r2 (Ev.now _)))
theorem end_ev (b : List Int) (hb : Code b) (p : Int) (h0 : 0 ≤ p) (hp : p ≤ 1099511000000) (hl : b.length ≤ 1000000) :
  ∃ a q p',Ev (fun k=>spec_l71End.f k b p) (a,q,p') ∧ p ≤ p' ∧ p' ≤ p + 3:=by
 obtain ⟨r,hr,r0,_⟩:=pick_ev b hb p 12 h0 (by omega) hl
 have one : ∀ m : Int,∃ x,Ev (fun k=>spec_l6Rd_pick.f k b (p + 1) m) (x,p + 1 + 1):=fun m=>by
  obtain ⟨x,hx,_⟩:=pick_ev b hb (p + 1) m (by omega) (by omega) hl
  exact ⟨x,hx⟩
 have two : ∀ m : Int,∃ x,Ev (fun k=>spec_l6Rd_pick.f k b (p + 1 + 1) m) (x,p + 1 + 1 + 1):=fun m=>by
  obtain ⟨x,hx,_⟩:=pick_ev b hb (p + 1 + 1) m (by omega) (by omega) hl
  exact ⟨x,hx⟩
 have j2 : ∀ x : Bool,∃ a q p',Ev (fun k=>spec_l71End.j2 k x b (p + 1)) (a,q,p') ∧ p ≤ p' ∧ p' ≤ p + 3:=fun x=>by
  cases x with
  | true =>
   obtain ⟨x,hx⟩:=one 8
   refine ⟨_,_,_,Ev.step (f:=fun k=>(spec_l6Rd_pick.f k b (p + 1) 8).bind fun bt=>some (9,wrap64 (10 + bt.1),bt.2)) (fun k=>by simp only [spec_l71End.j2];rw [if_pos trivial]) (Ev.bind hx (Ev.now _)),?_⟩
   simp only;omega
  | false =>
   obtain ⟨x,hx⟩:=one 12
   obtain ⟨y,hy⟩:=two 20
   refine ⟨_,_,_,Ev.step (f:=fun k=>(spec_l6Rd_pick.f k b (p + 1) 12).bind fun bt=>((spec_l6Rd_pick.f k b bt.2 20).bind fun ct=>(some (bt.1,ct.1,ct.2)))) (fun k=>by simp only [spec_l71End.j2];rw [if_neg (by decide)]) (Ev.bind hx (Ev.bind hy (Ev.now _))),?_⟩
   simp only;omega
 have j1 : ∀ (v : Int) (x : Bool),∃ a q p',Ev (fun k=>spec_l71End.j1 k v x b (p + 1)) (a,q,p') ∧ p ≤ p' ∧ p' ≤ p + 3:=fun v x=>by
  cases x with
  | true =>
   obtain ⟨x,hx⟩:=one 3
   obtain ⟨y,hy⟩:=two 9
   refine ⟨_,_,_,Ev.step (f:=fun k=>(spec_l6Rd_pick.f k b (p + 1) 3).bind fun bt=>((spec_l6Rd_pick.f k b bt.2 9).bind fun ct=>(some (wrap64 (4 + bt.1),wrap64 (1 + ct.1),ct.2)))) (fun k=>by simp only [spec_l71End.j1];rw [if_pos trivial]) (Ev.bind hx (Ev.bind hy (Ev.now _))),?_⟩
   simp only;omega
  | false =>
   have s : ∀ k,spec_l71End.j1 (k + 1) v false b (p + 1) = if v = 7 then (spec_l71End.j2 k (v == 7) b (p + 1)) else (if v = 8 then (spec_l71End.j2 k (v == 8) b (p + 1)) else (if v = 9 then (spec_l71End.j2 k (v == 9) b (p + 1)) else (spec_l71End.j2 k (v == 10) b (p + 1)))):=fun k=>by simp only [spec_l71End.j1];rw [if_neg (by decide)]
   by_cases h7 : v = 7
   ·obtain ⟨a,q,p',h,h'⟩:=j2 (v == 7)
    exact ⟨a,q,p',Ev.step s (Ev.pos h7 h),h'⟩
   ·by_cases h8 : v = 8
    ·obtain ⟨a,q,p',h,h'⟩:=j2 (v == 8)
     exact ⟨a,q,p',Ev.step s (Ev.neg h7 (Ev.pos h8 h)),h'⟩
    ·by_cases h9 : v = 9
     ·obtain ⟨a,q,p',h,h'⟩:=j2 (v == 9)
      exact ⟨a,q,p',Ev.step s (Ev.neg h7 (Ev.neg h8 (Ev.pos h9 h))),h'⟩
     ·obtain ⟨a,q,p',h,h'⟩:=j2 (v == 10)
      exact ⟨a,q,p',Ev.step s (Ev.neg h7 (Ev.neg h8 (Ev.neg h9 h))),h'⟩
 have j0 : ∀ (v : Int) (x : Bool),∃ a q p',Ev (fun k=>spec_l71End.j0 k v x b (p + 1)) (a,q,p') ∧ p ≤ p' ∧ p' ≤ p + 3:=fun v x=>by
  cases x with
  | true =>
   obtain ⟨x,hx⟩:=one 3
   obtain ⟨y,hy⟩:=two 9
   refine ⟨_,_,_,Ev.step (f:=fun k=>(spec_l6Rd_pick.f k b (p + 1) 3).bind fun bt=>((spec_l6Rd_pick.f k b bt.2 9).bind fun ct=>(some (wrap64 (1 + bt.1),wrap64 (1 + ct.1),ct.2)))) (fun k=>by simp only [spec_l71End.j0];rw [if_pos trivial]) (Ev.bind hx (Ev.bind hy (Ev.now _))),?_⟩
   simp only;omega
  | false =>
   have s : ∀ k,spec_l71End.j0 (k + 1) v false b (p + 1) = if v = 4 then (spec_l71End.j1 k v (v == 4) b (p + 1)) else (if v = 5 then (spec_l71End.j1 k v (v == 5) b (p + 1)) else (spec_l71End.j1 k v (v == 6) b (p + 1))):=fun k=>by simp only [spec_l71End.j0];rw [if_neg (by decide)]
   by_cases h7 : v = 4
   ·obtain ⟨a,q,p',h,h'⟩:=j1 v (v == 4)
    exact ⟨a,q,p',Ev.step s (Ev.pos h7 h),h'⟩
   ·by_cases h8 : v = 5
    ·obtain ⟨a,q,p',h,h'⟩:=j1 v (v == 5)
     exact ⟨a,q,p',Ev.step s (Ev.neg h7 (Ev.pos h8 h)),h'⟩
    ·obtain ⟨a,q,p',h,h'⟩:=j1 v (v == 6)
     exact ⟨a,q,p',Ev.step s (Ev.neg h7 (Ev.neg h8 h)),h'⟩
 unfold spec_l71End.f
 by_cases c0 : r = 0
 ·obtain ⟨a,q,p',h,h'⟩:=j0 r (r == 0)
  exact ⟨a,q,p',Ev.bind hr (Ev.pos c0 h),h'⟩
 ·by_cases c1 : r = 1
  ·obtain ⟨a,q,p',h,h'⟩:=j0 r (r == 1)
   exact ⟨a,q,p',Ev.bind hr (Ev.neg c0 (Ev.pos c1 h)),h'⟩
  ·by_cases c2 : r = 2
   ·obtain ⟨a,q,p',h,h'⟩:=j0 r (r == 2)
    exact ⟨a,q,p',Ev.bind hr (Ev.neg c0 (Ev.neg c1 (Ev.pos c2 h))),h'⟩
   ·obtain ⟨a,q,p',h,h'⟩:=j0 r (r == 3)
    exact ⟨a,q,p',Ev.bind hr (Ev.neg c0 (Ev.neg c1 (Ev.neg c2 h))),h'⟩
theorem bytesOf_nums (l : List Int) (h : Code l) : bytesOf (strOfNums l) = l:=by
 unfold bytesOf
 rw [strOfNums_data,List.map_map]
 conv=>rhs;rw [← List.map_id l]
 apply List.map_congr_left
 intro x hx
 have:=h x hx
 show ((UInt8.ofNat x.toNat).toNat : Int) = x
 rw [UInt8.toNat_ofNat']
 omega
theorem dec_ev (n : Int) (h0 : 0 ≤ n) (h1 : n ≤ 99) : ∃ s,Ev (fun k=>spec_l6Dec.f k n) s ∧ bytesOf s = dec n:=by
 have base : ∀ m : Int,0 ≤ m → m < 10 → Ev (fun k=>spec_l6Dec.f k m) (strOfNums [48 + m]):=fun m m0 m1=>by
  refine Ev.step (f:=fun _=>some (strOfNums [48 + m])) (fun k=>?_) (Ev.now _)
  simp only [spec_l6Dec.f]
  rw [if_neg (by omega),if_neg (by omega),if_pos m1,wrap_id (by omega) (by omega),Int.emod_eq_of_lt (by omega) (by omega)]
 by_cases h : n < 10
 ·refine ⟨_,base n h0 h,?_⟩
  rw [bytesOf_nums _ (by intro x hx;simp at hx;omega)]
  unfold dec;rw [if_pos h]
 ·have e1 : Int.tdiv n 10 = n / 10:=Int.tdiv_eq_ediv_of_nonneg h0
  have e2 : Int.tmod n 10 = n % 10:=Int.tmod_eq_emod_of_nonneg h0
  refine ⟨strOfNums [48 + n / 10] ++ strOfNums [48 + n % 10],?_,?_⟩
  ·refine Ev.step (f:=fun k=>(spec_l6Dec.f k (n / 10)).bind fun t=>((some (([48 + n % 10] : List Int) : List Int)).bind fun y=>(if t.size + (strOfNums y).size ≤ 9223372036854775807 then (some (t ++ (strOfNums y))) else (none)))) (fun k=>?_) ?_
   ·simp only [spec_l6Dec.f]
    rw [if_neg (by omega),if_neg (by omega),if_neg h,e1,e2,wrap_id (n:=n / 10) (by omega) (by omega),wrap_id (n:=48 + n % 10) (by omega) (by omega),Int.emod_eq_of_lt (a:=48 + n % 10) (by omega) (by omega)]
   ·refine Ev.bind (base (n / 10) (by omega) (by omega)) (Ev.call rfl (Ev.pos ?_ (Ev.now _)))
    rw [strOfNums_size,strOfNums_size];simp
  ·rw [bytesOf_append,bytesOf_nums _ (by intro x hx;simp at hx;omega),bytesOf_nums _ (by intro x hx;simp at hx;omega)]
   unfold dec;rw [if_neg h];rfl
theorem dec_len (n : Int) : (dec n).length ≤ 2:=by unfold dec;split <;> simp
theorem sEndText (a p : Int) : ∃ s,Ev (fun k=>spec_EndText.f k a p) s ∧ bytesOf s = endText a p:=by
 unfold spec_EndText.f
 cases h : anyE a p with
 | false =>
  refine ⟨⟨#[]⟩,Ev.call (sAny_eq a p) (Ev.neg (by rw [h];decide) (Ev.now _)),?_⟩
  rw [endText_none a p h];rfl
 | true =>
  have hr : (1 ≤ a ∧ a ≤ 9) ∧ 1 ≤ p ∧ p ≤ 17:=by rcases (anyE_iff a p).1 h with h|h <;> omega
  obtain ⟨s,hs,es⟩:=dec_ev a (by omega) (by omega)
  obtain ⟨t,ht,et⟩:=dec_ev p (by omega) (by omega)
  have l1 : s.size ≤ 2:=by rw [← bytesOf_size,es];exact dec_len a
  have l2 : t.size ≤ 2:=by rw [← bytesOf_size,et];exact dec_len p
  refine ⟨(s ++ (⟨#[58]⟩ : ByteArray)) ++ t,Ev.call (sAny_eq a p) (Ev.pos h (Ev.bind hs (Ev.pos (by omega) (Ev.bind ht (Ev.pos (by omega) (Ev.now _)))))),?_⟩
  rw [bytesOf_append,bytesOf_append,es,et]
  unfold endText
  rw [if_pos h,List.append_assoc];rfl
theorem endText_len (a p : Int) : (endText a p).length ≤ 4:=by
 cases h : anyE a p with
 | false=>rw [endText_none a p h];simp
 | true =>
  rcases (anyE_iff a p).1 h with h2|⟨rfl,h2⟩
  ·rw [endText_host a p h2];simp
  ·rw [endText_door p h2];simp
theorem text_loop (b : List Int) (hb : Code b) (hl : b.length ≤ 1000000) (most : Int) (hm : 0 ≤ most) (hm2 : most ≤ 1000) : ∀ (n : Nat) (s : ByteArray) (p : Int),0 ≤ p → p + 5 * n ≤ 1099511000000 → (s.size : Int) ≤ most →
  ∃ t p',Ev (fun k=>spec_l71Text.l0 k most s (n : Int) b p) (t,p') ∧ (t.size : Int) ≤ most ∧ p ≤ p' ∧ p' ≤ p + 5 * n
 | 0,s,p,h0,hp,hs=>⟨s,p,Ev.step (f:=fun _=>some (s,p)) (fun k=>by simp only [spec_l71Text.l0];rw [if_neg (by omega)]) (Ev.now _),hs,by omega,by omega⟩
 | n + 1,s,p,h0,hp,hs=>by
  have hw : wrap64 (((n + 1 : Nat) : Int) - 1) = (n : Int):=by rw [wrap_id (by omega) (by omega)];omega
  obtain ⟨x,hx,ex⟩:=of_ev b hb p h0 (by omega) hl [(⟨#[97]⟩ : ByteArray),(⟨#[98,99]⟩ : ByteArray),(⟨#[64]⟩ : ByteArray),(⟨#[64,49]⟩ : ByteArray),(⟨#[59]⟩ : ByteArray),(⟨#[58,53]⟩ : ByteArray),(⟨#[120,49]⟩ : ByteArray),(⟨#[64,64]⟩ : ByteArray),(⟨#[64,49,58]⟩ : ByteArray),(⟨#[55]⟩ : ByteArray)] (by simp)
  have hxs : x.size ≤ 3:=by
   simp only [List.mem_cons,List.not_mem_nil,or_false] at hx
   rcases hx with rfl|rfl|rfl|rfl|rfl|rfl|rfl|rfl|rfl|rfl <;> decide
  obtain ⟨r,er,r0,_⟩:=pick_ev b hb (p + 1) 5 (by omega) (by omega) hl
  by_cases hr : r < 3
  ·obtain ⟨a,q,p1,he,hp1,hp2⟩:=end_ev b hb (p + 1 + 1) (by omega) (by omega) hl
   obtain ⟨u,hu,eu⟩:=sEndText a q
   have lu : u.size ≤ 4:=by rw [← bytesOf_size,eu];exact endText_len a q
   by_cases hc : wrap64 ((s.size : Int) + (1 + (u.size : Int) + 1)) ≤ most
   ·have hc2 : (s.size : Int) + (1 + (u.size : Int) + 1) ≤ most:=by rwa [wrap_id (by omega) (by omega)] at hc
    obtain ⟨t,p',ht,h1,h2,h3⟩:=text_loop b hb hl most hm hm2 n (s ++ (((⟨#[64]⟩ : ByteArray) ++ u) ++ (⟨#[59]⟩ : ByteArray))) p1 (by omega) (by omega) (by
     have e1 : (⟨#[64]⟩ : ByteArray).size = 1:=rfl
     have e2 : (⟨#[59]⟩ : ByteArray).size = 1:=rfl
     rw [ByteArray.size_append,ByteArray.size_append,ByteArray.size_append,e1,e2];omega)
    refine ⟨t,p',Ev.step (f:=fun k=>_) (fun k=>by simp only [spec_l71Text.l0];rw [if_pos (by omega),hw]) ?_,h1,by omega,by omega⟩
    refine Ev.bind ex ?_
    refine Ev.bind er ?_
    refine Ev.pos hr ?_
    refine Ev.bind he ?_
    refine Ev.bind hu ?_
    refine Ev.pos (by omega) ?_
    refine Ev.pos (by omega) ?_
    refine Ev.pos hc ?_
    refine Ev.pos (by omega) ?_
    exact ht
   ·obtain ⟨t,p',ht,h1,h2,h3⟩:=text_loop b hb hl most hm hm2 n s p1 (by omega) (by omega) hs
    refine ⟨t,p',Ev.step (f:=fun k=>_) (fun k=>by simp only [spec_l71Text.l0];rw [if_pos (by omega),hw]) ?_,h1,by omega,by omega⟩
    refine Ev.bind ex ?_
    refine Ev.bind er ?_
    refine Ev.pos hr ?_
    refine Ev.bind he ?_
    refine Ev.bind hu ?_
    refine Ev.pos (by omega) ?_
    refine Ev.pos (by omega) ?_
    refine Ev.neg hc ?_
    exact ht
  ·by_cases hc : wrap64 ((s.size : Int) + (x.size : Int)) ≤ most
   ·have hc2 : (s.size : Int) + (x.size : Int) ≤ most:=by rwa [wrap_id (by omega) (by omega)] at hc
    obtain ⟨t,p',ht,h1,h2,h3⟩:=text_loop b hb hl most hm hm2 n (s ++ x) (p + 1 + 1) (by omega) (by omega) (by rw [ByteArray.size_append];omega)
    refine ⟨t,p',Ev.step (f:=fun k=>_) (fun k=>by simp only [spec_l71Text.l0];rw [if_pos (by omega),hw]) ?_,h1,by omega,by omega⟩
    refine Ev.bind ex ?_
    refine Ev.bind er ?_
    refine Ev.neg hr ?_
    refine Ev.pos hc ?_
    refine Ev.pos (show s.size + x.size ≤ 9223372036854775807 from by omega) ?_
    exact ht
   ·obtain ⟨t,p',ht,h1,h2,h3⟩:=text_loop b hb hl most hm hm2 n s (p + 1 + 1) (by omega) (by omega) hs
    refine ⟨t,p',Ev.step (f:=fun k=>_) (fun k=>by simp only [spec_l71Text.l0];rw [if_pos (by omega),hw]) ?_,h1,by omega,by omega⟩
    refine Ev.bind ex ?_
    refine Ev.bind er ?_
    refine Ev.neg hr ?_
    refine Ev.neg hc ?_
    exact ht
theorem text_ev (b : List Int) (hb : Code b) (p : Int) (h0 : 0 ≤ p) (hp : p ≤ 1099510000000) (hl : b.length ≤ 1000000) (most : Int) (hm : 0 ≤ most) (hm2 : most ≤ 1000) :
  ∃ t p',Ev (fun k=>spec_l71Text.f k b p most) (t,p') ∧ (t.size : Int) ≤ most ∧ p ≤ p' ∧ p' ≤ p + 31:=by
 obtain ⟨r,hr,r0,r1,_⟩:=pick_ev b hb p 7 h0 (by omega) hl
 have r2:=r1 (by omega)
 obtain ⟨n,rfl⟩:=Int.eq_ofNat_of_zero_le r0
 obtain ⟨t,p',ht,h1,h2,h3⟩:=text_loop b hb hl most hm hm2 n ⟨#[]⟩ (p + 1) (by omega) (by omega) (by show ((0 : Nat) : Int) ≤ most;omega)
 exact ⟨t,p',Ev.bind hr ht,h1,by omega,by omega⟩
def readE (l : List Int) : Int × Int × Bool:=match endRead l with | some (a,p)=>(a,p,true) | none=>(0,0,false)
def dig (c : Int) : Int:=if 48 ≤ c ∧ c ≤ 57 then c - 48 else -1
theorem dig_range (c : Int) : -1 ≤ dig c ∧ dig c ≤ 9:=by unfold dig;split <;> omega
theorem readE_fin (s : ByteArray) (hn : bytesOf s ≠ []) (a p : Int) (hr : ∀ b q,anyE b q = true → endText b q = bytesOf s → b = a ∧ q = p) :
  Ev (fun k=>(spec_EndText.f k a p).bind fun t=>if t.toList = s.toList then some (a,p,true) else some (0,0,false)) (readE (bytesOf s)):=by
 obtain ⟨t,ht,htb⟩:=sEndText a p
 refine Ev.bind ht ?_
 by_cases h : endText a p = bytesOf s
 ·refine Ev.pos (bytesOf_toList.2 (htb.trans h)) ?_
  have ha : anyE a p = true:=by
   cases hc : anyE a p with
   | true=>rfl
   | false=>exact absurd (h.symm.trans (endText_none a p hc)) hn
  have : readE (bytesOf s) = (a,p,true):=by unfold readE;rw [(endRead_iff _ a p).2 ⟨ha,h⟩]
  rw [this];exact Ev.now _
 ·refine Ev.neg (fun hc=>h (htb.symm.trans (bytesOf_toList.1 hc))) ?_
  have : readE (bytesOf s) = (0,0,false):=by
   unfold readE
   cases hc : endRead (bytesOf s) with
   | none=>rfl
   | some r =>
    obtain ⟨b,q⟩:=r
    obtain ⟨h1,h2⟩:=(endRead_iff _ b q).1 hc
    obtain ⟨rfl,rfl⟩:=hr b q h1 h2
    exact absurd h2 h
  rw [this];exact Ev.now _
theorem endText_lens (a p : Int) (h : anyE a p = true) : (endText a p).length = 3 ∨ (endText a p).length = 4:=by
 rcases (anyE_iff a p).1 h with h2|⟨rfl,h2⟩
 ·rw [endText_host a p h2];exact .inl rfl
 ·rw [endText_door p h2];exact .inr rfl
theorem readE_none (l : List Int) (h : ¬ (l.length = 3 ∨ l.length = 4)) : readE l = (0,0,false):=by
 unfold readE
 cases hc : endRead l with
 | none=>rfl
 | some r =>
  obtain ⟨b,q⟩:=r
  obtain ⟨h1,h2⟩:=(endRead_iff _ b q).1 hc
  rw [← h2] at h
  exact absurd (endText_lens b q h1) h
theorem bt_list (s : ByteArray) (i : Nat) : bt s (i : Int) = (bytesOf s).getD i 0:=by rw [bt_rd];rfl
theorem sEndRead (s : ByteArray) : Ev (fun k=>spec_EndRead.f k s) (readE (bytesOf s)):=by
 have hlen:=bytesOf_length s
 unfold spec_EndRead.f
 refine Ev.call (l6In_eq _ _ _) ?_
 by_cases h : 3 ≤ (s.size : Int) ∧ (s.size : Int) ≤ 4
 ·refine Ev.pos (by simpa using h) ?_
  refine Ev.pos (by omega) ?_
  refine Ev.call (digit_eq (bt s 0) (bt_range s 0)) ?_
  have d0:=dig_range (bt s 0)
  have d2:=dig_range (bt s 2)
  have d3:=dig_range (bt s 3)
  have one : ∀ (a acc i : Int),0 ≤ i → i < (s.size : Int) → -1 ≤ acc → acc ≤ 9 → Ev (fun k=>spec_EndRead.l0 k s (s.size : Int) (i + 1) a (10 * acc + dig (bt s i))) (readE (bytesOf s)) →
    Ev (fun k=>spec_EndRead.l0 k s (s.size : Int) i a acc) (readE (bytesOf s)):=by
   intro a acc i h0 hi l1 l2 hk
   have hd:=dig_range (bt s i)
   refine Ev.step (f:=fun k=>_) (fun k=>by simp only [spec_EndRead.l0];rfl) ?_
   refine Ev.pos hi ?_
   refine Ev.pos h0 ?_
   refine Ev.pos hi ?_
   refine Ev.call (digit_eq (bt s i) (bt_range s i)) ?_
   have e1 : wrap64 (i + 1) = i + 1:=wrap_id (by omega) (by omega)
   have e2 : wrap64 (wrap64 (10 * acc) + dig (bt s i)) = 10 * acc + dig (bt s i):=by
    rw [wrap_id (n:=10 * acc) (by omega) (by omega),wrap_id (by omega) (by omega)]
   show Ev (fun k=>spec_EndRead.l0 k s (s.size : Int) (wrap64 (i + 1)) a (wrap64 (wrap64 (10 * acc) + dig (bt s i)))) _
   rw [e1,e2];exact hk
  have last : ∀ (a p i : Int),¬ i < (s.size : Int) → (∀ b q,anyE b q = true → endText b q = bytesOf s → b = a ∧ q = p) → Ev (fun k=>spec_EndRead.l0 k s (s.size : Int) i a p) (readE (bytesOf s)):=by
   intro a p i hi hr
   refine Ev.step (f:=fun k=>_) (fun k=>by simp only [spec_EndRead.l0];rfl) ?_
   refine Ev.neg hi ?_
   exact readE_fin s (fun hc=>by rw [hc] at hlen;simp at hlen;omega) a p hr
  show Ev (fun k=>spec_EndRead.l0 k s (s.size : Int) 2 (dig (bt s 0)) 0) _
  have b0:=bt_list s 0
  have b2:=bt_list s 2
  have b3:=bt_list s 3
  refine one _ 0 2 (by omega) (by omega) (by omega) (by omega) ?_
  by_cases h3 : s.size = 3
  ·refine last _ _ _ (by omega) ?_
   intro b q hb hq
   rcases (anyE_iff b q).1 hb with hc|⟨rfl,hc⟩
   ·rw [endText_host b q hc] at hq
    rw [← hq] at b0 b2
    have e0 : bt s 0 = 48 + b:=b0
    have e2 : bt s 2 = 48 + q:=b2
    rw [e0,e2]
    unfold dig
    rw [if_pos (by omega),if_pos (by omega)]
    omega
   ·rw [endText_door q hc] at hq
    have:=congrArg List.length hq
    simp at this;omega
  ·refine one _ _ 3 (by omega) (by omega) (by omega) (by omega) ?_
   refine last _ _ _ (by omega) ?_
   intro b q hb hq
   rcases (anyE_iff b q).1 hb with hc|⟨rfl,hc⟩
   ·rw [endText_host b q hc] at hq
    have:=congrArg List.length hq
    simp at this;omega
   ·rw [endText_door q hc] at hq
    rw [← hq] at b0 b2 b3
    have e0 : bt s 0 = 57:=b0
    have e2 : bt s 2 = 49:=b2
    have e3 : bt s 3 = 38 + q:=b3
    rw [e0,e2,e3]
    unfold dig
    rw [if_pos (by omega),if_pos (by omega),if_pos (by omega)]
    omega
 ·refine Ev.neg (by simpa using h) ?_
  rw [readE_none _ (by rw [hlen];omega)]
  exact Ev.now _
def encP (x : Pc) : S45:=⟨(x.size : Int),x.named,⟨x.addr,x.port⟩⟩
theorem iPieces_loop : ∀ (n : Nat) (s : ByteArray) (acc : List S45),s.size ≤ n → n ≤ 1000 → acc.length + n ≤ 2000 → Ev (fun k=>impl_pieces.l0 k acc s) (acc ++ (toks (bytesOf s)).map encP)
 | n,s,acc,hn,hm,ha=>by
  have hlen:=bytesOf_length s
  by_cases h : bytesOf s = []
  ·refine Ev.step (f:=fun k=>_) (fun k=>by simp only [impl_pieces.l0];rfl) ?_
   refine Ev.pos ((toList_nil s).2 h) ?_
   refine Ev.call (show slices_Clip_Piece.f acc = some acc from rfl) ?_
   rw [h,toks_nil,List.map_nil,List.append_nil]
   exact Ev.now _
  ·have hs:=pieceOf_size (bytesOf s) h
   have hp : 0 < (bytesOf s).length:=List.length_pos_iff.2 h
   refine Ev.step (f:=fun k=>_) (fun k=>by simp only [impl_pieces.l0];rfl) ?_
   refine Ev.neg (fun hc=>h ((toList_nil s).1 hc)) ?_
   refine Ev.call (iPiece s (by omega)) ?_
   refine Ev.pos (show acc.length < 4398046511104 from by omega) ?_
   refine Ev.pos (show (0 : Int) ≤ ((pieceOf (bytesOf s)).size : Int) from by omega) ?_
   refine Ev.pos (show ((pieceOf (bytesOf s)).size : Int) ≤ (s.size : Int) from by omega) ?_
   have hb : bytesOf (s.extract ((((pieceOf (bytesOf s)).size : Nat) : Int)).toNat s.size) = (bytesOf s).drop (pieceOf (bytesOf s)).size:=by
    rw [bytesOf_to_end];rfl
   have hz : (s.extract ((((pieceOf (bytesOf s)).size : Nat) : Int)).toNat s.size).size ≤ n - 1:=by
    rw [← bytesOf_length,hb,List.length_drop];omega
   have:=iPieces_loop (n - 1) _ (acc ++ [encP (pieceOf (bytesOf s))]) hz (by omega) (by rw [List.length_append,List.length_singleton];omega)
   rw [hb] at this
   rw [toks_cons _ h,List.map_cons]
   rw [List.append_assoc] at this
   exact this
termination_by n=>n
decreasing_by omega
theorem iPieces (s : ByteArray) (hs : s.size ≤ 1000) : Ev (fun k=>impl_pieces.f k s) ((pieces (bytesOf s)).map encP):=by
 unfold impl_pieces.f
 have h:=held_le (bytesOf s)
 have hlen:=bytesOf_length s
 refine Ev.bind (iHeld s (by omega)) ?_
 rw [wrap_id (by omega) (by omega)]
 refine Ev.pos (by omega) ?_
 refine Ev.pos (by omega) ?_
 have hb : bytesOf (s.extract 0 ((s.size : Int) - (held (bytesOf s) : Int)).toNat) = (bytesOf s).take ((bytesOf s).length - held (bytesOf s)):=by
  rw [bytesOf_from];congr 1;omega
 have:=iPieces_loop 1000 (s.extract 0 ((s.size : Int) - (held (bytesOf s) : Int)).toNat) [] (by rw [ByteArray.size_extract];omega) (by omega) (by simp)
 rw [hb] at this
 exact this
def textPieces (l : List Int) : List Pc:=if textOk l = true then pieces l else []
theorem textOk_len {l : List Int} (h : textOk l = true) : l.length ≤ 40:=by
 simp only [textOk,Bool.and_eq_true,decide_eq_true_eq] at h;exact h.2
theorem iTextPieces (s : ByteArray) (hs : s.size ≤ 140737488355328) : Ev (fun k=>impl_TextPieces.f k s) ((textPieces (bytesOf s)).map encP):=by
 unfold impl_TextPieces.f textPieces
 refine Ev.call (iTextOk s hs) ?_
 cases h : textOk (bytesOf s) with
 | true =>
  have:=textOk_len h
  rw [bytesOf_length] at this
  refine Ev.pos rfl ?_
  exact Ev.bind (iPieces s (by omega)) (Ev.now _)
 | false=>exact Ev.neg (by decide) (Ev.now _)
def nameTry (l : List Int) (n : Nat) : Option (Int × Int):=if n ≤ l.length ∧ l.getD 0 0 = 64 ∧ l.getD (n - 1) 0 = 59 then endRead ((l.drop 1).take (n - 2)) else none
theorem nameAt_try (l : List Int) : nameAt l = match nameTry l 5 with | some (a,p)=>some (a,p,5) | none=>match nameTry l 6 with | some (a,p)=>some (a,p,6) | none=>none:=by
 have h59 : ∀ (x c y d : Int),endRead [x,c,y,d] = if x = 57 ∧ c = 58 ∧ y = 49 ∧ 48 ≤ d ∧ d ≤ 55 then some (9,d - 38) else none:=fun _ _ _ _=>rfl
 have h39 : ∀ (x c y : Int),endRead [x,c,y] = if c = 58 ∧ 49 ≤ x ∧ x ≤ 54 ∧ 49 ≤ y ∧ y ≤ 57 then some (x - 48,y - 48) else none:=fun _ _ _=>rfl
 match l with
 | []=>rfl
 | [_]=>rfl
 | [_,_]=>rfl
 | [_,_,_]=>rfl
 | [_,_,_,_]=>rfl
 | [a,x,c,y,d] =>
  simp only [nameAt,nameTry,List.length_cons,List.length_nil,List.getD_cons_zero,List.drop_succ_cons,List.drop_zero,List.take_succ_cons,List.take_zero,h39]
  simp
  by_cases h1 : a = 64 <;> by_cases h2 : d = 59 <;> simp [h1,h2]
  split <;> split <;> simp_all
 | a :: x :: c :: y :: d :: f :: t =>
  simp only [nameAt,nameTry,List.length_cons,List.getD_cons_zero,List.drop_succ_cons,List.drop_zero,List.take_succ_cons,List.take_zero,h39,h59]
  simp
  by_cases h1 : a = 64 <;> by_cases h2 : d = 59 <;> by_cases h3 : f = 59 <;> simp [h1,h2,h3] <;> (repeat' split) <;> simp_all <;> omega
def nameOr (l : List Int) : Int × Int × Int:=match nameAt l with | some (a,p,n)=>(a,p,(n : Int)) | none=>(0,0,0)
theorem nameTry_len {l : List Int} {n : Nat} (h : l.length < n) : nameTry l n = none:=by
 unfold nameTry;rw [if_neg (by omega)]
theorem try_ev (s : ByteArray) (n : Nat) (hn : n = 5 ∨ n = 6) (R : Int × Int × Int) (K : n ≤ s.size → Ev (fun k=>spec_l2Name.l0 k s ((n : Int) + 1)) R) :
  Ev (fun k=>spec_l2Name.l0 k s (n : Int)) (match nameTry (bytesOf s) n with | some (a,p)=>(a,p,(n : Int)) | none=>if n ≤ s.size then R else (0,0,0)):=by
 have hlen:=bytesOf_length s
 refine Ev.step (f:=fun k=>_) (fun k=>by simp only [spec_l2Name.l0];rfl) ?_
 refine Ev.pos (by omega) ?_
 refine Ev.step (f:=fun k=>_) (fun k=>by simp only [spec_l2Name.j1];rfl) ?_
 by_cases h : n ≤ s.size
 ·refine Ev.pos (decide_eq_true (by omega)) ?_
  refine Ev.pos (by omega) ?_
  have w1 : wrap64 ((n : Int) - 1) = ((n - 1 : Nat) : Int):=by rw [wrap_id (by omega) (by omega)];omega
  have w2 : wrap64 ((n : Int) + 1) = (n : Int) + 1:=wrap_id (by omega) (by omega)
  have b0:=bt_list s 0
  have b1:=bt_list s (n - 1)
  rw [w1]
  rw [show ((0 : Nat) : Int) = 0 from rfl] at b0
  rw [b0,b1]
  have no : nameTry (bytesOf s) n = none → Ev (fun k=>spec_l2Name.l0 k s (wrap64 ((n : Int) + 1))) (match nameTry (bytesOf s) n with | some (a,p)=>(a,p,(n : Int)) | none=>if n ≤ s.size then R else (0,0,0)):=by
   intro e
   rw [e,w2]
   simp only [if_pos h]
   exact K h
  by_cases c0 : (bytesOf s).getD 0 0 = 64
  ·refine Ev.pos c0 ?_
   refine Ev.pos (by omega) ?_
   refine Ev.pos (by omega) ?_
   refine Ev.step (f:=fun k=>_) (fun k=>by simp only [spec_l2Name.j2];rfl) ?_
   by_cases c1 : (bytesOf s).getD (n - 1) 0 = 59
   ·refine Ev.pos (beq_iff_eq.2 c1) ?_
    rw [w1]
    refine Ev.pos (by omega) ?_
    refine Ev.pos (by omega) ?_
    refine Ev.bind (sEndRead _) ?_
    have hx : bytesOf (s.extract 1 (((n - 1 : Nat) : Int)).toNat) = ((bytesOf s).drop 1).take (n - 2):=by
     rw [bytesOf_extract];congr 1
    rw [hx]
    have e : nameTry (bytesOf s) n = endRead (((bytesOf s).drop 1).take (n - 2)):=by
     unfold nameTry;rw [if_pos ⟨by omega,c0,c1⟩]
    cases hr : endRead (((bytesOf s).drop 1).take (n - 2)) with
    | some r =>
     obtain ⟨a,p⟩:=r
     rw [e,hr]
     simp only [readE,hr]
     exact Ev.pos (by simp) (Ev.now _)
    | none =>
     simp only [readE,hr]
     exact Ev.neg (by simp) (no (e.trans hr))
   ·refine Ev.neg (by rw [beq_iff_eq];exact c1) ?_
    exact no (by unfold nameTry;rw [if_neg (fun hc=>c1 hc.2.2)])
  ·refine Ev.neg c0 ?_
   refine Ev.step (f:=fun k=>_) (fun k=>by simp only [spec_l2Name.j2];rfl) ?_
   refine Ev.neg (by decide) ?_
   exact no (by unfold nameTry;rw [if_neg (fun hc=>c0 hc.2.1)])
 ·refine Ev.neg (by rw [decide_eq_true_eq];omega) ?_
  rw [nameTry_len (by omega)]
  simp only [if_neg h]
  exact Ev.now _
theorem sName (s : ByteArray) : Ev (fun k=>spec_l2Name.f k s) (nameOr (bytesOf s)):=by
 have hlen:=bytesOf_length s
 unfold spec_l2Name.f
 have h7 : Ev (fun k=>spec_l2Name.l0 k s (((6 : Nat) : Int) + 1)) (0,0,0):=by
  refine Ev.step (f:=fun k=>_) (fun k=>by simp only [spec_l2Name.l0];rfl) ?_
  refine Ev.neg (by omega) ?_
  refine Ev.step (f:=fun k=>_) (fun k=>by simp only [spec_l2Name.j1];rfl) ?_
  exact Ev.neg (by decide) (Ev.now _)
 have h6:=try_ev s 6 (.inr rfl) _ (fun _=>h7)
 have h5:=try_ev s 5 (.inl rfl) _ (fun _=>h6)
 have e : nameOr (bytesOf s) = (match nameTry (bytesOf s) 5 with | some (a,p)=>(a,p,((5 : Nat) : Int)) | none=>if 5 ≤ s.size then (match nameTry (bytesOf s) 6 with | some (a,p)=>(a,p,((6 : Nat) : Int)) | none=>if 6 ≤ s.size then (0,0,0) else (0,0,0)) else (0,0,0)):=by
  unfold nameOr
  rw [nameAt_try]
  cases nameTry (bytesOf s) 5 with
  | some r=>rfl
  | none =>
   simp only
   by_cases h : 5 ≤ s.size
   ·rw [if_pos h]
    cases nameTry (bytesOf s) 6 with
    | some r=>rfl
    | none=>simp
   ·rw [if_neg h,nameTry_len (by omega)]
 rw [e]
 exact h5
theorem sPieces_loop (s : ByteArray) (most : Nat) (hm : most ≤ s.size) (hs : s.size ≤ 1000) : ∀ (d at_ : Nat) (acc : List S45),most - at_ ≤ d → at_ ≤ most → acc.length + d ≤ 2000 →
  Ev (fun k=>spec_l2Pieces.l0 k s acc (most : Int) (at_ : Int)) (acc ++ (toks (((bytesOf s).take most).drop at_)).map encP)
 | d,at_,acc,hd,ha,hl=>by
  have hlen:=bytesOf_length s
  refine Ev.step (f:=fun k=>_) (fun k=>by simp only [spec_l2Pieces.l0];rfl) ?_
  by_cases h : at_ < most
  ·refine Ev.pos (by omega) ?_
   refine Ev.pos (by omega) ?_
   refine Ev.pos (by omega) ?_
   refine Ev.pos (by omega) ?_
   refine Ev.bind (sName _) ?_
   have hb : bytesOf (s.extract ((at_ : Int)).toNat ((most : Int)).toNat) = ((bytesOf s).take most).drop at_:=by
    rw [bytesOf_extract,List.drop_take];rfl
   rw [hb]
   generalize hu : ((bytesOf s).take most).drop at_ = u
   have hul : u.length = most - at_:=by rw [← hu,List.length_drop,List.length_take];omega
   have hu0 : u ≠ []:=fun e=>by rw [e] at hul;simp at hul;omega
   have step : ∀ x : Pc,pieceOf u = x → 1 ≤ x.size → x.size ≤ u.length → Ev (fun k=>spec_l2Pieces.l0 k s (acc ++ [encP x]) (most : Int) (wrap64 ((at_ : Int) + (x.size : Int)))) (acc ++ (toks u).map encP):=by
    intro x hx h1 h2
    rw [wrap_id (by omega) (by omega)]
    have:=sPieces_loop s most hm hs (d - 1) (at_ + x.size) (acc ++ [encP x]) (by omega) (by omega) (by rw [List.length_append,List.length_singleton];omega)
    rw [← List.drop_drop,hu,List.append_assoc] at this
    rw [toks_cons _ hu0,List.map_cons,hx]
    exact this
   have hsz:=pieceOf_size u hu0
   cases hn : nameAt u with
   | some r =>
    obtain ⟨a,p,n⟩:=r
    have hp : pieceOf u = ⟨n,true,a,p⟩:=by unfold pieceOf;rw [hn]
    rw [hp] at hsz
    simp only [nameOr,hn]
    refine Ev.pos (show (n : Int) > 0 from by have:=hsz.1;simp at this;omega) ?_
    refine Ev.pos (show acc.length < 4398046511104 from by omega) ?_
    exact step ⟨n,true,a,p⟩ hp hsz.1 hsz.2
   | none =>
    have hp : pieceOf u = ⟨1,false,0,0⟩:=by unfold pieceOf;rw [hn]
    rw [hp] at hsz
    simp only [nameOr,hn]
    refine Ev.neg (by omega) ?_
    refine Ev.pos (show acc.length < 4398046511104 from by omega) ?_
    exact step ⟨1,false,0,0⟩ hp hsz.1 hsz.2
  ·refine Ev.neg (by omega) ?_
   have : ((bytesOf s).take most).drop at_ = []:=by
    rw [List.drop_eq_nil_iff,List.length_take];omega
   rw [this,toks_nil,List.map_nil,List.append_nil]
   exact Ev.now _
termination_by d=>d
decreasing_by omega
theorem sPieces (s : ByteArray) (hs : s.size ≤ 1000) : Ev (fun k=>spec_l2Pieces.f k s) ((pieces (bytesOf s)).map encP):=by
 unfold spec_l2Pieces.f
 have h:=held_le (bytesOf s)
 have hlen:=bytesOf_length s
 refine Ev.bind (sHeld s (by omega)) ?_
 rw [wrap_id (by omega) (by omega)]
 have:=sPieces_loop s ((bytesOf s).length - held (bytesOf s)) (by omega) hs 1000 0 [] (by omega) (by omega) (by simp)
 rw [List.drop_zero] at this
 have e : ((s.size : Int) - (held (bytesOf s) : Int)) = (((bytesOf s).length - held (bytesOf s) : Nat) : Int):=by omega
 rw [e]
 exact this
theorem sTextPieces (s : ByteArray) (hs : s.size ≤ 140737488355328) : Ev (fun k=>spec_TextPieces.f k s) ((textPieces (bytesOf s)).map encP):=by
 unfold spec_TextPieces.f textPieces
 refine Ev.bind (sTextOk s (by omega)) ?_
 cases h : textOk (bytesOf s) with
 | true =>
  have:=textOk_len h
  rw [bytesOf_length] at this
  refine Ev.pos rfl ?_
  exact Ev.bind (sPieces s (by omega)) (Ev.now _)
 | false=>exact Ev.neg (by decide) (Ev.now _)
theorem rd_enc (ps : List Pc) (i : Nat) (h : i < ps.length) : rd_T45 (ps.map encP) (i : Int) = encP ps[i]:=by
 unfold rd_T45
 rw [List.getD_eq_getElem?_getD,List.getElem?_map,show ((i : Int)).toNat = i from rfl,List.getElem?_eq_getElem h]
 rfl
theorem toks_length : ∀ (n : Nat) (l : List Int),l.length ≤ n → (toks l).length ≤ l.length
 | 0,l,h=>by
  have : l = []:=List.eq_nil_of_length_eq_zero (by omega)
  subst this;simp [toks_nil]
 | n + 1,l,h=>by
  by_cases hl : l = []
  ·subst hl;simp [toks_nil]
  ·have hs:=pieceOf_size l hl
   have:=toks_length n (l.drop (pieceOf l).size) (by rw [List.length_drop];omega)
   rw [List.length_drop] at this
   rw [toks_cons l hl,List.length_cons];omega
theorem pieces_length (l : List Int) : (pieces l).length ≤ l.length:=by
 have:=toks_length l.length (l.take (l.length - held l)) (by rw [List.length_take];omega)
 rw [List.length_take] at this
 unfold pieces;omega
def sizes (ps : List Pc) : Nat:=(ps.map (·.size)).sum
theorem toks_sizes : ∀ (n : Nat) (l : List Int),l.length ≤ n → sizes (toks l) = l.length
 | 0,l,h=>by
  have : l = []:=List.eq_nil_of_length_eq_zero (by omega)
  subst this;rfl
 | n + 1,l,h=>by
  by_cases hl : l = []
  ·subst hl;rfl
  ·have hs:=pieceOf_size l hl
   have:=toks_sizes n (l.drop (pieceOf l).size) (by rw [List.length_drop];omega)
   rw [List.length_drop] at this
   rw [toks_cons l hl]
   simp only [sizes,List.map_cons,List.sum_cons] at this ⊢
   omega
theorem pieces_sizes (l : List Int) : sizes (pieces l) = l.length - held l:=by
 unfold pieces
 rw [toks_sizes l.length _ (by rw [List.length_take];omega),List.length_take]
 omega
end Go.Proofs.YtkcjmmhleepjeaaDoor.Pure
namespace Go.Proofs.YtkcjmmhleepjeaaDoor.Plain
open Go.Proofs.YtkcjmmhleepjeaaDoorW.PrintWords Go.RowKit
set_option linter.unusedVariables false
set_option linter.unusedSimpArgs false
theorem cut_less {u v x : List Int} (h : Cut u (v ++ x)) : Cut u v:=by
 intro i a p hi ha hr
 obtain ⟨r,hr⟩:=hr
 refine h i a p hi ha ⟨r ++ x,?_⟩
 rw [← List.append_assoc,List.drop_append_of_le_length (by rw [List.length_append];omega),hr,List.append_assoc]
theorem drop_begins {l : List Int} {j n : Nat} (hj : j ≤ n) (hn : n ≤ l.length) (h : begins (l.drop j) = true) (h1 : j < n) : begins ((l.take n).drop j) = true:=by
 rw [List.drop_take]
 exact begins_take h _ (by omega)
theorem cut_unheld (u v : List Int) : Cut (u.take (u.length - held u)) (u.drop (u.length - held u) ++ v):=by
 have hle:=held_le u
 intro i a p hi ha hr
 rw [← List.append_assoc,List.take_append_drop] at hr
 rw [List.length_take] at hi ⊢
 obtain ⟨r,hr⟩:=hr
 have hl:=congrArg List.length hr
 rw [List.length_drop,List.length_append,List.length_append] at hl
 rcases Nat.lt_or_ge (u.length - held u) (i + (name a p).length) with hlt|hge
 ·exfalso
  rcases Nat.lt_or_ge u.length (i + (name a p).length) with h2|h2
  ·have e : u.drop i = (name a p).take (u.length - i):=by
    have:=congrArg (List.take (u.length - i)) hr
    rw [List.drop_append_of_le_length (by omega),List.take_append_of_le_length (by rw [List.length_drop];omega),List.take_append_of_le_length (by omega)] at this
    rw [← this,List.take_of_length_le (by rw [List.length_drop];omega)]
   have hb:=name_begins a p ha (u.length - i) (by omega) (by omega)
   rw [← e] at hb
   have:=held_ge u (u.length - i) (by rw [show u.length - (u.length - i) = i from by omega];exact hb) (by omega) (by omega)
   omega
  ·have h0 : 0 < held u:=by omega
   have hb:=held_begins u h0
   have h64:=((begins_at hb 0 (by rw [List.length_drop];omega)).1).2 rfl
   have e : (u.drop (u.length - held u)).getD 0 0 = (name a p).getD (u.length - held u - i) 0:=by
    have h3:=congrArg (fun l=>l.getD (u.length - held u - i) 0) hr
    simp only [List.getD_eq_getElem?_getD,List.getElem?_drop] at h3 ⊢
    rw [List.getElem?_append_left (by omega),List.getElem?_append_left (by omega)] at h3
    rw [← h3]
    congr 2;omega
   rw [e] at h64
   have:=(name_at a p ha (u.length - held u - i) (by omega)).1 h64
   omega
 ·omega
theorem held_prefix (u v : List Int) : u.length - held u ≤ (u ++ v).length - held (u ++ v):=by
 have h1:=held_le u
 have h2:=held_le (u ++ v)
 rw [List.length_append] at h2 ⊢
 rcases Nat.lt_or_ge (u.length + v.length - held (u ++ v)) (u.length - held u) with hlt|hge
 ·exfalso
  have hb:=held_begins (u ++ v) (by omega)
  rw [List.length_append] at hb
  have h3:=drop_begins (n:=u.length) (by omega) (by rw [List.length_append];omega) hb (by omega)
  rw [List.take_left] at h3
  have:=held_ge u (u.length - (u.length + v.length - held (u ++ v))) (by rw [show u.length - (u.length - (u.length + v.length - held (u ++ v))) = u.length + v.length - held (u ++ v) from by omega];exact h3) (by omega) (by omega)
  omega
 ·exact hge
theorem take_two {l : List Int} {m n : Nat} (h : m ≤ n) : l.take n = l.take m ++ (l.take n).drop m:=by
 conv=>lhs;rw [← List.take_append_drop m (l.take n)]
 rw [List.take_take,Nat.min_eq_left h]
theorem drop_two {l : List Int} {m n : Nat} (h : m ≤ n) (hn : n ≤ l.length) : (l.take n).drop m ++ l.drop n = l.drop m:=by
 conv=>rhs;rw [← List.take_append_drop n l]
 rw [List.drop_append_of_le_length (by rw [List.length_take];omega)]
theorem pieces_prefix (u v : List Int) : ∃ w,pieces (u ++ v) = pieces u ++ w:=by
 have h:=held_prefix u v
 have h1:=held_le u
 have h2:=held_le (u ++ v)
 have hc:=cut_unheld u v
 unfold pieces
 generalize hQ : u ++ v = q at h h2 ⊢
 generalize hm : u.length - held u = m at h hc ⊢
 generalize hn : q.length - held q = n at h ⊢
 have hmu : m ≤ u.length:=by omega
 have hnq : n ≤ q.length:=by omega
 refine ⟨toks ((q.take n).drop m),?_⟩
 have e0 : q.take m = u.take m:=by rw [← hQ,List.take_append_of_le_length hmu]
 have e : q.take n = u.take m ++ (q.take n).drop m:=by
  have:=take_two (l:=q) h
  rwa [e0] at this
 have e3 : u.drop m ++ v = q.drop m:=by rw [← hQ,List.drop_append_of_le_length hmu]
 rw [e3] at hc
 have hc2 : Cut (u.take m) ((q.take n).drop m):=by
  refine cut_less (x:=q.drop n) ?_
  rw [drop_two h hnq];exact hc
 have hf:=toks_append _ _ _ (Nat.le_refl _) hc2
 rwa [← e] at hf
theorem toks_form : ∀ (n : Nat) (l : List Int),l.length ≤ n → ∀ x ∈ toks l,(x.named = true ∧ anyE x.addr x.port = true ∧ x.size = (name x.addr x.port).length) ∨ x = ⟨1,false,0,0⟩
 | 0,l,h=>by
  have : l = []:=List.eq_nil_of_length_eq_zero (by omega)
  subst this;simp [toks_nil]
 | n + 1,l,h=>by
  by_cases hl : l = []
  ·subst hl;simp [toks_nil]
  ·have hs:=pieceOf_size l hl
   rw [toks_cons l hl]
   intro x hx
   rcases List.mem_cons.1 hx with rfl|hx
   ·unfold pieceOf
    cases hn : nameAt l with
    | none=>exact .inr rfl
    | some y =>
     obtain ⟨a,p,m⟩:=y
     obtain ⟨h1,h2,_⟩:=(nameAt_iff l a p m).1 hn
     exact .inl ⟨rfl,h1,h2⟩
   ·exact toks_form n _ (by rw [List.length_drop];omega) x hx
theorem pieces_form (l : List Int) : ∀ x ∈ pieces l,(x.named = true ∧ anyE x.addr x.port = true ∧ x.size = (name x.addr x.port).length) ∨ x = ⟨1,false,0,0⟩:=toks_form _ _ (Nat.le_refl _)
def went : List (Int × Int) → Int → Int
 | [],_=>0
 | x :: r,i=>if x.1 ≤ i then x.2 + went r (i - x.1) else 0
def Small (r : List (Int × Int)) : Prop:=∀ x ∈ r,(1 ≤ x.1 ∧ x.1 ≤ 6) ∧ (1 ≤ x.2 ∧ x.2 ≤ 6)
theorem Small.take {r : List (Int × Int)} (h : Small r) (k : Nat) : Small (r.take k):=fun y hy=>h y (List.mem_of_mem_take hy)
structure Pt where
 size : Int
 text : List Int
def partOk (p : Pt) (q : Pc) : Bool:=decide (p.size = (q.size : Int)) && (decide (1 ≤ p.text.length ∧ p.text.length ≤ 6) && textOk p.text)
def partsOk : List Pt → List Pc → Bool
 | [],[]=>true
 | p :: ps,q :: qs=>partOk p q && partsOk ps qs
 | [],_ :: _=>false
 | _ :: _,[]=>false
def streamOk (l : List Int) (ps : List Pt) : Bool:=textOk l && partsOk ps (pieces l)
theorem partsOk_len : ∀ {ps : List Pt} {qs : List Pc},partsOk ps qs = true → ps.length = qs.length
 | [],[],_=>rfl
 | [],_ :: _,h=>by cases h
 | _ :: _,[],h=>by cases h
 | p :: ps,q :: qs,h=>by
  rw [partsOk,Bool.and_eq_true] at h
  rw [List.length_cons,List.length_cons,partsOk_len h.2]
theorem partOk_iff (p : Pt) (q : Pc) : partOk p q = true ↔ p.size = (q.size : Int) ∧ (1 ≤ p.text.length ∧ p.text.length ≤ 6) ∧ textOk p.text = true:=by
 simp [partOk]
theorem partsOk_at : ∀ {ps : List Pt} {qs : List Pc},partsOk ps qs = true → ∀ (i : Nat) (hi : i < ps.length) (hj : i < qs.length),partOk ps[i] qs[i] = true
 | [],[],_,i,hi,_=>absurd hi (by simp)
 | [],_ :: _,h,_,_,_=>by cases h
 | _ :: _,[],h,_,_,_=>by cases h
 | p :: ps,q :: qs,h,0,_,_=>by rw [partsOk,Bool.and_eq_true] at h;exact h.1
 | p :: ps,q :: qs,h,i + 1,hi,hj=>by
  rw [partsOk,Bool.and_eq_true] at h
  exact partsOk_at h.2 i (by simpa using hi) (by simpa using hj)
theorem pieces_small (l : List Int) : ∀ q ∈ pieces l,1 ≤ q.size ∧ q.size ≤ 6:=by
 intro q hq
 rcases pieces_form l q hq with ⟨_,h1,h2⟩|rfl
 ·have:=name_len _ _ h1
  omega
 ·exact ⟨Nat.le_refl _,by decide⟩
theorem streamOk_iff (l : List Int) (ps : List Pt) : streamOk l ps = true ↔ textOk l = true ∧ partsOk ps (pieces l) = true:=by simp [streamOk]
end Go.Proofs.YtkcjmmhleepjeaaDoor.Plain
namespace Go.Proofs.YtkcjmmhleepjeaaDoor.Pure
open Go.RowKit Go.Proofs.YtkcjmmhleepjeaaDoorW.PrintWords Go.Proofs.YtkcjmmhleepjeaaDoor.Plain Go.Proofs.YtkcjmmhleepjeaaDoor.A Go.Proofs.YtkcjmmhleepjeaaDoorW.PrintMore
set_option linter.unusedVariables false
set_option linter.unusedSimpArgs false
def ptOf (x : S41) : Pt:=⟨x.f0,bytesOf x.f1⟩
theorem rd_part (l : List S41) (i : Nat) (h : i < l.length) : rd_T41 l (i : Int) = l[i]:=by
 unfold rd_T41
 rw [List.getD_eq_getElem?_getD,show ((i : Int)).toNat = i from rfl,List.getElem?_eq_getElem h];rfl
theorem drop_map {α β : Type} (f : α → β) (l : List α) (i : Nat) (h : i < l.length) : (l.drop i).map f = f l[i] :: (l.drop (i + 1)).map f:=by
 rw [List.drop_eq_getElem_cons h];rfl
def Held (ps : List S41) : Prop:=∀ x ∈ ps,x.f1.size ≤ 140737488355328
theorem clos_eq (p : S41) (q : Pc) (hs : p.f1.size ≤ 140737488355328) : impl_StreamOk_1.f p.f0 p.f1 (encP q).f0 (encP q).f1 (encP q).f2.f0 (encP q).f2.f1 = some (partOk (ptOf p) q):=by
 have hl:=bytesOf_size p.f1
 have e : partOk (ptOf p) q = (decide (p.f0 = (q.size : Int)) && (decide (1 ≤ (bytesOf p.f1).length ∧ (bytesOf p.f1).length ≤ 6) && textOk (bytesOf p.f1))):=rfl
 have e0 : (encP q).f0 = (q.size : Int):=rfl
 unfold impl_StreamOk_1.f
 rw [e,e0]
 by_cases c : p.f0 = (q.size : Int)
 ·rw [if_pos c,decide_eq_true c,within_eq,Option.bind_some]
  by_cases c2 : 1 ≤ (bytesOf p.f1).length ∧ (bytesOf p.f1).length ≤ 6
  ·rw [decide_eq_true c2,decide_eq_true (show (1 : Int) ≤ (p.f1.size : Int) ∧ (p.f1.size : Int) ≤ 6 from by omega),if_pos rfl,iTextOk p.f1 hs];rfl
  ·rw [decide_eq_false c2,decide_eq_false (show ¬ ((1 : Int) ≤ (p.f1.size : Int) ∧ (p.f1.size : Int) ≤ 6) from by omega),if_neg (by decide)];rfl
 ·rw [if_neg c,decide_eq_false c];rfl
theorem eqF_loop (ps : List S41) (qs : List Pc) (hl : ps.length = qs.length) (hs : Held ps) (hb : ps.length ≤ 1000) : ∀ d i,i + d = ps.length →
  Ev (fun k=>slices_EqualFunc_Piece.l0 k (qs.map encP) ps (ps.length : Int) (i : Int)) (partsOk ((ps.drop i).map ptOf) (qs.drop i))
 | 0,i,h=>by
  rw [List.drop_eq_nil_of_le (by omega),List.drop_eq_nil_of_le (by omega)]
  refine Ev.step (f:=fun k=>_) (fun k=>by simp only [slices_EqualFunc_Piece.l0];rfl) ?_
  exact Ev.neg (by omega) (Ev.now _)
 | d + 1,i,h=>by
  have hi : i < ps.length:=by omega
  have hj : i < qs.length:=by omega
  have e1 : wrap64 ((i : Int) + 1) = ((i + 1 : Nat) : Int):=by rw [wrap_id (by omega) (by omega)];rfl
  have c:=clos_eq ps[i] qs[i] (hs _ (List.getElem_mem hi))
  have r1:=rd_part ps i hi
  have r2:=rd_enc qs i hj
  rw [← r1,← r2] at c
  rw [drop_map ptOf ps i hi,List.drop_eq_getElem_cons hj,partsOk]
  refine Ev.step (f:=fun k=>_) (fun k=>by simp only [slices_EqualFunc_Piece.l0,e1];rfl) ?_
  refine Ev.pos (by omega) ?_
  refine Ev.pos (by omega) ?_
  refine Ev.pos (by omega) ?_
  refine Ev.pos (by rw [List.length_map];omega) ?_
  refine Ev.call c ?_
  rw [r1]
  cases hx : partOk (ptOf ps[i]) qs[i] with
  | true=>exact Ev.pos rfl (eqF_loop ps qs hl hs hb d (i + 1) (by omega))
  | false=>exact Ev.neg (by decide) (Ev.now _)
theorem iStreamOk (s : ByteArray) (ps : List S41) (hs : s.size ≤ 140737488355328) (hp : Held ps) : Ev (fun k=>impl_StreamOk.f k s ps) (streamOk (bytesOf s) (ps.map ptOf)):=by
 unfold impl_StreamOk.f streamOk
 refine Ev.call (iTextOk s hs) ?_
 cases h : textOk (bytesOf s) with
 | false=>exact Ev.neg (by decide) (Ev.now _)
 | true =>
  have h40:=textOk_len h
  rw [bytesOf_length] at h40
  refine Ev.pos rfl ?_
  refine Ev.bind (iPieces s (by omega)) ?_
  have hl:=pieces_length (bytesOf s)
  rw [bytesOf_length] at hl
  refine Ev.bind ?_ (Ev.now _)
  unfold slices_EqualFunc_Piece.f
  by_cases c : ps.length = (pieces (bytesOf s)).length
  ·refine Ev.pos (by rw [List.length_map];omega) ?_
   exact eqF_loop ps (pieces (bytesOf s)) c hp (by omega) ps.length 0 (Nat.zero_add _)
  ·refine Ev.neg (by rw [List.length_map];omega) ?_
   have : partsOk (ps.map ptOf) (pieces (bytesOf s)) = false:=by
    cases hx : partsOk (ps.map ptOf) (pieces (bytesOf s)) with
    | false=>rfl
    | true=>exact absurd (by have:=partsOk_len hx;rwa [List.length_map] at this) c
   rw [this];exact Ev.now _
theorem sOk_loop (s : ByteArray) (ps : List S41) (qs : List Pc) (hl : ps.length = qs.length) (hs : Held ps) (hb : ps.length ≤ 1000) : ∀ d i,i + d = ps.length →
  Ev (fun k=>spec_StreamOk.l0 k (qs.map encP) (i : Int) s ps) (partsOk ((ps.drop i).map ptOf) (qs.drop i))
 | 0,i,h=>by
  rw [List.drop_eq_nil_of_le (by omega),List.drop_eq_nil_of_le (by omega)]
  refine Ev.step (f:=fun k=>_) (fun k=>by simp only [spec_StreamOk.l0];rfl) ?_
  exact Ev.neg (by rw [List.length_map];omega) (Ev.now _)
 | d + 1,i,h=>by
  have hi : i < ps.length:=by omega
  have hj : i < qs.length:=by omega
  have e1 : wrap64 ((i : Int) + 1) = ((i + 1 : Nat) : Int):=by rw [wrap_id (by omega) (by omega)];rfl
  have r1:=rd_part ps i hi
  have r2:=rd_enc qs i hj
  have hz:=hs _ (List.getElem_mem hi)
  have hb1:=bytesOf_size ps[i].f1
  have ih:=sOk_loop s ps qs hl hs hb d (i + 1) (by omega)
  have eq : partOk (ptOf ps[i]) qs[i] = (decide (ps[i].f0 = (qs[i].size : Int)) && (decide (1 ≤ (bytesOf ps[i].f1).length ∧ (bytesOf ps[i].f1).length ≤ 6) && textOk (bytesOf ps[i].f1))):=rfl
  rw [drop_map ptOf ps i hi,List.drop_eq_getElem_cons hj,partsOk,eq]
  refine Ev.step (f:=fun k=>_) (fun k=>by simp only [spec_StreamOk.l0,e1];rfl) ?_
  refine Ev.pos (by rw [List.length_map];omega) ?_
  refine Ev.pos (by omega) ?_
  refine Ev.pos (by omega) ?_
  rw [r1,r2]
  by_cases c : ps[i].f0 = (encP qs[i]).f0
  ·refine Ev.pos c ?_
   rw [decide_eq_true (show ps[i].f0 = (qs[i].size : Int) from c)]
   by_cases c6 : (ps[i].f1.size : Int) > 6
   ·rw [decide_eq_false (show ¬ (1 ≤ (bytesOf ps[i].f1).length ∧ (bytesOf ps[i].f1).length ≤ 6) from by omega)]
    exact Ev.pos c6 (Ev.now _)
   ·refine Ev.neg c6 ?_
    by_cases c1 : bytesOf ps[i].f1 = []
    ·rw [decide_eq_false (show ¬ (1 ≤ (bytesOf ps[i].f1).length ∧ (bytesOf ps[i].f1).length ≤ 6) from by rw [c1];simp)]
     exact Ev.pos ((toList_nil _).2 c1) (Ev.now _)
    ·refine Ev.neg (fun hc=>c1 ((toList_nil _).1 hc)) ?_
     have hp:=List.length_pos_iff.2 c1
     rw [decide_eq_true (show 1 ≤ (bytesOf ps[i].f1).length ∧ (bytesOf ps[i].f1).length ≤ 6 from by omega)]
     refine Ev.bind (sTextOk ps[i].f1 (by omega)) ?_
     cases hx : textOk (bytesOf ps[i].f1) with
     | true=>exact Ev.pos rfl ih
     | false=>exact Ev.neg (by decide) (Ev.now _)
  ·refine Ev.neg c ?_
   rw [decide_eq_false (show ¬ ps[i].f0 = (qs[i].size : Int) from c)]
   exact Ev.now _
theorem sStreamOk (s : ByteArray) (ps : List S41) (hs : s.size ≤ 140737488355328) (hp : Held ps) : Ev (fun k=>spec_StreamOk.f k s ps) (streamOk (bytesOf s) (ps.map ptOf)):=by
 unfold spec_StreamOk.f streamOk
 refine Ev.bind (sTextPieces s hs) ?_
 refine Ev.bind (sTextOk s (by omega)) ?_
 cases h : textOk (bytesOf s) with
 | false =>
  refine Ev.neg (by decide) ?_
  refine Ev.step (f:=fun k=>_) (fun k=>by simp only [spec_StreamOk.j0];rfl) ?_
  exact Ev.pos (by trivial) (Ev.now _)
 | true =>
  have h40:=textOk_len h
  rw [bytesOf_length] at h40
  have hl:=pieces_length (bytesOf s)
  rw [bytesOf_length] at hl
  refine Ev.pos rfl ?_
  refine Ev.step (f:=fun k=>_) (fun k=>by simp only [spec_StreamOk.j0];rfl) ?_
  have et : textPieces (bytesOf s) = pieces (bytesOf s):=by unfold textPieces;rw [if_pos h]
  rw [et,List.length_map]
  by_cases c : ps.length = (pieces (bytesOf s)).length
  ·refine Ev.neg (by rw [bne_iff_ne];omega) ?_
   exact sOk_loop s ps (pieces (bytesOf s)) c hp (by omega) ps.length 0 (Nat.zero_add _)
  ·refine Ev.pos (by rw [bne_iff_ne];omega) ?_
   have : partsOk (ps.map ptOf) (pieces (bytesOf s)) = false:=by
    cases hx : partsOk (ps.map ptOf) (pieces (bytesOf s)) with
    | false=>rfl
    | true=>exact absurd (by have:=partsOk_len hx;rwa [List.length_map] at this) c
   rw [this];exact Ev.now _
def Texts (ps : List S41) : Prop:=∀ x ∈ ps,x.f1.size ≤ 100
theorem texts_held {ps : List S41} (h : Texts ps) : Held ps:=by
 intro x hx
 have:=h x hx
 omega
abbrev Prs:=List S98
theorem l3Out_loop (m : Prs) (hm : m.length ≤ 20) (a q : Int) : ∀ d i,i + d = m.length → ∃ r port ok,Ev (fun k=>spec_l3Out.l0 k m (i : Int) a q) (r,port,ok) ∧ r.length ≤ 20 ∧ r.length ≤ m.length + 1
 | 0,i,h=>by
  by_cases c : (m.length : Int) > 7
  ·refine ⟨m,0,false,?_,hm,by omega⟩
   refine Ev.step (f:=fun k=>_) (fun k=>by simp only [spec_l3Out.l0];rfl) ?_
   exact Ev.neg (by omega) (Ev.pos c (Ev.now _))
  ·refine ⟨m ++ [(⟨wrap64 (10 + (m.length : Int)),(⟨a,q⟩ : S43)⟩ : S98)],wrap64 (10 + (m.length : Int)),true,?_,?_,?_⟩
   ·refine Ev.step (f:=fun k=>_) (fun k=>by simp only [spec_l3Out.l0];rfl) ?_
    exact Ev.neg (by omega) (Ev.neg c (Ev.pos (by omega) (Ev.now _)))
   ·rw [List.length_append,List.length_singleton];omega
   ·rw [List.length_append,List.length_singleton];exact Nat.le_refl _
 | d + 1,i,h=>by
  have e1 : wrap64 ((i : Int) + 1) = ((i + 1 : Nat) : Int):=by rw [wrap_id (by omega) (by omega)];rfl
  obtain ⟨r,port,ok,h1,h2,h3⟩:=l3Out_loop m hm a q d (i + 1) (by omega)
  cases c : ((rd_T98 m (i : Int)).f1.f0 == a && (rd_T98 m (i : Int)).f1.f1 == q) with
  | true =>
   refine ⟨m,(rd_T98 m (i : Int)).f0,true,?_,hm,by omega⟩
   refine Ev.step (f:=fun k=>_) (fun k=>by simp only [spec_l3Out.l0,e1];rfl) ?_
   refine Ev.pos (by omega) ?_
   refine Ev.pos (by omega) ?_
   exact Ev.pos c (Ev.now _)
  | false =>
   refine ⟨r,port,ok,?_,h2,h3⟩
   refine Ev.step (f:=fun k=>_) (fun k=>by simp only [spec_l3Out.l0,e1];rfl) ?_
   refine Ev.pos (by omega) ?_
   refine Ev.pos (by omega) ?_
   exact Ev.neg (by rw [c];decide) h1
theorem l3Out_ev (m : Prs) (hm : m.length ≤ 20) (a q : Int) : ∃ r port ok,Ev (fun k=>spec_l3Out.f k m a q) (r,port,ok) ∧ r.length ≤ 20 ∧ r.length ≤ m.length + 1:=l3Out_loop m hm a q m.length 0 (Nat.zero_add _)
theorem map_loop (b : List Int) (hb : Code b) (hl : b.length ≤ 1000000) : ∀ (n : Nat) (m : Prs) (p : Int),0 ≤ p → p + 2 * n ≤ 1099500000000 → m.length + n ≤ 12 →
  ∃ r p',Ev (fun k=>spec_l71Map.l0 k m (n : Int) b p) (r,p') ∧ r.length ≤ 20 ∧ p ≤ p' ∧ p' ≤ p + 2 * n + 6
 | 0,m,p,h0,hp,hm=>by
  obtain ⟨c,hc,c0,_⟩:=pick_ev b hb p 20 h0 (by omega) hl
  have st : ∀ (r : Prs) (p' : Int),Ev (fun k=>(spec_l6Rd_pick.f k b p 20).bind fun bt=>if bt.1 = 0 then ((spec_l6Rd_pick.f k b bt.2 9).bind fun bt313=>((spec_l71End.f k b bt313.2).bind fun bt315=>(if m.length < 5864062014805 then (some ((m ++ [(⟨wrap64 (10 + bt313.1),(⟨bt315.1,bt315.2.1⟩ : S43)⟩ : S98)]),bt315.2.2)) else (none)))) else (if bt.1 = 1 then (if (m.length : Int) > 0 then ((spec_l6Rd_pick.f k b bt.2 (m.length : Int)).bind fun bt321=>((spec_l71End.f k b bt321.2).bind fun bt323=>(if 0 ≤ bt321.1 then (if bt321.1 < (m.length : Int) then (some ((m.set (bt321.1 : Int).toNat (⟨(rd_T98 m bt321.1).f0,(⟨bt323.1,bt323.2.1⟩ : S43)⟩ : S98)),bt323.2.2)) else (none)) else (none)))) else (some (m,bt.2))) else (if bt.1 = 2 then (if (m.length : Int) > 0 then (if 1 ≤ (m.length : Int) then (some ((m.drop (1 : Int).toNat),bt.2)) else (none)) else (some (m,bt.2))) else (some (m,bt.2))))) (r,p') → Ev (fun k=>spec_l71Map.l0 k m ((0 : Nat) : Int) b p) (r,p'):=by
   intro r p' h
   refine Ev.step (f:=fun k=>_) (fun k=>by simp only [spec_l71Map.l0];rfl) ?_
   exact Ev.neg (by omega) h
  by_cases c1 : c = 0
  ·obtain ⟨x,hx,x0,_⟩:=pick_ev b hb (p + 1) 9 (by omega) (by omega) hl
   obtain ⟨a,q,p1,e1,h1,h2⟩:=end_ev b hb (p + 1 + 1) (by omega) (by omega) hl
   refine ⟨_,p1,st _ _ (Ev.bind hc (Ev.pos c1 (Ev.bind hx (Ev.bind e1 (Ev.pos (by omega) (Ev.now _)))))),?_,by omega,by omega⟩
   rw [List.length_append,List.length_singleton];omega
  ·by_cases c2 : c = 1
   ·by_cases c3 : (m.length : Int) > 0
    ·obtain ⟨x,hx,x0,x1,_⟩:=pick_ev b hb (p + 1) (m.length : Int) (by omega) (by omega) hl
     have x2:=x1 (by omega)
     obtain ⟨a,q,p1,e1,h1,h2⟩:=end_ev b hb (p + 1 + 1) (by omega) (by omega) hl
     refine ⟨_,p1,st _ _ (Ev.bind hc (Ev.neg c1 (Ev.pos c2 (Ev.pos c3 (Ev.bind hx (Ev.bind e1 (Ev.pos x0 (Ev.pos x2 (Ev.now _)))))))) ),?_,by omega,by omega⟩
     rw [List.length_set];omega
    ·exact ⟨m,p + 1,st _ _ (Ev.bind hc (Ev.neg c1 (Ev.pos c2 (Ev.neg c3 (Ev.now _))))),by omega,by omega,by omega⟩
   ·by_cases c4 : c = 2
    ·by_cases c3 : (m.length : Int) > 0
     ·refine ⟨_,p + 1,st _ _ (Ev.bind hc (Ev.neg c1 (Ev.neg c2 (Ev.pos c4 (Ev.pos c3 (Ev.pos (by omega) (Ev.now _))))))),?_,by omega,by omega⟩
      rw [List.length_drop];omega
     ·exact ⟨m,p + 1,st _ _ (Ev.bind hc (Ev.neg c1 (Ev.neg c2 (Ev.pos c4 (Ev.neg c3 (Ev.now _)))))),by omega,by omega,by omega⟩
    ·exact ⟨m,p + 1,st _ _ (Ev.bind hc (Ev.neg c1 (Ev.neg c2 (Ev.neg c4 (Ev.now _))))),by omega,by omega,by omega⟩
 | n + 1,m,p,h0,hp,hm=>by
  obtain ⟨x,hx,_⟩:=pick_ev b hb p 3 h0 (by omega) hl
  obtain ⟨y,hy,_⟩:=pick_ev b hb (p + 1) 9 (by omega) (by omega) hl
  obtain ⟨r,port,ok,h1,h2,h3⟩:=l3Out_ev m (by omega) (wrap64 (1 + x)) (wrap64 (1 + y))
  obtain ⟨r',p',h4,h5,h6,h7⟩:=map_loop b hb hl n r (p + 1 + 1) (by omega) (by omega) (by omega)
  have e1 : wrap64 (((n + 1 : Nat) : Int) - 1) = (n : Int):=by rw [wrap_id (by omega) (by omega)];omega
  refine ⟨r',p',?_,h5,by omega,by omega⟩
  refine Ev.step (f:=fun k=>_) (fun k=>by simp only [spec_l71Map.l0,e1];rfl) ?_
  refine Ev.pos (by omega) ?_
  refine Ev.bind hx ?_
  refine Ev.bind hy ?_
  refine Ev.bind h1 ?_
  exact h4
theorem map_ev (b : List Int) (hb : Code b) (p : Int) (h0 : 0 ≤ p) (hp : p ≤ 1099400000000) (hl : b.length ≤ 1000000) : ∃ m p',Ev (fun k=>spec_l71Map.f k b p) (m,p') ∧ m.length ≤ 20 ∧ p ≤ p' ∧ p' ≤ p + 30:=by
 obtain ⟨n,hn,n0,n1,_⟩:=pick_ev b hb p 10 h0 (by omega) hl
 have n2:=n1 (by omega)
 obtain ⟨n,rfl⟩:=Int.eq_ofNat_of_zero_le n0
 obtain ⟨m,p',h1,h2,h3,h4⟩:=map_loop b hb hl n [] (p + 1) (by omega) (by omega) (by simp;omega)
 exact ⟨m,p',Ev.bind hn h1,h2,by omega,by omega⟩
theorem mapOk_in (m : Prs) (hm : m.length ≤ 20) (i : Nat) (hi : i < m.length) (B : Bool) (K : ∃ r,Ev (fun k=>spec_MapOk.l0 k m ((i + 1 : Nat) : Int)) r) : ∀ d j,j + d = i → ∃ r,Ev (fun k=>spec_MapOk.l1 k m (i : Int) (j : Int)) r
 | 0,j,h=>by
  obtain ⟨r,hr⟩:=K
  have e1 : wrap64 ((i : Int) + 1) = ((i + 1 : Nat) : Int):=by rw [wrap_id (by omega) (by omega)];rfl
  refine ⟨r,?_⟩
  refine Ev.step (f:=fun k=>_) (fun k=>by simp only [spec_MapOk.l1,e1];rfl) ?_
  exact Ev.neg (by omega) hr
 | d + 1,j,h=>by
  have e1 : wrap64 ((j : Int) + 1) = ((j + 1 : Nat) : Int):=by rw [wrap_id (by omega) (by omega)];rfl
  obtain ⟨r,hr⟩:=mapOk_in m hm i hi B K d (j + 1) (by omega)
  cases c : ((rd_T98 m (j : Int)).f1.f0 == (rd_T98 m (i : Int)).f1.f0 && (rd_T98 m (j : Int)).f1.f1 == (rd_T98 m (i : Int)).f1.f1) with
  | true =>
   refine ⟨false,?_⟩
   refine Ev.step (f:=fun k=>_) (fun k=>by simp only [spec_MapOk.l1,e1];rfl) ?_
   exact Ev.pos (by omega) (Ev.pos (by omega) (Ev.pos (by omega) (Ev.pos (by omega) (Ev.pos (by omega) (Ev.pos c (Ev.now _))))))
  | false =>
   refine ⟨r,?_⟩
   refine Ev.step (f:=fun k=>_) (fun k=>by simp only [spec_MapOk.l1,e1];rfl) ?_
   exact Ev.pos (by omega) (Ev.pos (by omega) (Ev.pos (by omega) (Ev.pos (by omega) (Ev.pos (by omega) (Ev.neg (by rw [c];decide) hr)))))
theorem mapOk_loop (m : Prs) (hm : m.length ≤ 20) : ∀ d i,i + d = m.length → ∃ r,Ev (fun k=>spec_MapOk.l0 k m (i : Int)) r
 | 0,i,h=>by
  refine ⟨decide ((m.length : Int) ≤ 8),?_⟩
  refine Ev.step (f:=fun k=>_) (fun k=>by simp only [spec_MapOk.l0];rfl) ?_
  exact Ev.neg (by omega) (Ev.now _)
 | d + 1,i,h=>by
  have ih:=mapOk_loop m hm d (i + 1) (by omega)
  have j1 : ∀ x : Bool,∃ r,Ev (fun k=>spec_MapOk.j1 k m (i : Int) x) r:=by
   intro x
   cases x with
   | true =>
    refine ⟨false,?_⟩
    refine Ev.step (f:=fun k=>some false) (fun k=>by simp only [spec_MapOk.j1];rw [if_pos trivial]) ?_
    exact Ev.now _
   | false =>
    obtain ⟨r,hr⟩:=mapOk_in m hm i (by omega) true ih i 0 (Nat.zero_add _)
    refine ⟨r,?_⟩
    refine Ev.step (f:=fun k=>spec_MapOk.l1 k m (i : Int) 0) (fun k=>by simp only [spec_MapOk.j1];rw [if_neg (by decide)]) ?_
    exact hr
  by_cases c : (rd_T98 m (i : Int)).f0 = wrap64 (10 + (i : Int))
  ·obtain ⟨r,hr⟩:=j1 (!(inE (rd_T98 m (i : Int)).f1.f0 (rd_T98 m (i : Int)).f1.f1))
   refine ⟨r,?_⟩
   refine Ev.step (f:=fun k=>_) (fun k=>by simp only [spec_MapOk.l0];rfl) ?_
   exact Ev.pos (by omega) (Ev.pos (by omega) (Ev.pos c (Ev.call (sIn_eq _ _) hr)))
  ·obtain ⟨r,hr⟩:=j1 true
   refine ⟨r,?_⟩
   refine Ev.step (f:=fun k=>_) (fun k=>by simp only [spec_MapOk.l0];rfl) ?_
   exact Ev.pos (by omega) (Ev.pos (by omega) (Ev.neg c hr))
theorem mapOk_ev (m : Prs) (hm : m.length ≤ 20) : ∃ r,Ev (fun k=>spec_MapOk.f k m) r:=mapOk_loop m hm m.length 0 (Nat.zero_add _)
theorem named_size (t : ByteArray) (a q : Int) (h : bytesOf t = endText a q) : t.size ≤ 4:=by
 rw [← bytesOf_size,h];exact endText_len a q
theorem size_one (x y : UInt8) (t : ByteArray) : (((⟨#[x]⟩ : ByteArray) ++ t) ++ (⟨#[y]⟩ : ByteArray)).size = t.size + 2:=by
 rw [ByteArray.size_append,ByteArray.size_append]
 show 1 + t.size + 1 = _
 omega
theorem pieceOut_ev (m : Prs) (hm : m.length ≤ 20) (z : Int) (nm : Bool) (a q : Int) (s : ByteArray) (hs : s.size ≤ 100) : ∃ r t,Ev (fun k=>spec_l3PieceOut.f k m z nm a q s) (r,t) ∧ r.length ≤ 20 ∧ t.size ≤ 100:=by
 have j0 : ∀ x : Bool,∃ r t,Ev (fun k=>spec_l3PieceOut.j0 k m s x z nm a q) (r,t) ∧ r.length ≤ 20 ∧ t.size ≤ 100:=by
  intro x
  cases x with
  | true =>
   refine ⟨m,s,?_,hm,hs⟩
   refine Ev.step (f:=fun k=>some (m,s)) (fun k=>by simp only [spec_l3PieceOut.j0];rw [if_pos trivial]) ?_
   exact Ev.now _
  | false =>
   obtain ⟨r,port,ok,h1,h2,h3⟩:=l3Out_ev m hm a q
   cases ok with
   | false =>
    refine ⟨r,s,?_,h2,hs⟩
    refine Ev.step (f:=fun k=>_) (fun k=>by simp only [spec_l3PieceOut.j0];rfl) ?_
    refine Ev.neg (by decide) ?_
    refine Ev.bind h1 ?_
    exact Ev.neg (show ¬ (false = true) by decide) (Ev.now _)
   | true =>
    obtain ⟨t,ht,et⟩:=sEndText 9 port
    have h4:=named_size t 9 port et
    refine ⟨r,((⟨#[64]⟩ : ByteArray) ++ t) ++ (⟨#[59]⟩ : ByteArray),?_,h2,by rw [size_one];omega⟩
    refine Ev.step (f:=fun k=>_) (fun k=>by simp only [spec_l3PieceOut.j0];rfl) ?_
    refine Ev.neg (by decide) ?_
    refine Ev.bind h1 ?_
    refine Ev.pos rfl ?_
    refine Ev.bind ht ?_
    exact Ev.pos (by omega) (Ev.pos (by omega) (Ev.now _))
 unfold spec_l3PieceOut.f
 cases nm with
 | true =>
  obtain ⟨r,t,h1,h2,h3⟩:=j0 (!(inE a q))
  exact ⟨r,t,Ev.pos rfl (Ev.call (sIn_eq a q) h1),h2,h3⟩
 | false =>
  obtain ⟨r,t,h1,h2,h3⟩:=j0 true
  exact ⟨r,t,Ev.neg (by decide) h1,h2,h3⟩
theorem l3In_ev (m : Prs) (hm : m.length ≤ 20) (port : Int) : ∃ a q ok,spec_l3In.f m port = some (a,q,ok):=by
 unfold spec_l3In.f
 rw [l6In_eq,Option.bind_some]
 have e : wrap64 ((m.length : Int) - 1) = (m.length : Int) - 1:=wrap_id (by omega) (by omega)
 rw [e]
 by_cases c : 0 ≤ wrap64 (port - 10) ∧ wrap64 (port - 10) ≤ (m.length : Int) - 1
 ·rw [decide_eq_true c,if_pos rfl,if_pos c.1,if_pos (by omega)]
  exact ⟨_,_,_,rfl⟩
 ·rw [decide_eq_false c,if_neg (by decide)]
  exact ⟨_,_,_,rfl⟩
theorem pieceIn_ev (m : Prs) (hm : m.length ≤ 20) (z : Int) (nm : Bool) (a q : Int) (s : ByteArray) (hs : s.size ≤ 100) : ∃ t,Ev (fun k=>spec_l3PieceIn.f k m z nm a q s) t ∧ t.size ≤ 100:=by
 have j0 : ∀ x : Bool,∃ t,Ev (fun k=>spec_l3PieceIn.j0 k m s x z nm a q) t ∧ t.size ≤ 100:=by
  intro x
  cases x with
  | true =>
   refine ⟨s,?_,hs⟩
   refine Ev.step (f:=fun k=>some s) (fun k=>by simp only [spec_l3PieceIn.j0];rw [if_pos trivial]) ?_
   exact Ev.now _
  | false =>
   obtain ⟨c,e,ok,h1⟩:=l3In_ev m hm q
   cases ok with
   | false =>
    refine ⟨s,?_,hs⟩
    refine Ev.step (f:=fun k=>_) (fun k=>by simp only [spec_l3PieceIn.j0];rfl) ?_
    refine Ev.neg (by decide) ?_
    refine Ev.call h1 ?_
    exact Ev.neg (by simp) (Ev.now _)
   | true =>
    obtain ⟨t,ht,et⟩:=sEndText c e
    have h4:=named_size t c e et
    refine ⟨((⟨#[64]⟩ : ByteArray) ++ t) ++ (⟨#[59]⟩ : ByteArray),?_,by rw [size_one];omega⟩
    refine Ev.step (f:=fun k=>_) (fun k=>by simp only [spec_l3PieceIn.j0];rfl) ?_
    refine Ev.neg (by decide) ?_
    refine Ev.call h1 ?_
    refine Ev.pos rfl ?_
    refine Ev.bind ht ?_
    exact Ev.pos (by omega) (Ev.pos (by omega) (Ev.now _))
 unfold spec_l3PieceIn.f
 cases nm with
 | true =>
  obtain ⟨t,h1,h2⟩:=j0 (!(doorE a q))
  exact ⟨t,Ev.pos rfl (Ev.call (sDoor_eq a q) h1),h2⟩
 | false =>
  obtain ⟨t,h1,h2⟩:=j0 true
  exact ⟨t,Ev.neg (by decide) h1,h2⟩
def sizesOf (ps : List S41) : Int:=(ps.map (·.f0)).sum
theorem sum_drop (ps : List S41) (i : Nat) (h : i < ps.length) : sizesOf (ps.drop i) = ps[i].f0 + sizesOf (ps.drop (i + 1)):=by
 unfold sizesOf
 rw [List.drop_eq_getElem_cons h,List.map_cons,List.sum_cons]
theorem done_loop (s : ByteArray) (ps : List S41) (hb : ps.length ≤ 1000) (hp : ∀ x ∈ ps,0 ≤ x.f0 ∧ x.f0 ≤ 100) : ∀ d i,i + d = ps.length → ∀ acc : Int,0 ≤ acc → acc + 100 * d ≤ 1000000 →
  Ev (fun k=>spec_l11Done.l0 k acc (i : Int) s ps) (acc + sizesOf (ps.drop i))
 | 0,i,h,acc,h0,h1=>by
  rw [List.drop_eq_nil_of_le (by omega)]
  show Ev _ (acc + 0)
  rw [Int.add_zero]
  refine Ev.step (f:=fun k=>_) (fun k=>by simp only [spec_l11Done.l0];rfl) ?_
  exact Ev.neg (by omega) (Ev.now _)
 | d + 1,i,h,acc,h0,h1=>by
  have hi : i < ps.length:=by omega
  have hq:=hp _ (List.getElem_mem hi)
  have r1:=rd_part ps i hi
  have e1 : wrap64 ((i : Int) + 1) = ((i + 1 : Nat) : Int):=by rw [wrap_id (by omega) (by omega)];rfl
  have e2 : wrap64 (acc + ps[i].f0) = acc + ps[i].f0:=wrap_id (by omega) (by omega)
  have:=done_loop s ps hb hp d (i + 1) (by omega) (acc + ps[i].f0) (by omega) (by omega)
  rw [Int.add_assoc,← sum_drop ps i hi] at this
  refine Ev.step (f:=fun k=>_) (fun k=>by simp only [spec_l11Done.l0,e1,r1,e2];rfl) ?_
  refine Ev.pos (by omega) ?_
  refine Ev.pos (by omega) ?_
  exact this
def Fits (ps : List S41) (qs : List Pc) : Prop:=ps.map (·.f0) = qs.map (fun q=>(q.size : Int))
theorem sizes_cast (qs : List Pc) : (qs.map (fun q=>(q.size : Int))).sum = (sizes qs : Int):=by
 unfold sizes
 induction qs with
 | nil=>rfl
 | cons q qs ih=>rw [List.map_cons,List.sum_cons,ih,List.map_cons,List.sum_cons];simp
theorem fits_sizes {ps : List S41} {qs : List Pc} (h : Fits ps qs) : sizesOf ps = (sizes qs : Int):=by
 unfold sizesOf;rw [show ps.map (·.f0) = _ from h,sizes_cast]
theorem fits_len {ps : List S41} {qs : List Pc} (h : Fits ps qs) : ps.length = qs.length:=by
 have:=congrArg List.length (show ps.map (·.f0) = qs.map (fun q=>(q.size : Int)) from h)
 rwa [List.length_map,List.length_map] at this
theorem sizes_take (qs : List Pc) (i : Nat) (h : i < qs.length) : sizes (qs.take (i + 1)) = sizes (qs.take i) + qs[i].size:=by
 unfold sizes
 rw [List.take_succ_eq_append_getElem h,List.map_append,List.sum_append]
 simp
theorem sizes_take_le (qs : List Pc) (i : Nat) : sizes (qs.take i) ≤ sizes qs:=by
 unfold sizes
 conv=>rhs;rw [← List.take_append_drop i qs,List.map_append,List.sum_append]
 omega
theorem put_loop (out : Bool) (inn : ByteArray) (hin : inn.size ≤ 100) (qs : List Pc) (hq : sizes qs ≤ inn.size) (hl : qs.length ≤ 100) : ∀ d i,i + d = qs.length → ∀ (m : Prs) (ps : List S41),m.length ≤ 20 → Fits ps (qs.take i) → Texts ps →
  ∃ m' ps',Ev (fun k=>spec_l11Put.l0 k m out inn (sizes (qs.take i) : Int) (qs.map encP) (i : Int) inn ps) (m',inn,ps',true) ∧ m'.length ≤ 20 ∧ Fits ps' qs ∧ Texts ps'
 | 0,i,h,m,ps,hm,hf,ht=>by
  rw [List.take_of_length_le (by omega)] at hf ⊢
  refine ⟨m,ps,?_,hm,hf,ht⟩
  refine Ev.step (f:=fun k=>_) (fun k=>by simp only [spec_l11Put.l0];rfl) ?_
  exact Ev.neg (by rw [List.length_map];omega) (Ev.now _)
 | d + 1,i,h,m,ps,hm,hf,ht=>by
  have hi : i < qs.length:=by omega
  have r2:=rd_enc qs i hi
  have hps:=fits_len hf
  rw [List.length_take] at hps
  have e1 : wrap64 ((i : Int) + 1) = ((i + 1 : Nat) : Int):=by rw [wrap_id (by omega) (by omega)];rfl
  have hs1:=sizes_take qs i hi
  have hs2:=sizes_take_le qs (i + 1)
  have ef : (encP qs[i]).f0 = (qs[i].size : Int):=rfl
  have e2 : wrap64 ((sizes (qs.take i) : Int) + (qs[i].size : Int)) = (sizes (qs.take (i + 1)) : Int):=by
   rw [wrap_id (by omega) (by omega),hs1];omega
  have hs3 : sizes (qs.take i) ≤ sizes (qs.take (i + 1)):=by omega
  have hs4 : sizes (qs.take (i + 1)) ≤ inn.size:=Nat.le_trans hs2 hq
  have hs5 : ps.length < 5864062014805:=by omega
  have hs6 : (i : Int) < ((qs.map encP).length : Int):=by rw [List.length_map];omega
  have hx : (inn.extract ((sizes (qs.take i) : Int)).toNat ((sizes (qs.take (i + 1)) : Int)).toNat).size ≤ 100:=by
   rw [ByteArray.size_extract];exact Nat.le_trans (Nat.sub_le _ _) (Nat.le_trans (Nat.min_le_right _ _) hin)
  have next : ∀ t : ByteArray,t.size ≤ 100 → Fits (ps ++ [(⟨(qs[i].size : Int),t⟩ : S41)]) (qs.take (i + 1)) ∧ Texts (ps ++ [(⟨(qs[i].size : Int),t⟩ : S41)]):=by
   intro t hz
   refine ⟨?_,fun x hx=>?_⟩
   ·unfold Fits at hf ⊢
    rw [List.map_append,hf,List.take_succ_eq_append_getElem hi,List.map_append];rfl
   ·rcases List.mem_append.1 hx with hx|hx
    ·exact ht x hx
    ·rw [List.mem_singleton.1 hx];exact hz
  cases out with
  | true =>
   obtain ⟨m1,t,h1,h2,h3⟩:=pieceOut_ev m hm (qs[i].size : Int) (encP qs[i]).f1 (encP qs[i]).f2.f0 (encP qs[i]).f2.f1 _ hx
   obtain ⟨m',ps',h4,h5,h6,h7⟩:=put_loop true inn hin qs hq hl d (i + 1) (by omega) m1 _ h2 (next t h3).1 (next t h3).2
   refine ⟨m',ps',?_,h5,h6,h7⟩
   refine Ev.step (f:=fun k=>_) (fun k=>by simp only [spec_l11Put.l0,e1,r2];rfl) ?_
   rw [ef,e2]
   refine Ev.pos hs6 ?_
   refine Ev.pos (Int.natCast_nonneg _) ?_
   refine Ev.pos (Int.natCast_nonneg _) ?_
   refine Ev.pos (Int.ofNat_le.2 hs3) ?_
   refine Ev.pos (Int.ofNat_le.2 hs4) ?_
   refine Ev.pos trivial ?_
   refine Ev.bind h1 ?_
   refine Ev.pos hs5 ?_
   exact h4
  | false =>
   obtain ⟨t,h1,h3⟩:=pieceIn_ev m hm (qs[i].size : Int) (encP qs[i]).f1 (encP qs[i]).f2.f0 (encP qs[i]).f2.f1 _ hx
   obtain ⟨m',ps',h4,h5,h6,h7⟩:=put_loop false inn hin qs hq hl d (i + 1) (by omega) m _ hm (next t h3).1 (next t h3).2
   refine ⟨m',ps',?_,h5,h6,h7⟩
   refine Ev.step (f:=fun k=>_) (fun k=>by simp only [spec_l11Put.l0,e1,r2];rfl) ?_
   rw [ef,e2]
   refine Ev.pos hs6 ?_
   refine Ev.pos (Int.natCast_nonneg _) ?_
   refine Ev.pos (Int.natCast_nonneg _) ?_
   refine Ev.pos (Int.ofNat_le.2 hs3) ?_
   refine Ev.pos (Int.ofNat_le.2 hs4) ?_
   refine Ev.neg (by decide) ?_
   refine Ev.bind h1 ?_
   refine Ev.pos hs5 ?_
   exact h4
theorem fits_small {ps : List S41} {l : List Int} (h : Fits ps (pieces l)) : ∀ x ∈ ps,0 ≤ x.f0 ∧ x.f0 ≤ 100:=by
 intro x hx
 have hm : x.f0 ∈ (pieces l).map (fun q=>(q.size : Int)):=by
  rw [← show ps.map (·.f0) = _ from h];exact List.mem_map.2 ⟨x,hx,rfl⟩
 obtain ⟨q,hq,e⟩:=List.mem_map.1 hm
 have:=pieces_small l q hq
 rw [← e];omega
theorem put_ev (m : Prs) (hm : m.length ≤ 20) (s : ByteArray) (ps : List S41) (hs : s.size ≤ 40) (hf : Fits ps (pieces (bytesOf s))) (ht : Texts ps) (x : ByteArray) (hx1 : 1 ≤ x.size) (hx : s.size + x.size ≤ 40) (out : Bool) :
  ∃ m' s' ps',Ev (fun k=>spec_l11Put.f k m s ps (s.size : Int) x out) (m',s',ps',true) ∧ m'.length ≤ 20 ∧ s'.size = s.size + x.size ∧ Fits ps' (pieces (bytesOf s')) ∧ Texts ps':=by
 have hlen:=bytesOf_length s
 have hn:=pieces_length (bytesOf s)
 have hps:=fits_len hf
 have e1 : wrap64 ((s.size : Int) + (x.size : Int)) = (s.size : Int) + (x.size : Int):=wrap_id (by omega) (by omega)
 have e2 : wrap64 ((s.size : Int) - (s.size : Int)) = 0:=by rw [wrap_id (by omega) (by omega)];omega
 have e3 : x.extract ((0 : Int)).toNat x.size = x:=by
  apply bytesOf_inj
  rw [bytesOf_to_end];rfl
 obtain ⟨w,hw⟩:=pieces_prefix (bytesOf s) (bytesOf x)
 have hin : (s ++ x).size = s.size + x.size:=ByteArray.size_append ..
 have hb : bytesOf (s ++ x) = bytesOf s ++ bytesOf x:=bytesOf_append s x
 have htk : (pieces (bytesOf (s ++ x))).take ps.length = pieces (bytesOf s):=by rw [hb,hw,hps];exact List.take_left
 have hsz : sizes (pieces (bytesOf (s ++ x))) ≤ (s ++ x).size:=by
  rw [pieces_sizes,← bytesOf_length (s ++ x)];exact Nat.sub_le _ _
 have hle:=pieces_length (bytesOf (s ++ x))
 rw [bytesOf_length] at hle
 have hpl : ps.length ≤ (pieces (bytesOf (s ++ x))).length:=by rw [hb,hw,List.length_append,hps];omega
 obtain ⟨m',ps',h1,h2,h3,h4⟩:=put_loop out (s ++ x) (by omega) (pieces (bytesOf (s ++ x))) hsz (by omega) ((pieces (bytesOf (s ++ x))).length - ps.length) ps.length (by omega) m ps hm (by rw [htk];exact hf) ht
 have hd:=done_loop s ps (by omega) (fits_small hf) ps.length 0 (Nat.zero_add _) 0 (by omega) (by omega)
 rw [List.drop_zero,fits_sizes hf,Int.zero_add,← htk] at hd
 refine ⟨m',s ++ x,ps',?_,h2,hin,h3,h4⟩
 unfold spec_l11Put.f
 refine Ev.neg (by omega) ?_
 rw [e1,decide_eq_false (by omega)]
 refine Ev.step (f:=fun k=>_) (fun k=>by simp only [spec_l11Put.j0,e1,e2];rfl) ?_
 refine Ev.neg (by decide) ?_
 refine Ev.neg (by omega) ?_
 refine Ev.pos (by omega) ?_
 refine Ev.pos (by omega) ?_
 refine Ev.pos (by show s.size + (x.size - 0) ≤ 9223372036854775807;omega) ?_
 refine Ev.bind hd ?_
 rw [e3]
 refine Ev.bind (sPieces (s ++ x) (by omega)) ?_
 refine Ev.call rfl ?_
 refine Ev.pos (by show 0 + ps.length < 5864062014805;omega) ?_
 exact h1
theorem stream_end (b : List Int) (hb : Code b) (hl : b.length ≤ 1000000) (m : Prs) (out : Bool) (text : ByteArray) (p : Int) (h0 : 0 ≤ p) (hp : p ≤ 1099400000000) (s : ByteArray) (ps : List S41) (hs : ¬ (s.size : Int) < (text.size : Int)) (h30 : s.size ≤ 40) (hn : ps.length ≤ 40) (ht : Texts ps) :
  ∃ s' ps' p',Ev (fun k=>spec_l71Stream.l0 k m out text b p s ps) (m,s',ps',p') ∧ s'.size ≤ 50 ∧ ps'.length ≤ 40 ∧ Texts ps' ∧ p ≤ p' ∧ p' ≤ p + 2:=by
 obtain ⟨c,hc,c0,_⟩:=pick_ev b hb p 20 h0 (by omega) hl
 by_cases c1 : c = 0
 ·obtain ⟨x,hm,hx⟩:=of_ev b hb (p + 1) (by omega) (by omega) hl [(⟨#[120]⟩ : ByteArray),(⟨#[32]⟩ : ByteArray),(⟨#[64]⟩ : ByteArray)] (by decide)
  have hz : x.size ≤ 1:=by
   simp only [List.mem_cons,List.not_mem_nil,or_false] at hm
   rcases hm with rfl|rfl|rfl <;> decide
  refine ⟨s ++ x,ps,p + 1 + 1,?_,by rw [ByteArray.size_append];omega,hn,ht,by omega,by omega⟩
  refine Ev.step (f:=fun k=>_) (fun k=>by simp only [spec_l71Stream.l0];rfl) ?_
  refine Ev.neg hs ?_
  refine Ev.bind hc ?_
  refine Ev.pos c1 ?_
  refine Ev.bind hx ?_
  exact Ev.pos (by show s.size + x.size ≤ 9223372036854775807;omega) (Ev.now _)
 ·by_cases c2 : c = 1
  ·by_cases c3 : (ps.length : Int) > 0
   ·obtain ⟨x,hm,hx⟩:=of_ev b hb (p + 1) (by omega) (by omega) hl [(⟨#[]⟩ : ByteArray),(⟨#[97,97,97,97,97,97,97,97]⟩ : ByteArray),(⟨#[64,49,58,49,59]⟩ : ByteArray),(⟨#[65]⟩ : ByteArray)] (by decide)
    have hz : x.size ≤ 100:=by
     simp only [List.mem_cons,List.not_mem_nil,or_false] at hm
     rcases hm with rfl|rfl|rfl|rfl <;> decide
    refine ⟨s,ps.set (0 : Int).toNat ⟨(rd_T41 ps 0).f0,x⟩,p + 1 + 1,?_,by omega,by rw [List.length_set];exact hn,?_,by omega,by omega⟩
    ·refine Ev.step (f:=fun k=>_) (fun k=>by simp only [spec_l71Stream.l0];rfl) ?_
     refine Ev.neg hs ?_
     refine Ev.bind hc ?_
     refine Ev.neg c1 ?_
     refine Ev.pos c2 ?_
     refine Ev.pos c3 ?_
     refine Ev.bind hx ?_
     exact Ev.pos (by omega) (Ev.now _)
    ·intro y hy
     rcases List.mem_or_eq_of_mem_set hy with hy|rfl
     ·exact ht y hy
     ·exact hz
   ·refine ⟨s,ps,p + 1,?_,by omega,hn,ht,by omega,by omega⟩
    refine Ev.step (f:=fun k=>_) (fun k=>by simp only [spec_l71Stream.l0];rfl) ?_
    refine Ev.neg hs ?_
    refine Ev.bind hc ?_
    exact Ev.neg c1 (Ev.pos c2 (Ev.neg c3 (Ev.now _)))
  ·refine ⟨s,ps,p + 1,?_,by omega,hn,ht,by omega,by omega⟩
   refine Ev.step (f:=fun k=>_) (fun k=>by simp only [spec_l71Stream.l0];rfl) ?_
   refine Ev.neg hs ?_
   refine Ev.bind hc ?_
   exact Ev.neg c1 (Ev.neg c2 (Ev.now _))
theorem stream_loop (b : List Int) (hb : Code b) (hl : b.length ≤ 1000000) (out : Bool) : ∀ (d : Nat) (m : Prs) (text : ByteArray) (p : Int) (s : ByteArray) (ps : List S41),text.size - s.size ≤ d → text.size ≤ 30 → s.size ≤ 30 → m.length ≤ 20 → Fits ps (pieces (bytesOf s)) → Texts ps → 0 ≤ p → p + 2 * d ≤ 1099300000000 →
  ∃ m' s' ps' p',Ev (fun k=>spec_l71Stream.l0 k m out text b p s ps) (m',s',ps',p') ∧ s'.size ≤ 50 ∧ ps'.length ≤ 40 ∧ Texts ps' ∧ p ≤ p' ∧ p' ≤ p + 2 * d + 2
 | d,m,text,p,s,ps,hd,ht30,hs30,hm,hf,ht,h0,hp=>by
  have hlen:=bytesOf_length s
  have hn:=pieces_length (bytesOf s)
  have hps:=fits_len hf
  by_cases c : (s.size : Int) < (text.size : Int)
  ·obtain ⟨r,hr,r0,r1,_⟩:=pick_ev b hb p 8 h0 (by omega) hl
   have r2:=r1 (by omega)
   have e1 : wrap64 (1 + r) = 1 + r:=wrap_id (by omega) (by omega)
   have e2 : wrap64 ((s.size : Int) + (1 + r)) = (s.size : Int) + (1 + r):=wrap_id (by omega) (by omega)
   obtain ⟨n,hn1,hn2,hn3⟩ : ∃ n : Nat,mn ((s.size : Int) + (1 + r)) (text.size : Int) = (n : Int) ∧ s.size < n ∧ n ≤ text.size:=by
    refine ⟨(mn ((s.size : Int) + (1 + r)) (text.size : Int)).toNat,?_,?_,?_⟩ <;> (unfold mn;split <;> omega)
   obtain ⟨q,hq,q0,_⟩:=pick_ev b hb (p + 1) 6 (by omega) (by omega) hl
   have hx : (text.extract ((s.size : Int)).toNat ((n : Int)).toNat).size = n - s.size:=by rw [ByteArray.size_extract];omega
   obtain ⟨m1,s1,ps1,h1,h2,h3,h4,h5⟩:=put_ev m hm s ps (by omega) hf ht (text.extract ((s.size : Int)).toNat ((n : Int)).toNat) (by omega) (by omega) out
   by_cases q1 : q = 0
   ·obtain ⟨m',s',ps',p',g1,g2,g3,g4,g5,g6⟩:=stream_loop b hb hl out (d - 1) m1 (text.extract 0 ((s1.size : Int)).toNat) (p + 1 + 1) s1 ps1 (by rw [ByteArray.size_extract];omega) (by rw [ByteArray.size_extract];omega) (by omega) h2 h4 h5 (by omega) (by omega)
    refine ⟨m',s',ps',p',?_,g2,g3,g4,by omega,by omega⟩
    refine Ev.step (f:=fun k=>_) (fun k=>by simp only [spec_l71Stream.l0];rfl) ?_
    refine Ev.pos c ?_
    refine Ev.bind hr ?_
    simp only [e1,e2,hn1]
    refine Ev.pos (by omega) ?_
    refine Ev.pos (by omega) ?_
    refine Ev.pos (by omega) ?_
    refine Ev.bind h1 ?_
    refine Ev.bind hq ?_
    refine Ev.pos q1 ?_
    refine Ev.pos (Int.natCast_nonneg _) ?_
    refine Ev.pos (by show (s1.size : Int) ≤ (text.size : Int);omega) ?_
    exact g1
   ·obtain ⟨m',s',ps',p',g1,g2,g3,g4,g5,g6⟩:=stream_loop b hb hl out (d - 1) m1 text (p + 1 + 1) s1 ps1 (by omega) ht30 (by omega) h2 h4 h5 (by omega) (by omega)
    refine ⟨m',s',ps',p',?_,g2,g3,g4,by omega,by omega⟩
    refine Ev.step (f:=fun k=>_) (fun k=>by simp only [spec_l71Stream.l0];rfl) ?_
    refine Ev.pos c ?_
    refine Ev.bind hr ?_
    simp only [e1,e2,hn1]
    refine Ev.pos (by omega) ?_
    refine Ev.pos (by omega) ?_
    refine Ev.pos (by omega) ?_
    refine Ev.bind h1 ?_
    refine Ev.bind hq ?_
    exact Ev.neg q1 g1
  ·obtain ⟨s',ps',p',g1,g2,g3,g4,g5,g6⟩:=stream_end b hb hl m out text p h0 (by omega) s ps c (by omega) (by omega) ht
   exact ⟨m,s',ps',p',g1,g2,g3,g4,g5,by omega⟩
termination_by d=>d
decreasing_by all_goals omega
theorem stream_ev (b : List Int) (hb : Code b) (p : Int) (h0 : 0 ≤ p) (hp : p ≤ 1099200000000) (hl : b.length ≤ 1000000) :
  ∃ m s ps p',Ev (fun k=>spec_l71Stream.f k b p) (m,s,ps,p') ∧ s.size ≤ 50 ∧ ps.length ≤ 40 ∧ Texts ps ∧ p ≤ p' ∧ p' ≤ p + 200:=by
 obtain ⟨m,p1,h1,h2,h3,h4⟩:=map_ev b hb p h0 (by omega) hl
 obtain ⟨ok,hok⟩:=mapOk_ev m h2
 have j0 : ∀ m : Prs,m.length ≤ 20 → ∃ m' s ps p',Ev (fun k=>spec_l71Stream.j0 k m b p1) (m',s,ps,p') ∧ s.size ≤ 50 ∧ ps.length ≤ 40 ∧ Texts ps ∧ p1 ≤ p' ∧ p' ≤ p1 + 100:=by
  intro m hm
  obtain ⟨o,ho,_⟩:=pick_ev b hb p1 2 (by omega) (by omega) hl
  obtain ⟨t,p2,e2,t1,t2,t3⟩:=text_ev b hb (p1 + 1) (by omega) (by omega) hl 30 (by omega) (by omega)
  obtain ⟨m',s,ps,p',g1,g2,g3,g4,g5,g6⟩:=stream_loop b hb hl (o == 0) 30 m t p2 (⟨#[]⟩ : ByteArray) [] (by omega) (by omega) (Nat.zero_le _) hm rfl (fun x hx=>by cases hx) (by omega) (by omega)
  refine ⟨m',s,ps,p',?_,g2,g3,g4,by omega,by omega⟩
  refine Ev.step (f:=fun k=>_) (fun k=>by simp only [spec_l71Stream.j0];rfl) ?_
  exact Ev.bind ho (Ev.bind e2 g1)
 cases ok with
 | true =>
  obtain ⟨m',s,ps,p',g1,g2,g3,g4,g5,g6⟩:=j0 m h2
  exact ⟨m',s,ps,p',Ev.bind h1 (Ev.bind hok (Ev.pos rfl g1)),g2,g3,g4,by omega,by omega⟩
 | false =>
  obtain ⟨m',s,ps,p',g1,g2,g3,g4,g5,g6⟩:=j0 [] (by simp)
  exact ⟨m',s,ps,p',Ev.bind h1 (Ev.bind hok (Ev.neg (by decide) g1)),g2,g3,g4,by omega,by omega⟩
theorem drawStreamOk_ev (l : List Int) (hc : Code l) : ∃ s ps,Ev (fun r=>spec_DrawStreamOk.f r l) (s,ps) ∧ s.size ≤ 50 ∧ ps.length ≤ 40 ∧ Texts ps:=by
 obtain ⟨b,eb,hb,hl⟩:=open_eq l hc
 obtain ⟨m,s,ps,p',h1,h2,h3,h4,_⟩:=stream_ev b hb 0 (by omega) (by omega) (by omega)
 refine ⟨s,ps,?_,h2,h3,h4⟩
 unfold spec_DrawStreamOk.f
 exact Ev.call eb (Ev.bind h1 (Ev.now _))
theorem texts_take {ps : List S41} (h : Texts ps) (k : Nat) : Texts (ps.take k):=fun x hx=>h x (List.mem_of_mem_take hx)
theorem FnStreamOk : laws_FnStreamOk.Pure:=by
 intro l hl hb hw
 apply Ev.rounds
 unfold laws_FnStreamOk.f
 refine Ev.ite (fun _=>Ev.now _) (fun hsmall=>?_)
 obtain ⟨s,ps,e,hs,hn,ht⟩:=drawStreamOk_ev l (code_of hw)
 have hh:=texts_held ht
 have e1:=iStreamOk s ps (by omega) hh
 have e2:=sStreamOk s ps (by omega) hh
 refine Ev.bind e ?_
 refine Ev.bind e1 ?_
 refine Ev.bind e2 ?_
 refine Ev.neg (by simp) ?_
 refine Ev.step (f:=fun r=>_) (fun r=>by simp only [laws_FnStreamOk.j0];rfl) ?_
 cases ho : streamOk (bytesOf s) (ps.map ptOf) with
 | false =>
  rw [ho] at e2
  refine Ev.pos rfl ?_
  refine Ev.bind e2 ?_
  exact Ev.now _
 | true =>
  obtain ⟨h1,h2⟩:=(streamOk_iff _ _).1 ho
  have et : textPieces (bytesOf s) = pieces (bytesOf s):=by unfold textPieces;rw [if_pos h1]
  have hlen : ps.length = (pieces (bytesOf s)).length:=by have:=partsOk_len h2;rwa [List.length_map] at this
  have e3:=iTextPieces s (by omega)
  rw [et] at e3
  refine Ev.neg (by decide) ?_
  refine Ev.bind e3 ?_
  generalize hq : pieces (bytesOf s) = qs at h2 hlen
  have hml : (qs.map encP).length = qs.length:=List.length_map ..
  have loop : ∀ d i,i + d = ps.length → Ev (fun k=>laws_FnStreamOk.l0 k (qs.map encP) ((qs.map encP).length : Int) (i : Int) s ps) true:=by
   intro d
   induction d with
   | zero =>
    intro i h
    refine Ev.step (f:=fun k=>_) (fun k=>by simp only [laws_FnStreamOk.l0];rfl) ?_
    refine Ev.neg (by omega) ?_
    refine Ev.pos (by omega) ?_
    refine Ev.ite (fun _=>Ev.now _) (fun hz=>?_)
    have ew : wrap64 (((qs.map encP).length : Int) - 1) = ((qs.length - 1 : Nat) : Int):=by rw [wrap_id (by omega) (by omega)];omega
    rw [ew]
    refine Ev.pos (by omega) ?_
    refine Ev.pos (by omega) ?_
    have e4:=iStreamOk s (ps.take (qs.length - 1)) (by omega) (texts_held (texts_take ht _))
    have hno : streamOk (bytesOf s) ((ps.take (qs.length - 1)).map ptOf) = false:=by
     cases hx : streamOk (bytesOf s) ((ps.take (qs.length - 1)).map ptOf) with
     | false=>rfl
     | true =>
      have:=partsOk_len ((streamOk_iff _ _).1 hx).2
      rw [List.length_map,List.length_take,hq] at this
      omega
    rw [hno] at e4
    refine Ev.bind e4 ?_
    exact Ev.now _
   | succ d ih =>
    intro i h
    have hi : i < ps.length:=by omega
    have hj : i < qs.length:=by omega
    have e1 : wrap64 ((i : Int) + 1) = ((i + 1 : Nat) : Int):=by rw [wrap_id (by omega) (by omega)];rfl
    have r1:=rd_part ps i hi
    have r2:=rd_enc qs i hj
    have hp:=partsOk_at h2 i (by rw [List.length_map];exact hi) hj
    rw [List.getElem_map,partOk_iff] at hp
    refine Ev.step (f:=fun k=>_) (fun k=>by simp only [laws_FnStreamOk.l0,e1,r1,r2];rfl) ?_
    refine Ev.pos (by omega) ?_
    refine Ev.pos (by omega) ?_
    refine Ev.pos (by omega) ?_
    refine Ev.pos (by omega) ?_
    refine Ev.pos hp.1 ?_
    refine Ev.neg (fun hc=>?_) (ih (i + 1) (by omega))
    have h0 : (ptOf ps[i]).text = []:=(toList_nil _).1 hc
    have:=hp.2.1.1
    rw [h0] at this
    simp at this
  exact loop ps.length 0 (Nat.zero_add _)
end Go.Proofs.YtkcjmmhleepjeaaDoor.Pure
