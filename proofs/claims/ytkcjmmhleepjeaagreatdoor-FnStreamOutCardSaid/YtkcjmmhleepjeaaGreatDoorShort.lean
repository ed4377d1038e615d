/- A region's pure steps, with standard proofs of what stands beside them. -/
import Derived.Test.YtkcjmmhleepjeaaGreatDoorV
namespace Go.Proofs.YtkcjmmhleepjeaaGreatDoorW.PrintLast
open Go Go.Proofs.YtkcjmmhleepjeaaGreatDoorW.PrintWords
section
variable {P : Program} {ops : Array Oper} {Q : Exit → Act → World → Prop} {md : Region.Mode} {S : World → Prop} {ds : List Nat} {oi : Oper} {v : Value} {fuel : Nat} {l : Array Bool} {a a' : Act} {w : World} {T : Bool × List (List Nat × List Nat)} {B : List Nat}
theorem pureAL (i : Nat) (N : Option Tmp) (l' : Array Bool) (hT : rtab md ops = T) (h : wpAnyLast P md ops Q S ds fuel l' a' w)
    (hi : ops[i]? = some oi := by rfl) (hN : oi.dst = N := by rfl) (hc : anyT T l.toList l'.toList i = true := by kernel_rfl) (hQ : ∀ c a w, Q (.panic c) (a.put oi.dst v) w → Q (.panic c) a w := by exact fun _ _ _ h => h)
    (hw : Region.wanted oi (yielded ops a.tmps) = true := by rfl) (hy : ∀ w', (execOp a.eval oi).run P w' = .ok (.value v) w' := by intro w'; go_simp; with_reducible rfl) (ha : a.put N v = a' := by simp only [Act.put, s1_, s2_, s3_, i64_w, i32_w]; rfl) :
    wpAnyLast P md ops Q S ds (fuel + 1) l a w :=
  pure_ l' hi hN (any_of hT hc) hQ (Or.inl ⟨hw, hy⟩) ha h
theorem pureA (i : Nat) (N : Option Tmp) (hT : rtab md ops = T) (h : wpAnyLast P md ops Q S ds fuel (l.setIfInBounds i true) a' w)
    (hi : ops[i]? = some oi := by rfl) (hN : oi.dst = N := by rfl) (hc : anyT T l.toList (l.setIfInBounds i true).toList i = true := by kernel_rfl) (hQ : ∀ c a w, Q (.panic c) (a.put oi.dst v) w → Q (.panic c) a w := by exact fun _ _ _ h => h)
    (hw : Region.wanted oi (yielded ops a.tmps) = true := by rfl) (hy : ∀ w', (execOp a.eval oi).run P w' = .ok (.value v) w' := by intro w'; go_simp; with_reducible rfl) (ha : a.put N v = a' := by simp only [Act.put, s1_, s2_, s3_, i64_w, i32_w]; rfl) :
    wpAnyLast P md ops Q S ds (fuel + 1) l a w :=
  pure_ (l.setIfInBounds i true) hi hN (any_of hT hc) hQ (Or.inl ⟨hw, hy⟩) ha h
theorem pureKL (i : Nat) (N : Option Tmp) (l' : Array Bool) (h : wpAnyLast P md ops Q S ds fuel l' a' w)
    (hi : ops[i]? = some oi := by rfl) (hN : oi.dst = N := by rfl) (hc : anyB md ops l l' i = true := by kernel_rfl) (hQ : ∀ c a w, Q (.panic c) (a.put oi.dst v) w → Q (.panic c) a w := by exact fun _ _ _ h => h)
    (hw : Region.wanted oi (yielded ops a.tmps) = true := by rfl) (hy : ∀ w', (execOp a.eval oi).run P w' = .ok (.value v) w' := by intro w'; go_simp; with_reducible rfl) (ha : a.put N v = a' := by simp only [Act.put, s1_, s2_, s3_, i64_w, i32_w]; rfl) :
    wpAnyLast P md ops Q S ds (fuel + 1) l a w :=
  pure_ l' hi hN hc hQ (Or.inl ⟨hw, hy⟩) ha h
theorem pureK (i : Nat) (N : Option Tmp) (h : wpAnyLast P md ops Q S ds fuel (l.setIfInBounds i true) a' w)
    (hi : ops[i]? = some oi := by rfl) (hN : oi.dst = N := by rfl) (hc : anyB md ops l (l.setIfInBounds i true) i = true := by kernel_rfl) (hQ : ∀ c a w, Q (.panic c) (a.put oi.dst v) w → Q (.panic c) a w := by exact fun _ _ _ h => h)
    (hw : Region.wanted oi (yielded ops a.tmps) = true := by rfl) (hy : ∀ w', (execOp a.eval oi).run P w' = .ok (.value v) w' := by intro w'; go_simp; with_reducible rfl) (ha : a.put N v = a' := by simp only [Act.put, s1_, s2_, s3_, i64_w, i32_w]; rfl) :
    wpAnyLast P md ops Q S ds (fuel + 1) l a w :=
  pure_ (l.setIfInBounds i true) hi hN hc hQ (Or.inl ⟨hw, hy⟩) ha h
theorem pureU (i : Nat) (N : Option Tmp) (hT : rtab md ops = T) (h : wpAnyLast P md ops Q S ds fuel (l.setIfInBounds i true) a' w)
    (hi : ops[i]? = some oi := by rfl) (hN : oi.dst = N := by rfl) (hc : anyT T l.toList (l.setIfInBounds i true).toList i = true := by kernel_rfl) (hQ : ∀ c a w, Q (.panic c) (a.put oi.dst undef) w → Q (.panic c) a w := by exact fun _ _ _ h => h)
    (hw : Region.wanted oi (yielded ops a.tmps) = false := by rfl) (ha : a.put N undef = a' := by simp only [Act.put, s1_, s2_, s3_, i64_w, i32_w]; rfl) :
    wpAnyLast P md ops Q S ds (fuel + 1) l a w :=
  pure_ (l.setIfInBounds i true) hi hN (any_of hT hc) hQ (Or.inr ⟨hw, rfl⟩) ha h
theorem pureV (i : Nat) (N : Option Tmp) (h : wpAnyLast P md ops Q S ds fuel (l.setIfInBounds i true) a' w)
    (hi : ops[i]? = some oi := by rfl) (hN : oi.dst = N := by rfl) (hc : anyB md ops l (l.setIfInBounds i true) i = true := by kernel_rfl) (hQ : ∀ c a w, Q (.panic c) (a.put oi.dst undef) w → Q (.panic c) a w := by exact fun _ _ _ h => h)
    (hw : Region.wanted oi (yielded ops a.tmps) = false := by rfl) (ha : a.put N undef = a' := by simp only [Act.put, s1_, s2_, s3_, i64_w, i32_w]; rfl) :
    wpAnyLast P md ops Q S ds (fuel + 1) l a w :=
  pure_ (l.setIfInBounds i true) hi hN hc hQ (Or.inr ⟨hw, rfl⟩) ha h
theorem takeA (i : Nat) (N : Option Tmp) (hi : ops[i]? = some oi) (hN : oi.dst = N) (hT : rtab md ops = T) (hB : waitsOk T.2 B = true) (hS : S w) (h : wpAnyLast P md ops Q S ds fuel (l.setIfInBounds i true) a' w) (hy : ∀ w', S w' → (execOp a.eval oi).run P w' = .ok (.value v) w')
     (hc : takeW T B ds l.toList (l.setIfInBounds i true).toList i = true := by kernel_rfl) (hQ : ∀ c a w, Q (.panic c) (a.put oi.dst v) w → Q (.panic c) a w := by exact fun _ _ _ h => h)
    (hw : Region.wanted oi (yielded ops a.tmps) = true := by rfl) (ha : a.put N v = a' := by simp only [Act.put, s1_, s2_, s3_, i64_w, i32_w]; rfl) :
    wpAnyLast P md ops Q S ds (fuel + 1) l a w :=
  take_ (l.setIfInBounds i true) hi hN (take_ofW hT hB hc) hQ (Or.inl ⟨hw, hy⟩) hS ha h
theorem asm {p : Prop} (h : p := by first | (with_reducible assumption) | assumption) : p := h
theorem eqs {p : Prop} (h : p := by first | rfl | (simp [e1_,e2_] <;> rfl) | (simp [*,e1_,e2_] <;> rfl) | (simp [e1_,e2_,pk_empty1,pk_empty2]; done) | (simp [*,e1_,e2_,pk_empty1,pk_empty2]; done)) : p := h
theorem lens {p : Prop} (h : p := by (try simp only [List.map_toArray,List.map_cons,List.map_nil]); first | done | rfl | (simp only [List.length_drop,List.length_take]; rfl)) : p := h
theorem puQ {p q : Prop} (x : q) (h : q → p := by intro hq_; (with_reducible repeat (first | apply Kd.Q_alloc | apply Kd.Q_drewN | apply Kd.Q_drew)); exact hq_) : p := h x
theorem puR {p q : Prop} (x : q) (h : q → p := by intro hq_; (with_reducible repeat (first | apply Kd.R_alloc | apply Kd.R_drewN | apply Kd.R_drew)); exact hq_) : p := h x
theorem puB {p q : Prop} (x : q) (h : q → p := by intro hq_; (with_reducible repeat first | apply b1_ | apply b2_ | apply b3_); exact hq_) : p := h x
theorem puL {p q : Prop} (x : q) (h : q → p := by intro hq_; repeat (first | (with_reducible first | exact hq_ | apply l1_ | apply l2_ | apply l3_) | exact hq_)) : p := h x
theorem puM {p q r : Prop} (x : q) (y : r) (h : q → r → p := by intro hq_ hr_; repeat (first | (with_reducible first | exact hq_ | apply l1_ | apply l2_ | apply l3_ | refine l4_ ?_ hr_) | exact hq_)) : p := h x y
theorem puN {p q r s : Prop} (x : q) (y : r) (z : s) (h : q → r → s → p := by intro hq_ hr_ hs_; repeat (first | (with_reducible first | exact hq_ | apply l1_ | apply l2_ | apply l3_ | refine l4_ ?_ hr_ | refine l4_ ?_ hs_) | exact hq_)) : p := h x y z
theorem puK {p q : Prop} (x : q) (h : q → p := by intro hq_; repeat (first | (with_reducible first | exact hq_ | apply KeepBut.set_ | apply keep_drewN | apply keep_drew | apply keep_alloc) | exact hq_)) : p := h x
theorem drn {p : Prop} (h : p := by repeat (first | exact Drawn0.refl _ | apply Drawn0.step)) : p := h
theorem leo1 {p q0 : Prop} (x0 : q0) (h : q0 → p := by intro h0_; repeat' first | (with_reducible first | apply h0_ | exact LeO.refl _ | exact LeO.none _ | refine LeO.ite ?_ ?_ | refine LeO.bind ?_ (fun _ => ?_)) | apply h0_ | exact LeO.none _ | refine LeO.ite ?_ ?_ | refine LeO.bind ?_ (fun _ => ?_)) : p := h x0
theorem leo2 {p q0 q1 : Prop} (x0 : q0) (x1 : q1) (h : q0 → q1 → p := by intro h0_ h1_; repeat' first | (with_reducible first | apply h0_ | apply h1_ | exact LeO.refl _ | exact LeO.none _ | refine LeO.ite ?_ ?_ | refine LeO.bind ?_ (fun _ => ?_)) | apply h0_ | apply h1_ | exact LeO.none _ | refine LeO.ite ?_ ?_ | refine LeO.bind ?_ (fun _ => ?_)) : p := h x0 x1
theorem leo3 {p q0 q1 q2 : Prop} (x0 : q0) (x1 : q1) (x2 : q2) (h : q0 → q1 → q2 → p := by intro h0_ h1_ h2_; repeat' first | (with_reducible first | apply h0_ | apply h1_ | apply h2_ | exact LeO.refl _ | exact LeO.none _ | refine LeO.ite ?_ ?_ | refine LeO.bind ?_ (fun _ => ?_)) | apply h0_ | apply h1_ | apply h2_ | exact LeO.none _ | refine LeO.ite ?_ ?_ | refine LeO.bind ?_ (fun _ => ?_)) : p := h x0 x1 x2
theorem leo4 {p q0 q1 q2 q3 : Prop} (x0 : q0) (x1 : q1) (x2 : q2) (x3 : q3) (h : q0 → q1 → q2 → q3 → p := by intro h0_ h1_ h2_ h3_; repeat' first | (with_reducible first | apply h0_ | apply h1_ | apply h2_ | apply h3_ | exact LeO.refl _ | exact LeO.none _ | refine LeO.ite ?_ ?_ | refine LeO.bind ?_ (fun _ => ?_)) | apply h0_ | apply h1_ | apply h2_ | apply h3_ | exact LeO.none _ | refine LeO.ite ?_ ?_ | refine LeO.bind ?_ (fun _ => ?_)) : p := h x0 x1 x2 x3
theorem leo5 {p q0 q1 q2 q3 q4 : Prop} (x0 : q0) (x1 : q1) (x2 : q2) (x3 : q3) (x4 : q4) (h : q0 → q1 → q2 → q3 → q4 → p := by intro h0_ h1_ h2_ h3_ h4_; repeat' first | (with_reducible first | apply h0_ | apply h1_ | apply h2_ | apply h3_ | apply h4_ | exact LeO.refl _ | exact LeO.none _ | refine LeO.ite ?_ ?_ | refine LeO.bind ?_ (fun _ => ?_)) | apply h0_ | apply h1_ | apply h2_ | apply h3_ | apply h4_ | exact LeO.none _ | refine LeO.ite ?_ ?_ | refine LeO.bind ?_ (fun _ => ?_)) : p := h x0 x1 x2 x3 x4
theorem leo6 {p q0 q1 q2 q3 q4 q5 : Prop} (x0 : q0) (x1 : q1) (x2 : q2) (x3 : q3) (x4 : q4) (x5 : q5) (h : q0 → q1 → q2 → q3 → q4 → q5 → p := by intro h0_ h1_ h2_ h3_ h4_ h5_; repeat' first | (with_reducible first | apply h0_ | apply h1_ | apply h2_ | apply h3_ | apply h4_ | apply h5_ | exact LeO.refl _ | exact LeO.none _ | refine LeO.ite ?_ ?_ | refine LeO.bind ?_ (fun _ => ?_)) | apply h0_ | apply h1_ | apply h2_ | apply h3_ | apply h4_ | apply h5_ | exact LeO.none _ | refine LeO.ite ?_ ?_ | refine LeO.bind ?_ (fun _ => ?_)) : p := h x0 x1 x2 x3 x4 x5
theorem leo7 {p q0 q1 q2 q3 q4 q5 q6 : Prop} (x0 : q0) (x1 : q1) (x2 : q2) (x3 : q3) (x4 : q4) (x5 : q5) (x6 : q6) (h : q0 → q1 → q2 → q3 → q4 → q5 → q6 → p := by intro h0_ h1_ h2_ h3_ h4_ h5_ h6_; repeat' first | (with_reducible first | apply h0_ | apply h1_ | apply h2_ | apply h3_ | apply h4_ | apply h5_ | apply h6_ | exact LeO.refl _ | exact LeO.none _ | refine LeO.ite ?_ ?_ | refine LeO.bind ?_ (fun _ => ?_)) | apply h0_ | apply h1_ | apply h2_ | apply h3_ | apply h4_ | apply h5_ | apply h6_ | exact LeO.none _ | refine LeO.ite ?_ ?_ | refine LeO.bind ?_ (fun _ => ?_)) : p := h x0 x1 x2 x3 x4 x5 x6
theorem leo8 {p q0 q1 q2 q3 q4 q5 q6 q7 : Prop} (x0 : q0) (x1 : q1) (x2 : q2) (x3 : q3) (x4 : q4) (x5 : q5) (x6 : q6) (x7 : q7) (h : q0 → q1 → q2 → q3 → q4 → q5 → q6 → q7 → p := by intro h0_ h1_ h2_ h3_ h4_ h5_ h6_ h7_; repeat' first | (with_reducible first | apply h0_ | apply h1_ | apply h2_ | apply h3_ | apply h4_ | apply h5_ | apply h6_ | apply h7_ | exact LeO.refl _ | exact LeO.none _ | refine LeO.ite ?_ ?_ | refine LeO.bind ?_ (fun _ => ?_)) | apply h0_ | apply h1_ | apply h2_ | apply h3_ | apply h4_ | apply h5_ | apply h6_ | apply h7_ | exact LeO.none _ | refine LeO.ite ?_ ?_ | refine LeO.bind ?_ (fun _ => ?_)) : p := h x0 x1 x2 x3 x4 x5 x6 x7
theorem leo9 {p q0 q1 q2 q3 q4 q5 q6 q7 q8 : Prop} (x0 : q0) (x1 : q1) (x2 : q2) (x3 : q3) (x4 : q4) (x5 : q5) (x6 : q6) (x7 : q7) (x8 : q8) (h : q0 → q1 → q2 → q3 → q4 → q5 → q6 → q7 → q8 → p := by intro h0_ h1_ h2_ h3_ h4_ h5_ h6_ h7_ h8_; repeat' first | (with_reducible first | apply h0_ | apply h1_ | apply h2_ | apply h3_ | apply h4_ | apply h5_ | apply h6_ | apply h7_ | apply h8_ | exact LeO.refl _ | exact LeO.none _ | refine LeO.ite ?_ ?_ | refine LeO.bind ?_ (fun _ => ?_)) | apply h0_ | apply h1_ | apply h2_ | apply h3_ | apply h4_ | apply h5_ | apply h6_ | apply h7_ | apply h8_ | exact LeO.none _ | refine LeO.ite ?_ ?_ | refine LeO.bind ?_ (fun _ => ?_)) : p := h x0 x1 x2 x3 x4 x5 x6 x7 x8
theorem ifp {c : Prop} [Decidable c] {α : Type} {a b x : α} (H : (if c then a else b) = x) (h : c) : a = x := (if_pos h).symm.trans H
theorem ifn {c : Prop} [Decidable c] {α : Type} {a b x : α} (H : (if c then a else b) = x) (h : ¬ c := by decide) : b = x := (if_neg h).symm.trans H
theorem puO {p q r s u : Prop} (x : q) (y : r) (z : s) (v : u) (h : q → r → s → u → p := by intro hq_ hr_ hs_ hu_; repeat (first | (with_reducible first | exact hq_ | apply l1_ | apply l2_ | apply l3_ | refine l4_ ?_ hr_ | refine l4_ ?_ hs_ | refine l4_ ?_ hu_) | exact hq_)) : p := h x y z v
theorem puC {p q : Prop} (x : q) (h : q → p := by intro hq_; repeat (first | exact hq_ | (with_reducible refine Kd.C_alloc ?_ _) | (with_reducible refine Kd.C_drewN ?_ _) | (with_reducible refine Kd.C_drew ?_))) : p := h x
theorem puV {p q r : Prop} (x : q) (y : r) (h : q → r → p := by intro hq_ hr_; repeat (first | (with_reducible first | exact hq_ | apply KeepBut.set_ | apply keep_drewN | apply keep_drew | apply keep_alloc | refine keep_far ?_ hr_ _) | exact hq_)) : p := h x y
theorem puW {p q r s : Prop} (x : q) (y : r) (z : s) (h : q → r → s → p := by intro hq_ hr_ hs_; repeat (first | (with_reducible first | exact hq_ | apply KeepBut.set_ | apply keep_drewN | apply keep_drew | apply keep_alloc | refine keep_far ?_ hr_ _ | refine keep_far ?_ hs_ _) | exact hq_)) : p := h x y z
end
end Go.Proofs.YtkcjmmhleepjeaaGreatDoorW.PrintLast
