-- Printed by myprint.py (wip/tools) out of the translation. Not trusted: Lean checks it.
import Derived.Test.YtejpgpjjocbbjaaDoorAx0
import Derived.Test.YtejpgpjjocbbjaaDoorAx3
namespace Go.Proofs.YtejpgpjjocbbjaaDoor.A
open Go.RowKit Go.Proofs.YtejpgpjjocbbjaaDoorW.PrintWords Go.Proofs.YtejpgpjjocbbjaaDoorW.PrintLast Go.Proofs.YtejpgpjjocbbjaaDoorW.PrintMore
attribute [local go_sem] max2_int min2_int max_two min_two max_three min_three max_four min_four   -- for this text's walks alone
set_option linter.unusedVariables false
set_option linter.unusedSimpArgs false

/-! ### impl_EndText: function 17 -/
def impl_EndText.f (a0_0 : Int) (a0_1 : Int) : Option (ByteArray) := (impl_End_any.f a0_0 a0_1).bind fun t225 => (if t225 = true then ((strconv_Itoa.f a0_0).bind fun t226 => (if t226.size + 1 ≤ 9223372036854775807 then ((strconv_Itoa.f a0_1).bind fun t227 => (if t226.size + 1 + t227.size ≤ 9223372036854775807 then (some ((t226 ++ (⟨#[58]⟩ : ByteArray)) ++ t227)) else (none))) else (none))) else (some (⟨#[]⟩ : ByteArray)))
def impl_EndText.T3 : Bool × List (List Nat × List Nat) := (true, [([], []), ([0], [0]), ([1], [1]), ([2], [2]), ([], []), ([4], [4]), ([5, 2], [5]), ([3, 6], [3, 6]), ([7, 6, 0, 1, 2, 3, 4, 5, 6, 7], [7])])
def impl_EndText.B3 : List Nat := [0, 1, 3, 7, 0, 16, 55, 127, 255]
theorem impl_EndText.tab3 : rtab .any (opsOf Tryd.f17 3) = impl_EndText.T3 := by kernel_rfl
theorem impl_EndText.bits3 : waitsOk impl_EndText.T3.2 impl_EndText.B3 = true := by kernel_rfl
set_option maxHeartbeats 8000000 in
set_option maxRecDepth 100000 in
theorem impl_EndText.calls (a0_0 : Int) (a0_1 : Int) (r : ByteArray) (w : World) (h : impl_EndText.f a0_0 a0_1 = some r) :
  Calls Tryd.prog 17 #[.agg #[.int .i64 a0_0,.int .i64 a0_1]] w fun e w'=>e = .returned (.string r) ∧ Below w.heap.size w w':=by
 have hu24:=Tryd.underlying24
 have HB:=m_ (Below.refl w.heap.size w)
 have H : ((impl_End_any.f a0_0 a0_1).bind fun t225=>(if t225 = true then ((strconv_Itoa.f a0_0).bind fun t226=>(if t226.size + 1 ≤ 9223372036854775807 then ((strconv_Itoa.f a0_1).bind fun t227=>(if t226.size + 1 + t227.size ≤ 9223372036854775807 then (some ((t226 ++ (⟨#[58]⟩ : ByteArray)) ++ t227)) else (none))) else (none))) else (some (⟨#[]⟩ : ByteArray)))) = some r:=h
 clear h
 replace H:=Option.bind_eq_some_iff.mp H
 obtain ⟨t225,A20,H⟩:=H
 replace H : (if t225 = true then ((strconv_Itoa.f a0_0).bind fun t226=>(if t226.size + 1 ≤ 9223372036854775807 then ((strconv_Itoa.f a0_1).bind fun t227=>(if t226.size + 1 + t227.size ≤ 9223372036854775807 then (some ((t226 ++ (⟨#[58]⟩ : ByteArray)) ++ t227)) else (none))) else (none))) else (some (⟨#[]⟩ : ByteArray))) = some r:=H
 have A2:=m_ A20
 clear A20
 by_cases c3 : t225 = true
 ·subst c3
  have H1 : ((strconv_Itoa.f a0_0).bind fun t226=>(if t226.size + 1 ≤ 9223372036854775807 then ((strconv_Itoa.f a0_1).bind fun t227=>(if t226.size + 1 + t227.size ≤ 9223372036854775807 then (some ((t226 ++ (⟨#[58]⟩ : ByteArray)) ++ t227)) else (none))) else (none))) = some r:=by rw [if_pos rfl] at H;exact H
  clear H
  have H:=H1
  clear H1
  replace H:=Option.bind_eq_some_iff.mp H
  obtain ⟨t226,A40,H⟩:=H
  replace H : (if t226.size + 1 ≤ 9223372036854775807 then ((strconv_Itoa.f a0_1).bind fun t227=>(if t226.size + 1 + t227.size ≤ 9223372036854775807 then (some ((t226 ++ (⟨#[58]⟩ : ByteArray)) ++ t227)) else (none))) else (none)) = some r:=H
  have A4:=m_ A40
  clear A40
  by_cases c5 : t226.size + 1 ≤ 9223372036854775807
  ·rw [if_pos c5] at H
   have c5b0:=eq_true c5
   have c5b1 : decide (t226.size + 1 ≤ 9223372036854775807) = true:=decide_eq_true c5
   try have c5b2 : (9223372036854775807 < t226.size + 1) = False:=eq_false (Nat.not_lt.2 c5)
   replace H:=Option.bind_eq_some_iff.mp H
   obtain ⟨t227,A60,H⟩:=H
   replace H : (if t226.size + 1 + t227.size ≤ 9223372036854775807 then (some ((t226 ++ (⟨#[58]⟩ : ByteArray)) ++ t227)) else (none)) = some r:=H
   have A6:=m_ A60
   clear A60
   by_cases c7 : t226.size + 1 + t227.size ≤ 9223372036854775807
   ·rw [if_pos c7] at H
    have c7b0:=eq_true c7
    have c7b1 : decide (t226.size + 1 + t227.size ≤ 9223372036854775807) = true:=decide_eq_true c7
    try have c7b2 : (9223372036854775807 < t226.size + 1 + t227.size) = False:=eq_false (Nat.not_lt.2 c7)
    obtain rfl:=Option.some.inj H
    go_enter Tryd.func17,Tryd.ntmps17
    try go_wp2_with (first|((with_reducible refine gate_dst (N:=1) rfl ?_);refine box_event ?hg (N:=1) ?hd (cs:=#[.int .i64 a0_0,.int .i64 a0_1]) (t:=24) ?hr ?_;(case hd=>rfl);(case hg=>rfl);(case hr=>first|(go_simp;done)|(go_simp;rfl));intro gb224 hg w8 hbox hb;have n0_:=m_ (l5_ (by repeat (first|(with_reducible first|exact HB.out|apply l1_|apply l2_|apply l3_)|exact HB.out)) hb);have n1_:=m_ (hbox);have n2_:=m_ ((by rw [hg];exact (l6_ (by repeat (first|(with_reducible first|exact HB.out|apply l1_|apply l2_|apply l3_)|exact HB.out))) : w.heap.size ≤ gb224));have n3_:=m_ ((by rw [hg];exact (l6_ (by repeat (first|(with_reducible first|exact HB.out|apply l1_|apply l2_|apply l3_)|exact HB.out))) : w.heap.size ≤ gb224));clear HB;have HB:=n0_;have BK224:=n1_;have GW224:=n2_;have GE224:=n3_;clear n0_ n1_ n2_ n3_;clear hb hbox hg;have hcz9_0 : w8.cell? ⟨gb224,0,none⟩ = some (.int .i64 a0_0):=(c_ BK224.out 0).trans rfl;have hcz9_1 : w8.cell? ⟨gb224,1,none⟩ = some (.int .i64 a0_1):=(c_ BK224.out 1).trans rfl)|((with_reducible refine gate_callee (f:=28) rfl ?_);refine goesL_ (some 4) rfl rfl Tryd.func28 (by kernel_rfl) rfl #[.agg #[.int .i64 a0_0,.int .i64 a0_1]] rfl (by (try simp only [List.map_toArray,List.map_cons,List.map_nil]);first|done|rfl|(simp only [List.length_drop,List.length_take];rfl)) ?_;(with_reducible refine (impl_End_any.calls a0_0 a0_1 true _ A2.out).mono ?_);rintro e w10 ⟨rfl,hb⟩;refine ⟨_,rfl,?_⟩;have n0_:=m_ (blk_below (g:=gb224) (o:=.cells #[.int .i64 a0_0,.int .i64 a0_1] 24 (0,0)) (by (with_reducible repeat first|apply b1_|apply b2_|apply b3_);exact BK224.out) hb);have n1_:=m_ (l5_ (by repeat (first|(with_reducible first|exact HB.out|apply l1_|apply l2_|apply l3_|refine l4_ ?_ GE224.out)|exact HB.out)) hb);clear BK224;clear HB;have BK224:=n0_;have HB:=n1_;clear n0_ n1_;(try clear hb);(try clear hb2);(try clear hk);(try clear hi)))
    have n0_:=m_ (b2_ BK224.out)
    have n1_:=m_ (l3_ HB.out)
    clear BK224
    clear HB
    have BK224:=n0_
    have HB:=n1_
    clear n0_ n1_
    refine start_ (n:=9) (S:=fun w'=>w'.cell? ⟨gb224,0,none⟩ = some (.int .i64 a0_0) ∧ w'.cell? ⟨gb224,1,none⟩ = some (.int .i64 a0_1)) (ds:=[]) #[false,false,false,false,false,false,false,false,false] (by kernel_rfl) rfl rfl ⟨(c_ BK224.out 0).trans rfl,(c_ BK224.out 1).trans rfl⟩ (fun hHeld=>?_);refine with_tabW impl_EndText.tab3 impl_EndText.bits3 (fun HT_ HW_=>?_)
    generalize w10.drew = w11 at BK224 HB hHeld ⊢
    refine pure_ (i:=0) (N:=some 6) (v:=?_) (a':=?_) #[true,false,false,false,false,false,false,false,false] rfl rfl (any_of HT_.out (by kernel_rfl)) (fun _ _ _ h=>h) (Or.inl ⟨by rfl,?_⟩) ?_ ?_
    rotate_left
    ·intro w'
     go_simp
     with_reducible rfl
    rotate_left
    ·simp only [Act.put,s1_,s2_,s3_,i64_w,i32_w]
     rfl
    refine pure_ (i:=4) (N:=some 10) (v:=?_) (a':=?_) #[true,false,false,false,true,false,false,false,false] rfl rfl (any_of HT_.out (by kernel_rfl)) (fun _ _ _ h=>h) (Or.inl ⟨by rfl,?_⟩) ?_ ?_
    rotate_left
    ·intro w'
     go_simp
     with_reducible rfl
    rotate_left
    ·simp only [Act.put,s1_,s2_,s3_,i64_w,i32_w]
     rfl
    refine take_ (i:=1) (N:=some 7) (v:=?_) (a':=?_) #[true,true,false,false,true,false,false,false,false] rfl rfl (take_ofW HT_.out HW_.out (by kernel_rfl)) (fun _ _ _ h=>h) (Or.inl ⟨by rfl,?_⟩) hHeld ?_ ?_
    rotate_left
    ·rintro w' ⟨s0,s1⟩
     go_simp
     with_reducible rfl
    rotate_left
    ·simp only [Act.put,s1_,s2_,s3_,i64_w,i32_w]
     rfl
    refine take_ (i:=5) (N:=some 11) (v:=?_) (a':=?_) #[true,true,false,false,true,true,false,false,false] rfl rfl (take_ofW HT_.out HW_.out (by kernel_rfl)) (fun _ _ _ h=>h) (Or.inl ⟨by rfl,?_⟩) hHeld ?_ ?_
    rotate_left
    ·rintro w' ⟨s0,s1⟩
     go_simp
     with_reducible rfl
    rotate_left
    ·simp only [Act.put,s1_,s2_,s3_,i64_w,i32_w]
     rfl
    refine one_ (i:=2) (N:=some 8) #[true,true,true,false,true,true,false,false,false] rfl rfl (one_of HT_.out (by kernel_rfl)) (by decide) (fun K hK=>?_)
    refine goes_ Tryd.func18 (by kernel_rfl) rfl #[.int .i64 a0_0] (by rfl) rfl rfl (by (try simp only [List.map_toArray,List.map_cons,List.map_nil]);first|done|rfl|(simp only [List.length_drop,List.length_take];rfl)) ?_
    with_reducible refine (strconv_Itoa.calls a0_0 t226 _ A4.out).mono ?_
    rintro e w12 ⟨rfl,hb⟩
    refine ⟨_,rfl,?_⟩
    have n0_:=m_ (blk_below (g:=gb224) (o:=.cells #[.int .i64 a0_0,.int .i64 a0_1] 24 (0,0)) (by (with_reducible repeat first|apply b1_|apply b2_|apply b3_);exact BK224.out) hb)
    have n1_:=m_ (l5_ (by repeat (first|(with_reducible first|exact HB.out|apply l1_|apply l2_|apply l3_|refine l4_ ?_ GE224.out)|exact HB.out)) hb)
    clear BK224
    clear HB
    have BK224:=n0_
    have HB:=n1_
    clear n0_ n1_
    (try clear hb)
    (try clear hb2)
    (try clear hk)
    (try clear hi)
    refine hK.out _ _ ⟨(c_ BK224.out 0).trans rfl,(c_ BK224.out 1).trans rfl⟩ (fun hHeld=>?_)
    clear hK K
    refine norm_ (a':=?_) ?_ ?_
    rotate_left
    ·show Act.put _ (some 8) _ = _
     simp only [Act.put,s1_,s2_,s3_,i64_w,i32_w]
     rfl
    refine pure_ (i:=3) (N:=some 9) (v:=?_) (a':=?_) #[true,true,true,true,true,true,false,false,false] rfl rfl (any_of HT_.out (by kernel_rfl)) (fun _ _ _ h=>h) (Or.inl ⟨by rfl,?_⟩) ?_ ?_
    rotate_left
    ·intro w'
     go_simp
     with_reducible rfl
    rotate_left
    ·simp only [Act.put,s1_,s2_,s3_,i64_w,i32_w]
     rfl
    refine one_ (i:=6) (N:=some 12) #[true,true,true,true,true,true,true,false,false] rfl rfl (one_of HT_.out (by kernel_rfl)) (by decide) (fun K hK=>?_)
    refine goes_ Tryd.func18 (by kernel_rfl) rfl #[.int .i64 a0_1] (by rfl) rfl rfl (by (try simp only [List.map_toArray,List.map_cons,List.map_nil]);first|done|rfl|(simp only [List.length_drop,List.length_take];rfl)) ?_
    with_reducible refine (strconv_Itoa.calls a0_1 t227 _ A6.out).mono ?_
    rintro e w13 ⟨rfl,hb⟩
    refine ⟨_,rfl,?_⟩
    have n0_:=m_ (blk_below (g:=gb224) (o:=.cells #[.int .i64 a0_0,.int .i64 a0_1] 24 (0,0)) (by (with_reducible repeat first|apply b1_|apply b2_|apply b3_);exact BK224.out) hb)
    have n1_:=m_ (l5_ (by repeat (first|(with_reducible first|exact HB.out|apply l1_|apply l2_|apply l3_|refine l4_ ?_ GE224.out)|exact HB.out)) hb)
    clear BK224
    clear HB
    have BK224:=n0_
    have HB:=n1_
    clear n0_ n1_
    (try clear hb)
    (try clear hb2)
    (try clear hk)
    (try clear hi)
    refine hK.out _ _ ⟨(c_ BK224.out 0).trans rfl,(c_ BK224.out 1).trans rfl⟩ (fun hHeld=>?_)
    clear hK K
    refine norm_ (a':=?_) ?_ ?_
    rotate_left
    ·show Act.put _ (some 12) _ = _
     simp only [Act.put,s1_,s2_,s3_,i64_w,i32_w]
     rfl
    refine pure_ (i:=7) (N:=some 13) (v:=?_) (a':=?_) #[true,true,true,true,true,true,true,true,false] rfl rfl (any_of HT_.out (by kernel_rfl)) (fun _ _ _ h=>h) (Or.inl ⟨by rfl,?_⟩) ?_ ?_
    rotate_left
    ·intro w'
     go_simp
     with_reducible rfl
    rotate_left
    ·simp only [Act.put,s1_,s2_,s3_,i64_w,i32_w]
     rfl
    refine pure_ (i:=8) (N:=some 2) (v:=?_) (a':=?_) #[true,true,true,true,true,true,true,true,true] rfl rfl (any_of HT_.out (by kernel_rfl)) (fun _ _ _ h=>h) (Or.inl ⟨by rfl,?_⟩) ?_ ?_
    rotate_left
    ·intro w'
     go_simp
     with_reducible rfl
    rotate_left
    ·simp only [Act.put,s1_,s2_,s3_,i64_w,i32_w]
     rfl
    refine done_ (done_of HT_.out (by kernel_rfl)) ?_
    try go_wp2
    go_ret
    exact ⟨by first|rfl|(simp [e1_,e2_] <;> rfl)|(simp [*,e1_,e2_] <;> rfl)|(simp [e1_,e2_,pk_empty1,pk_empty2];done)|(simp [*,e1_,e2_,pk_empty1,pk_empty2];done),by repeat (first|(with_reducible first|exact HB.out|apply l1_|apply l2_|apply l3_|refine l4_ ?_ GE224.out)|exact HB.out)⟩
   ·rw [if_neg c7] at H
    exact absurd H (by simp)
  ·rw [if_neg c5] at H
   exact absurd H (by simp)
 ·replace c3:=Bool.eq_false_iff.mpr c3
  subst c3
  have H1 : (some (⟨#[]⟩ : ByteArray)) = some r:=by rw [if_neg (show ¬ (false = true) by decide)] at H;exact H
  clear H
  have H:=H1
  clear H1
  obtain rfl:=Option.some.inj H
  go_enter Tryd.func17,Tryd.ntmps17
  go_wp2_with (first|((with_reducible refine gate_dst (N:=1) rfl ?_);refine box_event ?hg (N:=1) ?hd (cs:=#[.int .i64 a0_0,.int .i64 a0_1]) (t:=24) ?hr ?_;(case hd=>rfl);(case hg=>rfl);(case hr=>first|(go_simp;done)|(go_simp;rfl));intro gb224 hg w14 hbox hb;have n0_:=m_ (l5_ (by repeat (first|(with_reducible first|exact HB.out|apply l1_|apply l2_|apply l3_)|exact HB.out)) hb);have n1_:=m_ (hbox);have n2_:=m_ ((by rw [hg];exact (l6_ (by repeat (first|(with_reducible first|exact HB.out|apply l1_|apply l2_|apply l3_)|exact HB.out))) : w.heap.size ≤ gb224));have n3_:=m_ ((by rw [hg];exact (l6_ (by repeat (first|(with_reducible first|exact HB.out|apply l1_|apply l2_|apply l3_)|exact HB.out))) : w.heap.size ≤ gb224));clear HB;have HB:=n0_;have BK224:=n1_;have GW224:=n2_;have GE224:=n3_;clear n0_ n1_ n2_ n3_;clear hb hbox hg;have hcz15_0 : w14.cell? ⟨gb224,0,none⟩ = some (.int .i64 a0_0):=(c_ BK224.out 0).trans rfl;have hcz15_1 : w14.cell? ⟨gb224,1,none⟩ = some (.int .i64 a0_1):=(c_ BK224.out 1).trans rfl)|((with_reducible refine gate_callee (f:=28) rfl ?_);refine goesL_ (some 4) rfl rfl Tryd.func28 (by kernel_rfl) rfl #[.agg #[.int .i64 a0_0,.int .i64 a0_1]] rfl (by (try simp only [List.map_toArray,List.map_cons,List.map_nil]);first|done|rfl|(simp only [List.length_drop,List.length_take];rfl)) ?_;(with_reducible refine (impl_End_any.calls a0_0 a0_1 false _ A2.out).mono ?_);rintro e w16 ⟨rfl,hb⟩;refine ⟨_,rfl,?_⟩;have n0_:=m_ (blk_below (g:=gb224) (o:=.cells #[.int .i64 a0_0,.int .i64 a0_1] 24 (0,0)) (by (with_reducible repeat first|apply b1_|apply b2_|apply b3_);exact BK224.out) hb);have n1_:=m_ (l5_ (by repeat (first|(with_reducible first|exact HB.out|apply l1_|apply l2_|apply l3_|refine l4_ ?_ GE224.out)|exact HB.out)) hb);clear BK224;clear HB;have BK224:=n0_;have HB:=n1_;clear n0_ n1_;(try clear hb);(try clear hb2);(try clear hk);(try clear hi)))
  go_ret
  exact ⟨by first|rfl|(simp [e1_,e2_] <;> rfl)|(simp [*,e1_,e2_] <;> rfl)|(simp [e1_,e2_,pk_empty1,pk_empty2];done)|(simp [*,e1_,e2_,pk_empty1,pk_empty2];done),by repeat (first|(with_reducible first|exact HB.out|apply l1_|apply l2_|apply l3_|refine l4_ ?_ GE224.out)|exact HB.out)⟩

/-! ### strings_Join: function 19 -/
/-- The texts, one behind the other, with a text between each two. -/
def strings_Join.f (l0 : List ByteArray) (a1 : ByteArray) : Option ByteArray := if (Lib.join (l0.map (·.data.toList)) a1.data.toList).length ≤ 140737488355328 ∧ l0.length ≤ 140737488355328 then some ⟨(Lib.join (l0.map (·.data.toList)) a1.data.toList).toArray⟩ else none
theorem strings_Join.calls (A0 : Option Addr) (c0 : Nat) (l0 : List ByteArray) (a1 : ByteArray) (r : ByteArray) (w : World) (hr0 : Kd.C Kd.string w A0 l0.length l0) (hc0 : l0.length ≤ c0) (h : strings_Join.f l0 a1 = some r) :
  Calls Tryd.prog 19 #[.slice A0 l0.length c0,.string a1] w fun e w'=>e = .returned (.string r) ∧ Below w.heap.size w w':=by
 unfold strings_Join.f at h
 by_cases hs : (Lib.join (l0.map (·.data.toList)) a1.data.toList).length ≤ 140737488355328 ∧ l0.length ≤ 140737488355328
 ·rw [if_pos hs] at h
  obtain rfl:=Option.some.inj h
  cases l0 with
  | nil =>
   refine (Go.Proofs.Tryd.strings_Join_none A0 c0 a1 w).mono ?_
   rintro e w' ⟨rfl,rfl⟩
   exact ⟨rfl,Below.refl _ _⟩
  | cons x l =>
   obtain ⟨_,_,hx⟩:=Kd.reads_of_C (enc:=Value.string) (d:=ByteArray.empty) (h1:=fun _=>rfl) hr0
   obtain ⟨ad,rfl,hcell⟩:=hx (by simp)
   obtain ⟨blk,off,spot⟩:=ad
   have h0:=hcell 0 (by simp)
   obtain ⟨rfl,hb⟩ : spot = none ∧ blk < w.heap.size:=by
    have e0 : (⟨blk,off,spot⟩ : Addr).add 0 = ⟨blk,off,spot⟩:=rfl
    rw [e0] at h0
    unfold World.cell? at h0
    split at h0
    ·rename_i hh
     refine ⟨?_,(Array.getElem?_eq_some_iff.1 hh).1⟩
     cases spot with
     | none => rfl
     | some y => simp at h0
    ·cases h0
   refine (Go.Proofs.Tryd.strings_Join blk off c0 (x :: l) a1 w (fun j y hj=>?_) hb hs.2 hc0 hs.1).mono ?_
   ·obtain ⟨hl,hy⟩:=List.getElem?_eq_some_iff.1 hj
    have h2:=hcell j hl
    rw [List.getD_eq_getElem?_getD,hj] at h2
    have e1 : (⟨blk,off,none⟩ : Addr).add j = ⟨blk,off + j,none⟩:=by
     unfold Addr.add
     split
     ·rename_i e;subst e;rfl
     ·rfl
    rw [e1] at h2
    exact h2
   ·rintro e w' ⟨rfl,hb⟩
    exact ⟨rfl,hb⟩
 ·rw [if_neg hs] at h;cases h

/-! ### impl_PktText: function 8 -/
def impl_PktText.f (a0_0 : Int) (a0_1 : Int) (a0_2 : Int) (a0_3 : Int) (a0_4 : Int) (a0_5 : Int) (a0_6 : ByteArray) : Option (ByteArray) := (impl_PktOk.f a0_0 a0_1 a0_2 a0_3 a0_4 a0_5 a0_6).bind fun t229 => (if t229 = true then ((impl_EndText.f a0_1 a0_2).bind fun t230 => ((impl_EndText.f a0_3 a0_4).bind fun t231 => ((strconv_Itoa.f a0_5).bind fun t232 => ((some (([(⟨#[97, 99, 107]⟩ : ByteArray), t230, t231, t232] : List ByteArray) : List ByteArray)).bind fun y233 => (if a0_0 = 1 then (if 0 < (y233.length : Int) then ((some (y233.set (0 : Int).toNat (⟨#[100, 97, 116, 97]⟩ : ByteArray) : List ByteArray)).bind fun y236 => (if y236.length < 8796093022208 then ((strings_Join.f (y236 ++ [a0_6]) (⟨#[32]⟩ : ByteArray)).bind fun t240 => (some t240)) else (none))) else (none)) else ((strings_Join.f y233 (⟨#[32]⟩ : ByteArray)).bind fun t241 => (some t241))))))) else (some (⟨#[]⟩ : ByteArray)))
def impl_PktText.T3 : Bool × List (List Nat × List Nat) := (true, [([], []), ([0], [0]), ([1], [1]), ([], []), ([3], [3]), ([4, 2], [4]), ([], []), ([6], [6]), ([7, 5], [7]), ([2, 5, 8], [2, 5, 8]), ([9, 8, 0, 1, 2, 3, 4, 5, 6, 7, 8, 9], [9])])
def impl_PktText.B3 : List Nat := [0, 1, 3, 0, 8, 31, 0, 64, 255, 511, 1023]
theorem impl_PktText.tab3 : rtab .any (opsOf Tryd.f8 3) = impl_PktText.T3 := by kernel_rfl
theorem impl_PktText.bits3 : waitsOk impl_PktText.T3.2 impl_PktText.B3 = true := by kernel_rfl
set_option maxHeartbeats 8000000 in
set_option maxRecDepth 100000 in
theorem impl_PktText.calls (a0_0 : Int) (a0_1 : Int) (a0_2 : Int) (a0_3 : Int) (a0_4 : Int) (a0_5 : Int) (a0_6 : ByteArray) (r : ByteArray) (w : World) (h : impl_PktText.f a0_0 a0_1 a0_2 a0_3 a0_4 a0_5 a0_6 = some r) :
  Calls Tryd.prog 8 #[.agg #[.int .i64 a0_0,.int .i64 a0_1,.int .i64 a0_2,.int .i64 a0_3,.int .i64 a0_4,.int .i64 a0_5,.string a0_6]] w fun e w'=>e = .returned (.string r) ∧ Below w.heap.size w w':=by
 have hu26:=Tryd.underlying26
 have hu24:=Tryd.underlying24
 have HB:=m_ (Below.refl w.heap.size w)
 have H : ((impl_PktOk.f a0_0 a0_1 a0_2 a0_3 a0_4 a0_5 a0_6).bind fun t229=>(if t229 = true then ((impl_EndText.f a0_1 a0_2).bind fun t230=>((impl_EndText.f a0_3 a0_4).bind fun t231=>((strconv_Itoa.f a0_5).bind fun t232=>((some (([(⟨#[97,99,107]⟩ : ByteArray),t230,t231,t232] : List ByteArray) : List ByteArray)).bind fun y233=>(if a0_0 = 1 then (if 0 < (y233.length : Int) then ((some (y233.set (0 : Int).toNat (⟨#[100,97,116,97]⟩ : ByteArray) : List ByteArray)).bind fun y236=>(if y236.length < 8796093022208 then ((strings_Join.f (y236 ++ [a0_6]) (⟨#[32]⟩ : ByteArray)).bind fun t240=>(some t240)) else (none))) else (none)) else ((strings_Join.f y233 (⟨#[32]⟩ : ByteArray)).bind fun t241=>(some t241))))))) else (some (⟨#[]⟩ : ByteArray)))) = some r:=h
 clear h
 replace H:=Option.bind_eq_some_iff.mp H
 obtain ⟨t229,A20,H⟩:=H
 replace H : (if t229 = true then ((impl_EndText.f a0_1 a0_2).bind fun t230=>((impl_EndText.f a0_3 a0_4).bind fun t231=>((strconv_Itoa.f a0_5).bind fun t232=>((some (([(⟨#[97,99,107]⟩ : ByteArray),t230,t231,t232] : List ByteArray) : List ByteArray)).bind fun y233=>(if a0_0 = 1 then (if 0 < (y233.length : Int) then ((some (y233.set (0 : Int).toNat (⟨#[100,97,116,97]⟩ : ByteArray) : List ByteArray)).bind fun y236=>(if y236.length < 8796093022208 then ((strings_Join.f (y236 ++ [a0_6]) (⟨#[32]⟩ : ByteArray)).bind fun t240=>(some t240)) else (none))) else (none)) else ((strings_Join.f y233 (⟨#[32]⟩ : ByteArray)).bind fun t241=>(some t241))))))) else (some (⟨#[]⟩ : ByteArray))) = some r:=H
 have A2:=m_ A20
 clear A20
 by_cases c3 : t229 = true
 ·subst c3
  have H1 : ((impl_EndText.f a0_1 a0_2).bind fun t230=>((impl_EndText.f a0_3 a0_4).bind fun t231=>((strconv_Itoa.f a0_5).bind fun t232=>((some (([(⟨#[97,99,107]⟩ : ByteArray),t230,t231,t232] : List ByteArray) : List ByteArray)).bind fun y233=>(if a0_0 = 1 then (if 0 < (y233.length : Int) then ((some (y233.set (0 : Int).toNat (⟨#[100,97,116,97]⟩ : ByteArray) : List ByteArray)).bind fun y236=>(if y236.length < 8796093022208 then ((strings_Join.f (y236 ++ [a0_6]) (⟨#[32]⟩ : ByteArray)).bind fun t240=>(some t240)) else (none))) else (none)) else ((strings_Join.f y233 (⟨#[32]⟩ : ByteArray)).bind fun t241=>(some t241))))))) = some r:=by rw [if_pos rfl] at H;exact H
  clear H
  have H:=H1
  clear H1
  replace H:=Option.bind_eq_some_iff.mp H
  obtain ⟨t230,A40,H⟩:=H
  replace H : ((impl_EndText.f a0_3 a0_4).bind fun t231=>((strconv_Itoa.f a0_5).bind fun t232=>((some (([(⟨#[97,99,107]⟩ : ByteArray),t230,t231,t232] : List ByteArray) : List ByteArray)).bind fun y233=>(if a0_0 = 1 then (if 0 < (y233.length : Int) then ((some (y233.set (0 : Int).toNat (⟨#[100,97,116,97]⟩ : ByteArray) : List ByteArray)).bind fun y236=>(if y236.length < 8796093022208 then ((strings_Join.f (y236 ++ [a0_6]) (⟨#[32]⟩ : ByteArray)).bind fun t240=>(some t240)) else (none))) else (none)) else ((strings_Join.f y233 (⟨#[32]⟩ : ByteArray)).bind fun t241=>(some t241)))))) = some r:=H
  have A4:=m_ A40
  clear A40
  replace H:=Option.bind_eq_some_iff.mp H
  obtain ⟨t231,A50,H⟩:=H
  replace H : ((strconv_Itoa.f a0_5).bind fun t232=>((some (([(⟨#[97,99,107]⟩ : ByteArray),t230,t231,t232] : List ByteArray) : List ByteArray)).bind fun y233=>(if a0_0 = 1 then (if 0 < (y233.length : Int) then ((some (y233.set (0 : Int).toNat (⟨#[100,97,116,97]⟩ : ByteArray) : List ByteArray)).bind fun y236=>(if y236.length < 8796093022208 then ((strings_Join.f (y236 ++ [a0_6]) (⟨#[32]⟩ : ByteArray)).bind fun t240=>(some t240)) else (none))) else (none)) else ((strings_Join.f y233 (⟨#[32]⟩ : ByteArray)).bind fun t241=>(some t241))))) = some r:=H
  have A5:=m_ A50
  clear A50
  replace H:=Option.bind_eq_some_iff.mp H
  obtain ⟨t232,A60,H⟩:=H
  replace H : ((some (([(⟨#[97,99,107]⟩ : ByteArray),t230,t231,t232] : List ByteArray) : List ByteArray)).bind fun y233=>(if a0_0 = 1 then (if 0 < (y233.length : Int) then ((some (y233.set (0 : Int).toNat (⟨#[100,97,116,97]⟩ : ByteArray) : List ByteArray)).bind fun y236=>(if y236.length < 8796093022208 then ((strings_Join.f (y236 ++ [a0_6]) (⟨#[32]⟩ : ByteArray)).bind fun t240=>(some t240)) else (none))) else (none)) else ((strings_Join.f y233 (⟨#[32]⟩ : ByteArray)).bind fun t241=>(some t241)))) = some r:=H
  have A6:=m_ A60
  clear A60
  obtain ⟨y233,hy233⟩ : ∃ y_ : List ByteArray,y_ = (([(⟨#[97,99,107]⟩ : ByteArray),t230,t231,t232] : List ByteArray)):=⟨_,rfl⟩
  replace H : (if a0_0 = 1 then (if 0 < (y233.length : Int) then ((some (y233.set (0 : Int).toNat (⟨#[100,97,116,97]⟩ : ByteArray) : List ByteArray)).bind fun y236=>(if y236.length < 8796093022208 then ((strings_Join.f (y236 ++ [a0_6]) (⟨#[32]⟩ : ByteArray)).bind fun t240=>(some t240)) else (none))) else (none)) else ((strings_Join.f y233 (⟨#[32]⟩ : ByteArray)).bind fun t241=>(some t241))) = some r:=by first|(rw [hy233];with_reducible exact H)|(have H2_:=(Option.bind_some _ _).symm.trans H;rw [hy233];with_reducible exact H2_)|(have H2_:=(Option.bind_some _ _).symm.trans H;with_reducible exact H2_)|with_reducible exact H|(rw [hy233];exact H)|exact H
  have Ny233:=m_ hy233
  clear hy233
  by_cases c7 : a0_0 = 1
  ·rw [if_pos c7] at H
   have c7b0 : (a0_0 == 1) = true:=beq_iff_eq.mpr c7
   have c7b1 : (a0_0 != 1) = false:=bne_eq_false_iff_eq.mpr c7
   clear c7
   by_cases c8 : 0 < (y233.length : Int)
   ·rw [if_pos c8] at H
    have c8b0 : decide (0 < (y233.length : Int)) = true:=decide_eq_true c8
    have c8b1 : decide (0 < y233.length) = true:=decide_eq_true (by omega)
    clear c8
    obtain ⟨y236,hy236⟩ : ∃ y_ : List ByteArray,y_ = (y233.set (0 : Int).toNat (⟨#[100,97,116,97]⟩ : ByteArray)):=⟨_,rfl⟩
    replace H : (if y236.length < 8796093022208 then ((strings_Join.f (y236 ++ [a0_6]) (⟨#[32]⟩ : ByteArray)).bind fun t240=>(some t240)) else (none)) = some r:=by first|(rw [hy236];with_reducible exact H)|(have H2_:=(Option.bind_some _ _).symm.trans H;rw [hy236];with_reducible exact H2_)|(have H2_:=(Option.bind_some _ _).symm.trans H;with_reducible exact H2_)|with_reducible exact H|(rw [hy236];exact H)|exact H
    have Ny236:=m_ hy236
    clear hy236
    by_cases c10 : y236.length < 8796093022208
    ·rw [if_pos c10] at H
     have LMc10:=m_ c10
     clear c10
     obtain ⟨y237,hy237⟩ : ∃ y_ : List ByteArray,y_ = (y236 ++ [a0_6]):=⟨_,rfl⟩
     replace H : ((strings_Join.f y237 (⟨#[32]⟩ : ByteArray)).bind fun t240=>(some t240)) = some r:=by first|(rw [hy237];with_reducible exact H)|(have H2_:=(Option.bind_some _ _).symm.trans H;rw [hy237];with_reducible exact H2_)|(have H2_:=(Option.bind_some _ _).symm.trans H;with_reducible exact H2_)|with_reducible exact H|(rw [hy237];exact H)|exact H
     have Ny237:=m_ hy237
     clear hy237
     replace H:=Option.bind_eq_some_iff.mp H
     obtain ⟨t240,A110,H⟩:=H
     replace H : (some t240) = some r:=H
     have A11:=m_ A110
     clear A110
     obtain rfl:=Option.some.inj H
     go_enter Tryd.func8,Tryd.ntmps8
     try go_wp2_with (first|((with_reducible refine gate_dst (N:=1) rfl ?_);refine box_event ?hg (N:=1) ?hd (cs:=#[.int .i64 a0_0,.int .i64 a0_1,.int .i64 a0_2,.int .i64 a0_3,.int .i64 a0_4,.int .i64 a0_5,.string a0_6]) (t:=26) ?hr ?_;(case hd=>rfl);(case hg=>rfl);(case hr=>first|(go_simp;done)|(go_simp;rfl));intro gb228 hg w12 hbox hb;have n0_:=m_ (l5_ (by repeat (first|(with_reducible first|exact HB.out|apply l1_|apply l2_|apply l3_)|exact HB.out)) hb);have n1_:=m_ (hbox);have n2_:=m_ ((by rw [hg];exact (l6_ (by repeat (first|(with_reducible first|exact HB.out|apply l1_|apply l2_|apply l3_)|exact HB.out))) : w.heap.size ≤ gb228));have n3_:=m_ ((by rw [hg];exact (l6_ (by repeat (first|(with_reducible first|exact HB.out|apply l1_|apply l2_|apply l3_)|exact HB.out))) : w.heap.size ≤ gb228));clear HB;have HB:=n0_;have BK228:=n1_;have GW228:=n2_;have GE228:=n3_;clear n0_ n1_ n2_ n3_;clear hb hbox hg;have hcz13_0 : w12.cell? ⟨gb228,0,none⟩ = some (.int .i64 a0_0):=(c_ BK228.out 0).trans rfl;have hcz13_1 : w12.cell? ⟨gb228,1,none⟩ = some (.int .i64 a0_1):=(c_ BK228.out 1).trans rfl;have hcz13_2 : w12.cell? ⟨gb228,2,none⟩ = some (.int .i64 a0_2):=(c_ BK228.out 2).trans rfl;have hcz13_3 : w12.cell? ⟨gb228,3,none⟩ = some (.int .i64 a0_3):=(c_ BK228.out 3).trans rfl;have hcz13_4 : w12.cell? ⟨gb228,4,none⟩ = some (.int .i64 a0_4):=(c_ BK228.out 4).trans rfl;have hcz13_5 : w12.cell? ⟨gb228,5,none⟩ = some (.int .i64 a0_5):=(c_ BK228.out 5).trans rfl;have hcz13_6 : w12.cell? ⟨gb228,6,none⟩ = some (.string a0_6):=(c_ BK228.out 6).trans rfl;have hfz13_0:=f_ BK228.out 0;have hfz13_1:=f_ BK228.out 1;have hfz13_2:=f_ BK228.out 2;have hfz13_3:=f_ BK228.out 3;have hfz13_4:=f_ BK228.out 4;have hfz13_5:=f_ BK228.out 5;have hfz13_6:=f_ BK228.out 6)|((with_reducible refine gate_callee (f:=11) rfl ?_);refine goesL_ (some 5) rfl rfl Tryd.func11 (by kernel_rfl) rfl #[.agg #[.int .i64 a0_0,.int .i64 a0_1,.int .i64 a0_2,.int .i64 a0_3,.int .i64 a0_4,.int .i64 a0_5,.string a0_6]] rfl (by (try simp only [List.map_toArray,List.map_cons,List.map_nil]);first|done|rfl|(simp only [List.length_drop,List.length_take];rfl)) ?_;(with_reducible refine (impl_PktOk.calls a0_0 a0_1 a0_2 a0_3 a0_4 a0_5 a0_6 true _ A2.out).mono ?_);rintro e w14 ⟨rfl,hb⟩;refine ⟨_,rfl,?_⟩;have n0_:=m_ (blk_below (g:=gb228) (o:=.cells #[.int .i64 a0_0,.int .i64 a0_1,.int .i64 a0_2,.int .i64 a0_3,.int .i64 a0_4,.int .i64 a0_5,.string a0_6] 26 (0,0)) (by (with_reducible repeat first|apply b1_|apply b2_|apply b3_);exact BK228.out) hb);have n1_:=m_ (l5_ (by repeat (first|(with_reducible first|exact HB.out|apply l1_|apply l2_|apply l3_|refine l4_ ?_ GE228.out)|exact HB.out)) hb);clear BK228;clear HB;have BK228:=n0_;have HB:=n1_;clear n0_ n1_;(try clear hb);(try clear hb2);(try clear hk);(try clear hi)))
     have n0_:=m_ (b2_ BK228.out)
     have n1_:=m_ (l3_ HB.out)
     clear BK228
     clear HB
     have BK228:=n0_
     have HB:=n1_
     clear n0_ n1_
     refine start_ (n:=11) (S:=fun w'=>w'.cell? ⟨gb228,0,none⟩ = some (.int .i64 a0_0) ∧ w'.cell? ⟨gb228,1,none⟩ = some (.int .i64 a0_1) ∧ w'.cell? ⟨gb228,2,none⟩ = some (.int .i64 a0_2) ∧ w'.cell? ⟨gb228,3,none⟩ = some (.int .i64 a0_3) ∧ w'.cell? ⟨gb228,4,none⟩ = some (.int .i64 a0_4) ∧ w'.cell? ⟨gb228,5,none⟩ = some (.int .i64 a0_5) ∧ w'.cell? ⟨gb228,6,none⟩ = some (.string a0_6)) (ds:=[]) #[false,false,false,false,false,false,false,false,false,false,false] (by kernel_rfl) rfl rfl ⟨(c_ BK228.out 0).trans rfl,(c_ BK228.out 1).trans rfl,(c_ BK228.out 2).trans rfl,(c_ BK228.out 3).trans rfl,(c_ BK228.out 4).trans rfl,(c_ BK228.out 5).trans rfl,(c_ BK228.out 6).trans rfl⟩ (fun hHeld=>?_);refine with_tabW impl_PktText.tab3 impl_PktText.bits3 (fun HT_ HW_=>?_)
     generalize w14.drew = w15 at BK228 HB hHeld ⊢
     refine pure_ (i:=0) (N:=some 7) (v:=?_) (a':=?_) #[true,false,false,false,false,false,false,false,false,false,false] rfl rfl (any_of HT_.out (by kernel_rfl)) (fun _ _ _ h=>h) (Or.inl ⟨by rfl,?_⟩) ?_ ?_
     rotate_left
     ·intro w'
      go_simp
      with_reducible rfl
     rotate_left
     ·simp only [Act.put,s1_,s2_,s3_,i64_w,i32_w]
      rfl
     refine pure_ (i:=3) (N:=some 10) (v:=?_) (a':=?_) #[true,false,false,true,false,false,false,false,false,false,false] rfl rfl (any_of HT_.out (by kernel_rfl)) (fun _ _ _ h=>h) (Or.inl ⟨by rfl,?_⟩) ?_ ?_
     rotate_left
     ·intro w'
      go_simp
      with_reducible rfl
     rotate_left
     ·simp only [Act.put,s1_,s2_,s3_,i64_w,i32_w]
      rfl
     refine pure_ (i:=6) (N:=some 13) (v:=?_) (a':=?_) #[true,false,false,true,false,false,true,false,false,false,false] rfl rfl (any_of HT_.out (by kernel_rfl)) (fun _ _ _ h=>h) (Or.inl ⟨by rfl,?_⟩) ?_ ?_
     rotate_left
     ·intro w'
      go_simp
      with_reducible rfl
     rotate_left
     ·simp only [Act.put,s1_,s2_,s3_,i64_w,i32_w]
      rfl
     refine take_ (i:=1) (N:=some 8) (v:=?_) (a':=?_) #[true,true,false,true,false,false,true,false,false,false,false] rfl rfl (take_ofW HT_.out HW_.out (by kernel_rfl)) (fun _ _ _ h=>h) (Or.inl ⟨by rfl,?_⟩) hHeld ?_ ?_
     rotate_left
     ·rintro w' ⟨s0,s1,s2,s3,s4,s5,s6⟩
      go_simp
      with_reducible rfl
     rotate_left
     ·simp only [Act.put,s1_,s2_,s3_,i64_w,i32_w]
      rfl
     refine take_ (i:=4) (N:=some 11) (v:=?_) (a':=?_) #[true,true,false,true,true,false,true,false,false,false,false] rfl rfl (take_ofW HT_.out HW_.out (by kernel_rfl)) (fun _ _ _ h=>h) (Or.inl ⟨by rfl,?_⟩) hHeld ?_ ?_
     rotate_left
     ·rintro w' ⟨s0,s1,s2,s3,s4,s5,s6⟩
      go_simp
      with_reducible rfl
     rotate_left
     ·simp only [Act.put,s1_,s2_,s3_,i64_w,i32_w]
      rfl
     refine take_ (i:=7) (N:=some 14) (v:=?_) (a':=?_) #[true,true,false,true,true,false,true,true,false,false,false] rfl rfl (take_ofW HT_.out HW_.out (by kernel_rfl)) (fun _ _ _ h=>h) (Or.inl ⟨by rfl,?_⟩) hHeld ?_ ?_
     rotate_left
     ·rintro w' ⟨s0,s1,s2,s3,s4,s5,s6⟩
      go_simp
      with_reducible rfl
     rotate_left
     ·simp only [Act.put,s1_,s2_,s3_,i64_w,i32_w]
      rfl
     refine one_ (i:=2) (N:=some 9) #[true,true,true,true,true,false,true,true,false,false,false] rfl rfl (one_of HT_.out (by kernel_rfl)) (by decide) (fun K hK=>?_)
     refine goes_ Tryd.func17 (by kernel_rfl) rfl #[.agg #[.int .i64 a0_1,.int .i64 a0_2]] (by rfl) rfl rfl (by (try simp only [List.map_toArray,List.map_cons,List.map_nil]);first|done|rfl|(simp only [List.length_drop,List.length_take];rfl)) ?_
     with_reducible refine (impl_EndText.calls a0_1 a0_2 t230 _ A4.out).mono ?_
     rintro e w16 ⟨rfl,hb⟩
     refine ⟨_,rfl,?_⟩
     have n0_:=m_ (blk_below (g:=gb228) (o:=.cells #[.int .i64 a0_0,.int .i64 a0_1,.int .i64 a0_2,.int .i64 a0_3,.int .i64 a0_4,.int .i64 a0_5,.string a0_6] 26 (0,0)) (by (with_reducible repeat first|apply b1_|apply b2_|apply b3_);exact BK228.out) hb)
     have n1_:=m_ (l5_ (by repeat (first|(with_reducible first|exact HB.out|apply l1_|apply l2_|apply l3_|refine l4_ ?_ GE228.out)|exact HB.out)) hb)
     clear BK228
     clear HB
     have BK228:=n0_
     have HB:=n1_
     clear n0_ n1_
     (try clear hb)
     (try clear hb2)
     (try clear hk)
     (try clear hi)
     refine hK.out _ _ ⟨(c_ BK228.out 0).trans rfl,(c_ BK228.out 1).trans rfl,(c_ BK228.out 2).trans rfl,(c_ BK228.out 3).trans rfl,(c_ BK228.out 4).trans rfl,(c_ BK228.out 5).trans rfl,(c_ BK228.out 6).trans rfl⟩ (fun hHeld=>?_)
     clear hK K
     refine norm_ (a':=?_) ?_ ?_
     rotate_left
     ·show Act.put _ (some 9) _ = _
      simp only [Act.put,s1_,s2_,s3_,i64_w,i32_w]
      rfl
     refine one_ (i:=5) (N:=some 12) #[true,true,true,true,true,true,true,true,false,false,false] rfl rfl (one_of HT_.out (by kernel_rfl)) (by decide) (fun K hK=>?_)
     refine goes_ Tryd.func17 (by kernel_rfl) rfl #[.agg #[.int .i64 a0_3,.int .i64 a0_4]] (by rfl) rfl rfl (by (try simp only [List.map_toArray,List.map_cons,List.map_nil]);first|done|rfl|(simp only [List.length_drop,List.length_take];rfl)) ?_
     with_reducible refine (impl_EndText.calls a0_3 a0_4 t231 _ A5.out).mono ?_
     rintro e w17 ⟨rfl,hb⟩
     refine ⟨_,rfl,?_⟩
     have n0_:=m_ (blk_below (g:=gb228) (o:=.cells #[.int .i64 a0_0,.int .i64 a0_1,.int .i64 a0_2,.int .i64 a0_3,.int .i64 a0_4,.int .i64 a0_5,.string a0_6] 26 (0,0)) (by (with_reducible repeat first|apply b1_|apply b2_|apply b3_);exact BK228.out) hb)
     have n1_:=m_ (l5_ (by repeat (first|(with_reducible first|exact HB.out|apply l1_|apply l2_|apply l3_|refine l4_ ?_ GE228.out)|exact HB.out)) hb)
     clear BK228
     clear HB
     have BK228:=n0_
     have HB:=n1_
     clear n0_ n1_
     (try clear hb)
     (try clear hb2)
     (try clear hk)
     (try clear hi)
     refine hK.out _ _ ⟨(c_ BK228.out 0).trans rfl,(c_ BK228.out 1).trans rfl,(c_ BK228.out 2).trans rfl,(c_ BK228.out 3).trans rfl,(c_ BK228.out 4).trans rfl,(c_ BK228.out 5).trans rfl,(c_ BK228.out 6).trans rfl⟩ (fun hHeld=>?_)
     clear hK K
     refine norm_ (a':=?_) ?_ ?_
     rotate_left
     ·show Act.put _ (some 12) _ = _
      simp only [Act.put,s1_,s2_,s3_,i64_w,i32_w]
      rfl
     refine one_ (i:=8) (N:=some 15) #[true,true,true,true,true,true,true,true,true,false,false] rfl rfl (one_of HT_.out (by kernel_rfl)) (by decide) (fun K hK=>?_)
     refine goes_ Tryd.func18 (by kernel_rfl) rfl #[.int .i64 a0_5] (by rfl) rfl rfl (by (try simp only [List.map_toArray,List.map_cons,List.map_nil]);first|done|rfl|(simp only [List.length_drop,List.length_take];rfl)) ?_
     with_reducible refine (strconv_Itoa.calls a0_5 t232 _ A6.out).mono ?_
     rintro e w18 ⟨rfl,hb⟩
     refine ⟨_,rfl,?_⟩
     have n0_:=m_ (blk_below (g:=gb228) (o:=.cells #[.int .i64 a0_0,.int .i64 a0_1,.int .i64 a0_2,.int .i64 a0_3,.int .i64 a0_4,.int .i64 a0_5,.string a0_6] 26 (0,0)) (by (with_reducible repeat first|apply b1_|apply b2_|apply b3_);exact BK228.out) hb)
     have n1_:=m_ (l5_ (by repeat (first|(with_reducible first|exact HB.out|apply l1_|apply l2_|apply l3_|refine l4_ ?_ GE228.out)|exact HB.out)) hb)
     clear BK228
     clear HB
     have BK228:=n0_
     have HB:=n1_
     clear n0_ n1_
     (try clear hb)
     (try clear hb2)
     (try clear hk)
     (try clear hi)
     refine hK.out _ _ ⟨(c_ BK228.out 0).trans rfl,(c_ BK228.out 1).trans rfl,(c_ BK228.out 2).trans rfl,(c_ BK228.out 3).trans rfl,(c_ BK228.out 4).trans rfl,(c_ BK228.out 5).trans rfl,(c_ BK228.out 6).trans rfl⟩ (fun hHeld=>?_)
     clear hK K
     refine norm_ (a':=?_) ?_ ?_
     rotate_left
     ·show Act.put _ (some 15) _ = _
      simp only [Act.put,s1_,s2_,s3_,i64_w,i32_w]
      rfl
     refine one_ (i:=9) (N:=some 16) #[true,true,true,true,true,true,true,true,true,true,false] rfl rfl (one_of HT_.out (by kernel_rfl)) (by decide) (fun K hK=>?_)
     refine Kd.R_lit_step Kd.string _ 9 ?hg (N:=16) ?hd (xs:=([(⟨#[97,99,107]⟩ : ByteArray),t230,t231,t232] : List ByteArray)) (inner:=[.string (⟨#[97,99,107]⟩ : ByteArray),.string t230,.string t231,.string t232]) (ok:=fun _=>True) (okp:=fun _=>True) ?hr ?hp (fun _ hk=>hk) trivial (Below.refl _ _) (Nat.le_refl _) (by simp) ?_;(case hd=>rfl);(case hg=>rfl);(case hr=>first|(go_simp;done)|(go_simp;rfl));(case hp=>exact (Reps.one (show Kd.M Kd.string _ _ _ (⟨#[97,99,107]⟩ : ByteArray) [.string (⟨#[97,99,107]⟩ : ByteArray)] from rfl) (Reps.one (show Kd.M Kd.string _ _ _ t230 [.string t230] from rfl) (Reps.one (show Kd.M Kd.string _ _ _ t231 [.string t231] from rfl) (Reps.one (show Kd.M Kd.string _ _ _ t232 [.string t232] from rfl) (Reps.none _ _))))))
     intro v234 w19 ho20 hb hg_ hnew_
     clear hg_ hnew_
     (first|rw [← Ny233.out] at ho20|(simp only [Int.reduceToNat] at ho20;rw [← Ny233.out] at ho20))
     have n0_:=m_ (Kd.R_lower ho20 (l6_ (by repeat (first|(with_reducible first|exact HB.out|apply l1_|apply l2_|apply l3_|refine l4_ ?_ GE228.out)|exact HB.out))))
     have n1_:=m_ (blk_below (g:=gb228) (o:=.cells #[.int .i64 a0_0,.int .i64 a0_1,.int .i64 a0_2,.int .i64 a0_3,.int .i64 a0_4,.int .i64 a0_5,.string a0_6] 26 (0,0)) (by (with_reducible repeat first|apply b1_|apply b2_|apply b3_);exact BK228.out) hb)
     have n2_:=m_ (l5_ (by repeat (first|(with_reducible first|exact HB.out|apply l1_|apply l2_|apply l3_|refine l4_ ?_ GE228.out)|exact HB.out)) hb)
     clear BK228
     clear HB
     have HO235:=n0_
     have BK228:=n1_
     have HB:=n2_
     clear n0_ n1_ n2_
     clear hb ho20
     refine hK.out _ _ ⟨(c_ BK228.out 0).trans rfl,(c_ BK228.out 1).trans rfl,(c_ BK228.out 2).trans rfl,(c_ BK228.out 3).trans rfl,(c_ BK228.out 4).trans rfl,(c_ BK228.out 5).trans rfl,(c_ BK228.out 6).trans rfl⟩ (fun hHeld=>?_)
     clear hK K
     refine norm_ (a':=?_) ?_ ?_
     rotate_left
     ·show Act.put _ (some 16) _ = _
      simp only [Act.put,s1_,s2_,s3_,i64_w,i32_w]
      rfl
     refine pure_ (i:=10) (N:=some 3) (v:=?_) (a':=?_) #[true,true,true,true,true,true,true,true,true,true,true] rfl rfl (any_of HT_.out (by kernel_rfl)) (fun _ _ _ h=>h) (Or.inl ⟨by rfl,?_⟩) ?_ ?_
     rotate_left
     ·intro w'
      go_simp
      with_reducible rfl
     rotate_left
     ·simp only [Act.put,s1_,s2_,s3_,i64_w,i32_w]
      rfl
     refine done_ (done_of HT_.out (by kernel_rfl)) ?_
     have hcz21_0 : w19.cell? ⟨gb228,0,none⟩ = some (.int .i64 a0_0):=(c_ BK228.out 0).trans rfl
     have hcz21_1 : w19.cell? ⟨gb228,1,none⟩ = some (.int .i64 a0_1):=(c_ BK228.out 1).trans rfl
     have hcz21_2 : w19.cell? ⟨gb228,2,none⟩ = some (.int .i64 a0_2):=(c_ BK228.out 2).trans rfl
     have hcz21_3 : w19.cell? ⟨gb228,3,none⟩ = some (.int .i64 a0_3):=(c_ BK228.out 3).trans rfl
     have hcz21_4 : w19.cell? ⟨gb228,4,none⟩ = some (.int .i64 a0_4):=(c_ BK228.out 4).trans rfl
     have hcz21_5 : w19.cell? ⟨gb228,5,none⟩ = some (.int .i64 a0_5):=(c_ BK228.out 5).trans rfl
     have hcz21_6 : w19.cell? ⟨gb228,6,none⟩ = some (.string a0_6):=(c_ BK228.out 6).trans rfl
     have hfz21_0:=f_ BK228.out 0
     have hfz21_1:=f_ BK228.out 1
     have hfz21_2:=f_ BK228.out 2
     have hfz21_3:=f_ BK228.out 3
     have hfz21_4:=f_ BK228.out 4
     have hfz21_5:=f_ BK228.out 5
     have hfz21_6:=f_ BK228.out 6
     have p9 : 0 ≤ (0 : Int):=(by omega)
     have q9 : (0 : Int) < ((y233.length : Int) : Int):=of_decide_eq_true (by first|(with_reducible assumption)|assumption)
     have qi9 : (0 < y233.length) = True:=eq_true (by omega)
     obtain ⟨go9,co9,eo9,gb9,gl9,cl9,HG9⟩:=Kd.R_form HO235.out (by omega)
     (first|cases eo9|(injection eo9 with ea_ en_ ec_;(first|subst ea_|(injection ea_ with ea_;subst ea_));subst ec_;clear en_))
     have GB9:=m_ gb9
     have GG9:=m_ HG9
     clear gb9 gl9 HG9
     obtain ⟨hx9_0,hf9_0⟩:=Kd.R_celln (⟨#[]⟩ : ByteArray) HO235.out (0 : Int) p9 q9
     (try rw [show ((0 : Int)).toNat = 0 from rfl] at hx9_0)
     (try simp only [Nat.reduceMul,Nat.zero_mul,Nat.zero_add,Nat.reduceAdd] at hx9_0)
     (try rw [show ((0 : Int)).toNat = 0 from rfl] at hf9_0)
     (try simp only [Nat.reduceMul,Nat.zero_mul,Nat.zero_add,Nat.reduceAdd] at hf9_0)
     replace p9:=eq_true p9
     replace q9:=eq_true q9
     obtain ⟨hy22_,hz22_⟩:=Kd.R_celln (⟨#[]⟩ : ByteArray) HO235.out (0 : Int) (by omega) (of_decide_eq_true (by first|(with_reducible assumption)|assumption))
     (try simp only [Int.reduceToNat,Int.toNat_zero,Int.toNat_ofNat,Nat.reduceMul,Nat.zero_mul,Nat.zero_add] at hy22_ hz22_)
     (try rw [show ((0 : Int)).toNat = 0 from rfl] at hy22_)
     (try rw [show ((0 : Int)).toNat = 0 from rfl] at hz22_)
     have HP22:=Kd.R_putg HO235.out (0 : Int) (⟨#[100,97,116,97]⟩ : ByteArray)
     try go_wp2_with (first|((with_reducible refine gate_store (t:=9) (p:=21) rfl ?_);refine store_event (t:=9) (p:=21) (v:=?vo_w23) (w1:=(w19.setCell ⟨go9,(0 : Int).toNat,none⟩ (.string (⟨#[100,97,116,97]⟩ : ByteArray)))) ?hg ?ho ?hn ?hr ?_;(case ho=>rfl);(case hg=>rfl);(case hn=>rfl);(case hr=>first|(go_simp;done)|(go_simp;rfl));intro w23 hw;have hg : w19.grownBy w23 (some go9):=(by rw [hw];exact HP22.2);have hp_ : Kd.R Kd.string 9 w23 w.heap.size (fun _=>True) (.slice (some ⟨go9,0,none⟩) y233.length co9) y236:=(by rw [hw,Ny236.out];exact HP22.1);clear HP22;have n0_:=m_ (blk_grown (g:=gb228) (o:=.cells #[.int .i64 a0_0,.int .i64 a0_1,.int .i64 a0_2,.int .i64 a0_3,.int .i64 a0_4,.int .i64 a0_5,.string a0_6] 26 (0,0)) (by (with_reducible repeat first|apply b1_|apply b2_|apply b3_);exact BK228.out) hg (Kd.R_ne HO235.out BK228.out (by decide)));have n1_:=m_ (hp_);have n2_:=m_ ((by rw [hw];exact l4_ (HB.out) GB9.out : Below w.heap.size w w23));clear BK228;clear HO235;clear HB;have BK228:=n0_;have HO235:=n1_;have HB:=n2_;clear n0_ n1_ n2_;clear hg hw hp_;have hcz24_0 : w23.cell? ⟨gb228,0,none⟩ = some (.int .i64 a0_0):=(c_ BK228.out 0).trans rfl;have hcz24_1 : w23.cell? ⟨gb228,1,none⟩ = some (.int .i64 a0_1):=(c_ BK228.out 1).trans rfl;have hcz24_2 : w23.cell? ⟨gb228,2,none⟩ = some (.int .i64 a0_2):=(c_ BK228.out 2).trans rfl;have hcz24_3 : w23.cell? ⟨gb228,3,none⟩ = some (.int .i64 a0_3):=(c_ BK228.out 3).trans rfl;have hcz24_4 : w23.cell? ⟨gb228,4,none⟩ = some (.int .i64 a0_4):=(c_ BK228.out 4).trans rfl;have hcz24_5 : w23.cell? ⟨gb228,5,none⟩ = some (.int .i64 a0_5):=(c_ BK228.out 5).trans rfl;have hcz24_6 : w23.cell? ⟨gb228,6,none⟩ = some (.string a0_6):=(c_ BK228.out 6).trans rfl;have hfz24_0:=f_ BK228.out 0;have hfz24_1:=f_ BK228.out 1;have hfz24_2:=f_ BK228.out 2;have hfz24_3:=f_ BK228.out 3;have hfz24_4:=f_ BK228.out 4;have hfz24_5:=f_ BK228.out 5;have hfz24_6:=f_ BK228.out 6)|((with_reducible refine gate_builtin (b:=.append) (xs:=#[.tmp 22,.tmp 25]) rfl ?_);at_builtin;refine Kd.R_append Kd.string (w0:=w) w.heap.size rfl (.tmp 22) (.tmp 25) 41 9 (.string ⟨#[]⟩) 16 rfl Tryd.underlying41 info9 rfl (by decide) (by omega) (.slice (some ⟨go9,0,none⟩) y233.length co9) y236 a0_6 [.string a0_6] (fun _=>True) (fun _=>False) rfl rfl ?aP (fun _ hk=>hk.elim) ?aF ?aO ?aB ?aS ?aL ?_;(case aP=>exact rfl);(case aB=>exact (by repeat (first|(with_reducible first|exact HB.out|apply l1_|apply l2_|apply l3_|refine l4_ ?_ GE228.out)|exact HB.out)));(case aF=>exact (fun _ _=>trivial));(case aO=>exact (by (with_reducible repeat (first|apply Kd.R_alloc|apply Kd.R_drewN|apply Kd.R_drew));exact HO235.out));(case aS=>exact (l6_ (by repeat (first|(with_reducible first|exact HB.out|apply l1_|apply l2_|apply l3_|refine l4_ ?_ GE228.out)|exact HB.out))));(case aL=>have:=LMc10.out;omega);intro v238 w25 ho hb hg hat;rw [← Ny237.out] at ho;have n0_:=m_ (blk_grown (g:=gb228) (o:=.cells #[.int .i64 a0_0,.int .i64 a0_1,.int .i64 a0_2,.int .i64 a0_3,.int .i64 a0_4,.int .i64 a0_5,.string a0_6] 26 (0,0)) (by (with_reducible repeat first|apply b1_|apply b2_|apply b3_);exact BK228.out) hg (Kd.R_ne HO235.out BK228.out (by decide)));have n1_:=m_ (hb);have n2_:=m_ (ho);clear BK228;clear HB;clear HO235;have BK228:=n0_;have HB:=n1_;have HO239:=n2_;clear n0_ n1_ n2_;clear ho hb hg hat;obtain ⟨Ao26,co26,eo26⟩:=Kd.R_slice HO239.out;subst eo26)|((with_reducible refine gate_callee (f:=19) rfl ?_);refine goesL_ (some 28) rfl rfl Tryd.func19 (by kernel_rfl) rfl #[.slice Ao26 y237.length co26,.string (⟨#[32]⟩ : ByteArray)] rfl (by (try simp only [List.map_toArray,List.map_cons,List.map_nil]);first|done|rfl|(simp only [List.length_drop,List.length_take];rfl)) ?_;(with_reducible refine (strings_Join.calls _ _ y237 (⟨#[32]⟩ : ByteArray) t240 _ ?side1 ?side2 A11.out).mono ?_);(case side1=>repeat (first|exact (Kd.R_reads' HO239.out).2.2|(with_reducible refine Kd.C_alloc ?_ _)|(with_reducible refine Kd.C_drewN ?_ _)|(with_reducible refine Kd.C_drew ?_)));(case side2=>exact (Kd.R_reads' HO239.out).2.1);rintro e w27 ⟨rfl,hb⟩;refine ⟨_,rfl,?_⟩;have n0_:=m_ (Kd.R_below (by (with_reducible repeat (first|apply Kd.R_alloc|apply Kd.R_drewN|apply Kd.R_drew));exact HO239.out) hb);have n1_:=m_ (blk_below (g:=gb228) (o:=.cells #[.int .i64 a0_0,.int .i64 a0_1,.int .i64 a0_2,.int .i64 a0_3,.int .i64 a0_4,.int .i64 a0_5,.string a0_6] 26 (0,0)) (by (with_reducible repeat first|apply b1_|apply b2_|apply b3_);exact BK228.out) hb);have n2_:=m_ (l5_ (by repeat (first|(with_reducible first|exact HB.out|apply l1_|apply l2_|apply l3_|refine l4_ ?_ GE228.out)|exact HB.out)) hb);clear HO239;clear BK228;clear HB;have HO239:=n0_;have BK228:=n1_;have HB:=n2_;clear n0_ n1_ n2_;(try clear hb);(try clear hb2);(try clear hk);(try clear hi)))
     go_ret
     exact ⟨by first|rfl|(simp [e1_,e2_] <;> rfl)|(simp [*,e1_,e2_] <;> rfl)|(simp [e1_,e2_,pk_empty1,pk_empty2];done)|(simp [*,e1_,e2_,pk_empty1,pk_empty2];done),by repeat (first|(with_reducible first|exact HB.out|apply l1_|apply l2_|apply l3_|refine l4_ ?_ GE228.out)|exact HB.out)⟩
    ·rw [if_neg c10] at H
     exact absurd H (by simp)
   ·rw [if_neg c8] at H
    exact absurd H (by simp)
  ·rw [if_neg c7] at H
   have c7b0 : (a0_0 == 1) = false:=beq_eq_false_iff_ne.mpr c7
   have c7b1 : (a0_0 != 1) = true:=bne_iff_ne.mpr c7
   replace H:=Option.bind_eq_some_iff.mp H
   obtain ⟨t241,A280,H⟩:=H
   replace H : (some t241) = some r:=H
   have A28:=m_ A280
   clear A280
   obtain rfl:=Option.some.inj H
   go_enter Tryd.func8,Tryd.ntmps8
   try go_wp2_with (first|((with_reducible refine gate_dst (N:=1) rfl ?_);refine box_event ?hg (N:=1) ?hd (cs:=#[.int .i64 a0_0,.int .i64 a0_1,.int .i64 a0_2,.int .i64 a0_3,.int .i64 a0_4,.int .i64 a0_5,.string a0_6]) (t:=26) ?hr ?_;(case hd=>rfl);(case hg=>rfl);(case hr=>first|(go_simp;done)|(go_simp;rfl));intro gb228 hg w29 hbox hb;have n0_:=m_ (l5_ (by repeat (first|(with_reducible first|exact HB.out|apply l1_|apply l2_|apply l3_)|exact HB.out)) hb);have n1_:=m_ (hbox);have n2_:=m_ ((by rw [hg];exact (l6_ (by repeat (first|(with_reducible first|exact HB.out|apply l1_|apply l2_|apply l3_)|exact HB.out))) : w.heap.size ≤ gb228));have n3_:=m_ ((by rw [hg];exact (l6_ (by repeat (first|(with_reducible first|exact HB.out|apply l1_|apply l2_|apply l3_)|exact HB.out))) : w.heap.size ≤ gb228));clear HB;have HB:=n0_;have BK228:=n1_;have GW228:=n2_;have GE228:=n3_;clear n0_ n1_ n2_ n3_;clear hb hbox hg;have hcz30_0 : w29.cell? ⟨gb228,0,none⟩ = some (.int .i64 a0_0):=(c_ BK228.out 0).trans rfl;have hcz30_1 : w29.cell? ⟨gb228,1,none⟩ = some (.int .i64 a0_1):=(c_ BK228.out 1).trans rfl;have hcz30_2 : w29.cell? ⟨gb228,2,none⟩ = some (.int .i64 a0_2):=(c_ BK228.out 2).trans rfl;have hcz30_3 : w29.cell? ⟨gb228,3,none⟩ = some (.int .i64 a0_3):=(c_ BK228.out 3).trans rfl;have hcz30_4 : w29.cell? ⟨gb228,4,none⟩ = some (.int .i64 a0_4):=(c_ BK228.out 4).trans rfl;have hcz30_5 : w29.cell? ⟨gb228,5,none⟩ = some (.int .i64 a0_5):=(c_ BK228.out 5).trans rfl;have hcz30_6 : w29.cell? ⟨gb228,6,none⟩ = some (.string a0_6):=(c_ BK228.out 6).trans rfl;have hfz30_0:=f_ BK228.out 0;have hfz30_1:=f_ BK228.out 1;have hfz30_2:=f_ BK228.out 2;have hfz30_3:=f_ BK228.out 3;have hfz30_4:=f_ BK228.out 4;have hfz30_5:=f_ BK228.out 5;have hfz30_6:=f_ BK228.out 6)|((with_reducible refine gate_callee (f:=11) rfl ?_);refine goesL_ (some 5) rfl rfl Tryd.func11 (by kernel_rfl) rfl #[.agg #[.int .i64 a0_0,.int .i64 a0_1,.int .i64 a0_2,.int .i64 a0_3,.int .i64 a0_4,.int .i64 a0_5,.string a0_6]] rfl (by (try simp only [List.map_toArray,List.map_cons,List.map_nil]);first|done|rfl|(simp only [List.length_drop,List.length_take];rfl)) ?_;(with_reducible refine (impl_PktOk.calls a0_0 a0_1 a0_2 a0_3 a0_4 a0_5 a0_6 true _ A2.out).mono ?_);rintro e w31 ⟨rfl,hb⟩;refine ⟨_,rfl,?_⟩;have n0_:=m_ (blk_below (g:=gb228) (o:=.cells #[.int .i64 a0_0,.int .i64 a0_1,.int .i64 a0_2,.int .i64 a0_3,.int .i64 a0_4,.int .i64 a0_5,.string a0_6] 26 (0,0)) (by (with_reducible repeat first|apply b1_|apply b2_|apply b3_);exact BK228.out) hb);have n1_:=m_ (l5_ (by repeat (first|(with_reducible first|exact HB.out|apply l1_|apply l2_|apply l3_|refine l4_ ?_ GE228.out)|exact HB.out)) hb);clear BK228;clear HB;have BK228:=n0_;have HB:=n1_;clear n0_ n1_;(try clear hb);(try clear hb2);(try clear hk);(try clear hi)))
   have n0_:=m_ (b2_ BK228.out)
   have n1_:=m_ (l3_ HB.out)
   clear BK228
   clear HB
   have BK228:=n0_
   have HB:=n1_
   clear n0_ n1_
   refine start_ (n:=11) (S:=fun w'=>w'.cell? ⟨gb228,0,none⟩ = some (.int .i64 a0_0) ∧ w'.cell? ⟨gb228,1,none⟩ = some (.int .i64 a0_1) ∧ w'.cell? ⟨gb228,2,none⟩ = some (.int .i64 a0_2) ∧ w'.cell? ⟨gb228,3,none⟩ = some (.int .i64 a0_3) ∧ w'.cell? ⟨gb228,4,none⟩ = some (.int .i64 a0_4) ∧ w'.cell? ⟨gb228,5,none⟩ = some (.int .i64 a0_5) ∧ w'.cell? ⟨gb228,6,none⟩ = some (.string a0_6)) (ds:=[]) #[false,false,false,false,false,false,false,false,false,false,false] (by kernel_rfl) rfl rfl ⟨(c_ BK228.out 0).trans rfl,(c_ BK228.out 1).trans rfl,(c_ BK228.out 2).trans rfl,(c_ BK228.out 3).trans rfl,(c_ BK228.out 4).trans rfl,(c_ BK228.out 5).trans rfl,(c_ BK228.out 6).trans rfl⟩ (fun hHeld=>?_);refine with_tabW impl_PktText.tab3 impl_PktText.bits3 (fun HT_ HW_=>?_)
   generalize w31.drew = w32 at BK228 HB hHeld ⊢
   refine pure_ (i:=0) (N:=some 7) (v:=?_) (a':=?_) #[true,false,false,false,false,false,false,false,false,false,false] rfl rfl (any_of HT_.out (by kernel_rfl)) (fun _ _ _ h=>h) (Or.inl ⟨by rfl,?_⟩) ?_ ?_
   rotate_left
   ·intro w'
    go_simp
    with_reducible rfl
   rotate_left
   ·simp only [Act.put,s1_,s2_,s3_,i64_w,i32_w]
    rfl
   refine pure_ (i:=3) (N:=some 10) (v:=?_) (a':=?_) #[true,false,false,true,false,false,false,false,false,false,false] rfl rfl (any_of HT_.out (by kernel_rfl)) (fun _ _ _ h=>h) (Or.inl ⟨by rfl,?_⟩) ?_ ?_
   rotate_left
   ·intro w'
    go_simp
    with_reducible rfl
   rotate_left
   ·simp only [Act.put,s1_,s2_,s3_,i64_w,i32_w]
    rfl
   refine pure_ (i:=6) (N:=some 13) (v:=?_) (a':=?_) #[true,false,false,true,false,false,true,false,false,false,false] rfl rfl (any_of HT_.out (by kernel_rfl)) (fun _ _ _ h=>h) (Or.inl ⟨by rfl,?_⟩) ?_ ?_
   rotate_left
   ·intro w'
    go_simp
    with_reducible rfl
   rotate_left
   ·simp only [Act.put,s1_,s2_,s3_,i64_w,i32_w]
    rfl
   refine take_ (i:=1) (N:=some 8) (v:=?_) (a':=?_) #[true,true,false,true,false,false,true,false,false,false,false] rfl rfl (take_ofW HT_.out HW_.out (by kernel_rfl)) (fun _ _ _ h=>h) (Or.inl ⟨by rfl,?_⟩) hHeld ?_ ?_
   rotate_left
   ·rintro w' ⟨s0,s1,s2,s3,s4,s5,s6⟩
    go_simp
    with_reducible rfl
   rotate_left
   ·simp only [Act.put,s1_,s2_,s3_,i64_w,i32_w]
    rfl
   refine take_ (i:=4) (N:=some 11) (v:=?_) (a':=?_) #[true,true,false,true,true,false,true,false,false,false,false] rfl rfl (take_ofW HT_.out HW_.out (by kernel_rfl)) (fun _ _ _ h=>h) (Or.inl ⟨by rfl,?_⟩) hHeld ?_ ?_
   rotate_left
   ·rintro w' ⟨s0,s1,s2,s3,s4,s5,s6⟩
    go_simp
    with_reducible rfl
   rotate_left
   ·simp only [Act.put,s1_,s2_,s3_,i64_w,i32_w]
    rfl
   refine take_ (i:=7) (N:=some 14) (v:=?_) (a':=?_) #[true,true,false,true,true,false,true,true,false,false,false] rfl rfl (take_ofW HT_.out HW_.out (by kernel_rfl)) (fun _ _ _ h=>h) (Or.inl ⟨by rfl,?_⟩) hHeld ?_ ?_
   rotate_left
   ·rintro w' ⟨s0,s1,s2,s3,s4,s5,s6⟩
    go_simp
    with_reducible rfl
   rotate_left
   ·simp only [Act.put,s1_,s2_,s3_,i64_w,i32_w]
    rfl
   refine one_ (i:=2) (N:=some 9) #[true,true,true,true,true,false,true,true,false,false,false] rfl rfl (one_of HT_.out (by kernel_rfl)) (by decide) (fun K hK=>?_)
   refine goes_ Tryd.func17 (by kernel_rfl) rfl #[.agg #[.int .i64 a0_1,.int .i64 a0_2]] (by rfl) rfl rfl (by (try simp only [List.map_toArray,List.map_cons,List.map_nil]);first|done|rfl|(simp only [List.length_drop,List.length_take];rfl)) ?_
   with_reducible refine (impl_EndText.calls a0_1 a0_2 t230 _ A4.out).mono ?_
   rintro e w33 ⟨rfl,hb⟩
   refine ⟨_,rfl,?_⟩
   have n0_:=m_ (blk_below (g:=gb228) (o:=.cells #[.int .i64 a0_0,.int .i64 a0_1,.int .i64 a0_2,.int .i64 a0_3,.int .i64 a0_4,.int .i64 a0_5,.string a0_6] 26 (0,0)) (by (with_reducible repeat first|apply b1_|apply b2_|apply b3_);exact BK228.out) hb)
   have n1_:=m_ (l5_ (by repeat (first|(with_reducible first|exact HB.out|apply l1_|apply l2_|apply l3_|refine l4_ ?_ GE228.out)|exact HB.out)) hb)
   clear BK228
   clear HB
   have BK228:=n0_
   have HB:=n1_
   clear n0_ n1_
   (try clear hb)
   (try clear hb2)
   (try clear hk)
   (try clear hi)
   refine hK.out _ _ ⟨(c_ BK228.out 0).trans rfl,(c_ BK228.out 1).trans rfl,(c_ BK228.out 2).trans rfl,(c_ BK228.out 3).trans rfl,(c_ BK228.out 4).trans rfl,(c_ BK228.out 5).trans rfl,(c_ BK228.out 6).trans rfl⟩ (fun hHeld=>?_)
   clear hK K
   refine norm_ (a':=?_) ?_ ?_
   rotate_left
   ·show Act.put _ (some 9) _ = _
    simp only [Act.put,s1_,s2_,s3_,i64_w,i32_w]
    rfl
   refine one_ (i:=5) (N:=some 12) #[true,true,true,true,true,true,true,true,false,false,false] rfl rfl (one_of HT_.out (by kernel_rfl)) (by decide) (fun K hK=>?_)
   refine goes_ Tryd.func17 (by kernel_rfl) rfl #[.agg #[.int .i64 a0_3,.int .i64 a0_4]] (by rfl) rfl rfl (by (try simp only [List.map_toArray,List.map_cons,List.map_nil]);first|done|rfl|(simp only [List.length_drop,List.length_take];rfl)) ?_
   with_reducible refine (impl_EndText.calls a0_3 a0_4 t231 _ A5.out).mono ?_
   rintro e w34 ⟨rfl,hb⟩
   refine ⟨_,rfl,?_⟩
   have n0_:=m_ (blk_below (g:=gb228) (o:=.cells #[.int .i64 a0_0,.int .i64 a0_1,.int .i64 a0_2,.int .i64 a0_3,.int .i64 a0_4,.int .i64 a0_5,.string a0_6] 26 (0,0)) (by (with_reducible repeat first|apply b1_|apply b2_|apply b3_);exact BK228.out) hb)
   have n1_:=m_ (l5_ (by repeat (first|(with_reducible first|exact HB.out|apply l1_|apply l2_|apply l3_|refine l4_ ?_ GE228.out)|exact HB.out)) hb)
   clear BK228
   clear HB
   have BK228:=n0_
   have HB:=n1_
   clear n0_ n1_
   (try clear hb)
   (try clear hb2)
   (try clear hk)
   (try clear hi)
   refine hK.out _ _ ⟨(c_ BK228.out 0).trans rfl,(c_ BK228.out 1).trans rfl,(c_ BK228.out 2).trans rfl,(c_ BK228.out 3).trans rfl,(c_ BK228.out 4).trans rfl,(c_ BK228.out 5).trans rfl,(c_ BK228.out 6).trans rfl⟩ (fun hHeld=>?_)
   clear hK K
   refine norm_ (a':=?_) ?_ ?_
   rotate_left
   ·show Act.put _ (some 12) _ = _
    simp only [Act.put,s1_,s2_,s3_,i64_w,i32_w]
    rfl
   refine one_ (i:=8) (N:=some 15) #[true,true,true,true,true,true,true,true,true,false,false] rfl rfl (one_of HT_.out (by kernel_rfl)) (by decide) (fun K hK=>?_)
   refine goes_ Tryd.func18 (by kernel_rfl) rfl #[.int .i64 a0_5] (by rfl) rfl rfl (by (try simp only [List.map_toArray,List.map_cons,List.map_nil]);first|done|rfl|(simp only [List.length_drop,List.length_take];rfl)) ?_
   with_reducible refine (strconv_Itoa.calls a0_5 t232 _ A6.out).mono ?_
   rintro e w35 ⟨rfl,hb⟩
   refine ⟨_,rfl,?_⟩
   have n0_:=m_ (blk_below (g:=gb228) (o:=.cells #[.int .i64 a0_0,.int .i64 a0_1,.int .i64 a0_2,.int .i64 a0_3,.int .i64 a0_4,.int .i64 a0_5,.string a0_6] 26 (0,0)) (by (with_reducible repeat first|apply b1_|apply b2_|apply b3_);exact BK228.out) hb)
   have n1_:=m_ (l5_ (by repeat (first|(with_reducible first|exact HB.out|apply l1_|apply l2_|apply l3_|refine l4_ ?_ GE228.out)|exact HB.out)) hb)
   clear BK228
   clear HB
   have BK228:=n0_
   have HB:=n1_
   clear n0_ n1_
   (try clear hb)
   (try clear hb2)
   (try clear hk)
   (try clear hi)
   refine hK.out _ _ ⟨(c_ BK228.out 0).trans rfl,(c_ BK228.out 1).trans rfl,(c_ BK228.out 2).trans rfl,(c_ BK228.out 3).trans rfl,(c_ BK228.out 4).trans rfl,(c_ BK228.out 5).trans rfl,(c_ BK228.out 6).trans rfl⟩ (fun hHeld=>?_)
   clear hK K
   refine norm_ (a':=?_) ?_ ?_
   rotate_left
   ·show Act.put _ (some 15) _ = _
    simp only [Act.put,s1_,s2_,s3_,i64_w,i32_w]
    rfl
   refine one_ (i:=9) (N:=some 16) #[true,true,true,true,true,true,true,true,true,true,false] rfl rfl (one_of HT_.out (by kernel_rfl)) (by decide) (fun K hK=>?_)
   refine Kd.R_lit_step Kd.string _ 9 ?hg (N:=16) ?hd (xs:=([(⟨#[97,99,107]⟩ : ByteArray),t230,t231,t232] : List ByteArray)) (inner:=[.string (⟨#[97,99,107]⟩ : ByteArray),.string t230,.string t231,.string t232]) (ok:=fun _=>True) (okp:=fun _=>True) ?hr ?hp (fun _ hk=>hk) trivial (Below.refl _ _) (Nat.le_refl _) (by simp) ?_;(case hd=>rfl);(case hg=>rfl);(case hr=>first|(go_simp;done)|(go_simp;rfl));(case hp=>exact (Reps.one (show Kd.M Kd.string _ _ _ (⟨#[97,99,107]⟩ : ByteArray) [.string (⟨#[97,99,107]⟩ : ByteArray)] from rfl) (Reps.one (show Kd.M Kd.string _ _ _ t230 [.string t230] from rfl) (Reps.one (show Kd.M Kd.string _ _ _ t231 [.string t231] from rfl) (Reps.one (show Kd.M Kd.string _ _ _ t232 [.string t232] from rfl) (Reps.none _ _))))))
   intro v234 w36 ho37 hb hg_ hnew_
   clear hg_ hnew_
   (first|rw [← Ny233.out] at ho37|(simp only [Int.reduceToNat] at ho37;rw [← Ny233.out] at ho37))
   have n0_:=m_ (Kd.R_lower ho37 (l6_ (by repeat (first|(with_reducible first|exact HB.out|apply l1_|apply l2_|apply l3_|refine l4_ ?_ GE228.out)|exact HB.out))))
   have n1_:=m_ (blk_below (g:=gb228) (o:=.cells #[.int .i64 a0_0,.int .i64 a0_1,.int .i64 a0_2,.int .i64 a0_3,.int .i64 a0_4,.int .i64 a0_5,.string a0_6] 26 (0,0)) (by (with_reducible repeat first|apply b1_|apply b2_|apply b3_);exact BK228.out) hb)
   have n2_:=m_ (l5_ (by repeat (first|(with_reducible first|exact HB.out|apply l1_|apply l2_|apply l3_|refine l4_ ?_ GE228.out)|exact HB.out)) hb)
   clear BK228
   clear HB
   have HO235:=n0_
   have BK228:=n1_
   have HB:=n2_
   clear n0_ n1_ n2_
   clear hb ho37
   refine hK.out _ _ ⟨(c_ BK228.out 0).trans rfl,(c_ BK228.out 1).trans rfl,(c_ BK228.out 2).trans rfl,(c_ BK228.out 3).trans rfl,(c_ BK228.out 4).trans rfl,(c_ BK228.out 5).trans rfl,(c_ BK228.out 6).trans rfl⟩ (fun hHeld=>?_)
   clear hK K
   refine norm_ (a':=?_) ?_ ?_
   rotate_left
   ·show Act.put _ (some 16) _ = _
    simp only [Act.put,s1_,s2_,s3_,i64_w,i32_w]
    rfl
   refine pure_ (i:=10) (N:=some 3) (v:=?_) (a':=?_) #[true,true,true,true,true,true,true,true,true,true,true] rfl rfl (any_of HT_.out (by kernel_rfl)) (fun _ _ _ h=>h) (Or.inl ⟨by rfl,?_⟩) ?_ ?_
   rotate_left
   ·intro w'
    go_simp
    with_reducible rfl
   rotate_left
   ·simp only [Act.put,s1_,s2_,s3_,i64_w,i32_w]
    rfl
   refine done_ (done_of HT_.out (by kernel_rfl)) ?_
   have hcz38_0 : w36.cell? ⟨gb228,0,none⟩ = some (.int .i64 a0_0):=(c_ BK228.out 0).trans rfl
   have hcz38_1 : w36.cell? ⟨gb228,1,none⟩ = some (.int .i64 a0_1):=(c_ BK228.out 1).trans rfl
   have hcz38_2 : w36.cell? ⟨gb228,2,none⟩ = some (.int .i64 a0_2):=(c_ BK228.out 2).trans rfl
   have hcz38_3 : w36.cell? ⟨gb228,3,none⟩ = some (.int .i64 a0_3):=(c_ BK228.out 3).trans rfl
   have hcz38_4 : w36.cell? ⟨gb228,4,none⟩ = some (.int .i64 a0_4):=(c_ BK228.out 4).trans rfl
   have hcz38_5 : w36.cell? ⟨gb228,5,none⟩ = some (.int .i64 a0_5):=(c_ BK228.out 5).trans rfl
   have hcz38_6 : w36.cell? ⟨gb228,6,none⟩ = some (.string a0_6):=(c_ BK228.out 6).trans rfl
   have hfz38_0:=f_ BK228.out 0
   have hfz38_1:=f_ BK228.out 1
   have hfz38_2:=f_ BK228.out 2
   have hfz38_3:=f_ BK228.out 3
   have hfz38_4:=f_ BK228.out 4
   have hfz38_5:=f_ BK228.out 5
   have hfz38_6:=f_ BK228.out 6
   obtain ⟨Ao39,co39,eo39⟩:=Kd.R_slice HO235.out
   subst eo39
   try go_wp2_with (first|((with_reducible refine gate_callee (f:=19) rfl ?_);refine goesL_ (some 28) rfl rfl Tryd.func19 (by kernel_rfl) rfl #[.slice Ao39 y233.length co39,.string (⟨#[32]⟩ : ByteArray)] rfl (by (try simp only [List.map_toArray,List.map_cons,List.map_nil]);first|done|rfl|(simp only [List.length_drop,List.length_take];rfl)) ?_;(with_reducible refine (strings_Join.calls _ _ y233 (⟨#[32]⟩ : ByteArray) t241 _ ?side1 ?side2 A28.out).mono ?_);(case side1=>repeat (first|exact (Kd.R_reads' HO235.out).2.2|(with_reducible refine Kd.C_alloc ?_ _)|(with_reducible refine Kd.C_drewN ?_ _)|(with_reducible refine Kd.C_drew ?_)));(case side2=>exact (Kd.R_reads' HO235.out).2.1);rintro e w40 ⟨rfl,hb⟩;refine ⟨_,rfl,?_⟩;have n0_:=m_ (Kd.R_below (by (with_reducible repeat (first|apply Kd.R_alloc|apply Kd.R_drewN|apply Kd.R_drew));exact HO235.out) hb);have n1_:=m_ (blk_below (g:=gb228) (o:=.cells #[.int .i64 a0_0,.int .i64 a0_1,.int .i64 a0_2,.int .i64 a0_3,.int .i64 a0_4,.int .i64 a0_5,.string a0_6] 26 (0,0)) (by (with_reducible repeat first|apply b1_|apply b2_|apply b3_);exact BK228.out) hb);have n2_:=m_ (l5_ (by repeat (first|(with_reducible first|exact HB.out|apply l1_|apply l2_|apply l3_|refine l4_ ?_ GE228.out)|exact HB.out)) hb);clear HO235;clear BK228;clear HB;have HO235:=n0_;have BK228:=n1_;have HB:=n2_;clear n0_ n1_ n2_;(try clear hb);(try clear hb2);(try clear hk);(try clear hi)))
   go_ret
   exact ⟨by first|rfl|(simp [e1_,e2_] <;> rfl)|(simp [*,e1_,e2_] <;> rfl)|(simp [e1_,e2_,pk_empty1,pk_empty2];done)|(simp [*,e1_,e2_,pk_empty1,pk_empty2];done),by repeat (first|(with_reducible first|exact HB.out|apply l1_|apply l2_|apply l3_|refine l4_ ?_ GE228.out)|exact HB.out)⟩
 ·replace c3:=Bool.eq_false_iff.mpr c3
  subst c3
  have H1 : (some (⟨#[]⟩ : ByteArray)) = some r:=by rw [if_neg (show ¬ (false = true) by decide)] at H;exact H
  clear H
  have H:=H1
  clear H1
  obtain rfl:=Option.some.inj H
  go_enter Tryd.func8,Tryd.ntmps8
  go_wp2_with (first|((with_reducible refine gate_dst (N:=1) rfl ?_);refine box_event ?hg (N:=1) ?hd (cs:=#[.int .i64 a0_0,.int .i64 a0_1,.int .i64 a0_2,.int .i64 a0_3,.int .i64 a0_4,.int .i64 a0_5,.string a0_6]) (t:=26) ?hr ?_;(case hd=>rfl);(case hg=>rfl);(case hr=>first|(go_simp;done)|(go_simp;rfl));intro gb228 hg w41 hbox hb;have n0_:=m_ (l5_ (by repeat (first|(with_reducible first|exact HB.out|apply l1_|apply l2_|apply l3_)|exact HB.out)) hb);have n1_:=m_ (hbox);have n2_:=m_ ((by rw [hg];exact (l6_ (by repeat (first|(with_reducible first|exact HB.out|apply l1_|apply l2_|apply l3_)|exact HB.out))) : w.heap.size ≤ gb228));have n3_:=m_ ((by rw [hg];exact (l6_ (by repeat (first|(with_reducible first|exact HB.out|apply l1_|apply l2_|apply l3_)|exact HB.out))) : w.heap.size ≤ gb228));clear HB;have HB:=n0_;have BK228:=n1_;have GW228:=n2_;have GE228:=n3_;clear n0_ n1_ n2_ n3_;clear hb hbox hg;have hcz42_0 : w41.cell? ⟨gb228,0,none⟩ = some (.int .i64 a0_0):=(c_ BK228.out 0).trans rfl;have hcz42_1 : w41.cell? ⟨gb228,1,none⟩ = some (.int .i64 a0_1):=(c_ BK228.out 1).trans rfl;have hcz42_2 : w41.cell? ⟨gb228,2,none⟩ = some (.int .i64 a0_2):=(c_ BK228.out 2).trans rfl;have hcz42_3 : w41.cell? ⟨gb228,3,none⟩ = some (.int .i64 a0_3):=(c_ BK228.out 3).trans rfl;have hcz42_4 : w41.cell? ⟨gb228,4,none⟩ = some (.int .i64 a0_4):=(c_ BK228.out 4).trans rfl;have hcz42_5 : w41.cell? ⟨gb228,5,none⟩ = some (.int .i64 a0_5):=(c_ BK228.out 5).trans rfl;have hcz42_6 : w41.cell? ⟨gb228,6,none⟩ = some (.string a0_6):=(c_ BK228.out 6).trans rfl;have hfz42_0:=f_ BK228.out 0;have hfz42_1:=f_ BK228.out 1;have hfz42_2:=f_ BK228.out 2;have hfz42_3:=f_ BK228.out 3;have hfz42_4:=f_ BK228.out 4;have hfz42_5:=f_ BK228.out 5;have hfz42_6:=f_ BK228.out 6)|((with_reducible refine gate_callee (f:=11) rfl ?_);refine goesL_ (some 5) rfl rfl Tryd.func11 (by kernel_rfl) rfl #[.agg #[.int .i64 a0_0,.int .i64 a0_1,.int .i64 a0_2,.int .i64 a0_3,.int .i64 a0_4,.int .i64 a0_5,.string a0_6]] rfl (by (try simp only [List.map_toArray,List.map_cons,List.map_nil]);first|done|rfl|(simp only [List.length_drop,List.length_take];rfl)) ?_;(with_reducible refine (impl_PktOk.calls a0_0 a0_1 a0_2 a0_3 a0_4 a0_5 a0_6 false _ A2.out).mono ?_);rintro e w43 ⟨rfl,hb⟩;refine ⟨_,rfl,?_⟩;have n0_:=m_ (blk_below (g:=gb228) (o:=.cells #[.int .i64 a0_0,.int .i64 a0_1,.int .i64 a0_2,.int .i64 a0_3,.int .i64 a0_4,.int .i64 a0_5,.string a0_6] 26 (0,0)) (by (with_reducible repeat first|apply b1_|apply b2_|apply b3_);exact BK228.out) hb);have n1_:=m_ (l5_ (by repeat (first|(with_reducible first|exact HB.out|apply l1_|apply l2_|apply l3_|refine l4_ ?_ GE228.out)|exact HB.out)) hb);clear BK228;clear HB;have BK228:=n0_;have HB:=n1_;clear n0_ n1_;(try clear hb);(try clear hb2);(try clear hk);(try clear hi)))
  go_ret
  exact ⟨by first|rfl|(simp [e1_,e2_] <;> rfl)|(simp [*,e1_,e2_] <;> rfl)|(simp [e1_,e2_,pk_empty1,pk_empty2];done)|(simp [*,e1_,e2_,pk_empty1,pk_empty2];done),by repeat (first|(with_reducible first|exact HB.out|apply l1_|apply l2_|apply l3_|refine l4_ ?_ GE228.out)|exact HB.out)⟩

/-! ### spec_l2Byte: function 61 -/
def spec_l2Byte.f (a0 : Int) : Option (Bool) := if a0 ≥ 97 then (if a0 ≤ 122 then (some true) else (if a0 ≥ 48 then (if a0 ≤ 57 then (some true) else (if a0 = 64 then (some true) else (if a0 = 58 then (some true) else (some (a0 == 59))))) else (if a0 = 64 then (some true) else (if a0 = 58 then (some true) else (some (a0 == 59)))))) else (if a0 ≥ 48 then (if a0 ≤ 57 then (some true) else (if a0 = 64 then (some true) else (if a0 = 58 then (some true) else (some (a0 == 59))))) else (if a0 = 64 then (some true) else (if a0 = 58 then (some true) else (some (a0 == 59)))))
set_option maxHeartbeats 8000000 in
set_option maxRecDepth 100000 in
theorem spec_l2Byte.calls (a0 : Int) (r : Bool) (w : World) (h : spec_l2Byte.f a0 = some r) :
  Calls Tryd.prog 61 #[.int .u8 a0] w fun e w'=>e = .returned (.bool r) ∧ Drawn0 w w':=by
 have H : (if a0 ≥ 97 then (if a0 ≤ 122 then (some true) else (if a0 ≥ 48 then (if a0 ≤ 57 then (some true) else (if a0 = 64 then (some true) else (if a0 = 58 then (some true) else (some (a0 == 59))))) else (if a0 = 64 then (some true) else (if a0 = 58 then (some true) else (some (a0 == 59)))))) else (if a0 ≥ 48 then (if a0 ≤ 57 then (some true) else (if a0 = 64 then (some true) else (if a0 = 58 then (some true) else (some (a0 == 59))))) else (if a0 = 64 then (some true) else (if a0 = 58 then (some true) else (some (a0 == 59)))))) = some r:=h
 clear h
 by_cases c2 : a0 ≥ 97
 ·rw [if_pos c2] at H
  have c2b0 : decide (97 ≤ a0) = true:=decide_eq_true c2
  clear c2
  by_cases c3 : a0 ≤ 122
  ·rw [if_pos c3] at H
   have c3b0 : decide (a0 ≤ 122) = true:=decide_eq_true c3
   clear c3
   obtain rfl:=Option.some.inj H
   go_enter Tryd.func61,Tryd.ntmps61
   go_wp2
   go_ret
   exact ⟨by first|rfl|(simp;done)|(simp [*];done),by repeat (first|exact Drawn0.refl _|apply Drawn0.step)⟩
  ·rw [if_neg c3] at H
   have c3b0 : decide (a0 ≤ 122) = false:=decide_eq_false c3
   clear c3
   by_cases c4 : a0 ≥ 48
   ·rw [if_pos c4] at H
    have c4b0 : decide (48 ≤ a0) = true:=decide_eq_true c4
    clear c4
    by_cases c5 : a0 ≤ 57
    ·rw [if_pos c5] at H
     have c5b0 : decide (a0 ≤ 57) = true:=decide_eq_true c5
     clear c5
     obtain rfl:=Option.some.inj H
     go_enter Tryd.func61,Tryd.ntmps61
     go_wp2
     go_ret
     exact ⟨by first|rfl|(simp;done)|(simp [*];done),by repeat (first|exact Drawn0.refl _|apply Drawn0.step)⟩
    ·rw [if_neg c5] at H
     have c5b0 : decide (a0 ≤ 57) = false:=decide_eq_false c5
     clear c5
     by_cases c6 : a0 = 64
     ·rw [if_pos c6] at H
      have c6b0 : (a0 == 64) = true:=beq_iff_eq.mpr c6
      have c6b1 : (a0 != 64) = false:=bne_eq_false_iff_eq.mpr c6
      clear c6
      obtain rfl:=Option.some.inj H
      go_enter Tryd.func61,Tryd.ntmps61
      go_wp2
      go_ret
      exact ⟨by first|rfl|(simp;done)|(simp [*];done),by repeat (first|exact Drawn0.refl _|apply Drawn0.step)⟩
     ·rw [if_neg c6] at H
      have c6b0 : (a0 == 64) = false:=beq_eq_false_iff_ne.mpr c6
      have c6b1 : (a0 != 64) = true:=bne_iff_ne.mpr c6
      by_cases c7 : a0 = 58
      ·rw [if_pos c7] at H
       have c7b0 : (a0 == 58) = true:=beq_iff_eq.mpr c7
       have c7b1 : (a0 != 58) = false:=bne_eq_false_iff_eq.mpr c7
       clear c7
       obtain rfl:=Option.some.inj H
       go_enter Tryd.func61,Tryd.ntmps61
       go_wp2
       go_ret
       exact ⟨by first|rfl|(simp;done)|(simp [*];done),by repeat (first|exact Drawn0.refl _|apply Drawn0.step)⟩
      ·rw [if_neg c7] at H
       have c7b0 : (a0 == 58) = false:=beq_eq_false_iff_ne.mpr c7
       have c7b1 : (a0 != 58) = true:=bne_iff_ne.mpr c7
       obtain rfl:=Option.some.inj H
       go_enter Tryd.func61,Tryd.ntmps61
       go_wp2
       go_ret
       exact ⟨by first|rfl|(simp;done)|(simp [*];done),by repeat (first|exact Drawn0.refl _|apply Drawn0.step)⟩
   ·rw [if_neg c4] at H
    have c4b0 : decide (48 ≤ a0) = false:=decide_eq_false c4
    clear c4
    by_cases c8 : a0 = 64
    ·rw [if_pos c8] at H
     have c8b0 : (a0 == 64) = true:=beq_iff_eq.mpr c8
     have c8b1 : (a0 != 64) = false:=bne_eq_false_iff_eq.mpr c8
     clear c8
     obtain rfl:=Option.some.inj H
     go_enter Tryd.func61,Tryd.ntmps61
     go_wp2
     go_ret
     exact ⟨by first|rfl|(simp;done)|(simp [*];done),by repeat (first|exact Drawn0.refl _|apply Drawn0.step)⟩
    ·rw [if_neg c8] at H
     have c8b0 : (a0 == 64) = false:=beq_eq_false_iff_ne.mpr c8
     have c8b1 : (a0 != 64) = true:=bne_iff_ne.mpr c8
     by_cases c9 : a0 = 58
     ·rw [if_pos c9] at H
      have c9b0 : (a0 == 58) = true:=beq_iff_eq.mpr c9
      have c9b1 : (a0 != 58) = false:=bne_eq_false_iff_eq.mpr c9
      clear c9
      obtain rfl:=Option.some.inj H
      go_enter Tryd.func61,Tryd.ntmps61
      go_wp2
      go_ret
      exact ⟨by first|rfl|(simp;done)|(simp [*];done),by repeat (first|exact Drawn0.refl _|apply Drawn0.step)⟩
     ·rw [if_neg c9] at H
      have c9b0 : (a0 == 58) = false:=beq_eq_false_iff_ne.mpr c9
      have c9b1 : (a0 != 58) = true:=bne_iff_ne.mpr c9
      obtain rfl:=Option.some.inj H
      go_enter Tryd.func61,Tryd.ntmps61
      go_wp2
      go_ret
      exact ⟨by first|rfl|(simp;done)|(simp [*];done),by repeat (first|exact Drawn0.refl _|apply Drawn0.step)⟩
 ·rw [if_neg c2] at H
  have c2b0 : decide (97 ≤ a0) = false:=decide_eq_false c2
  clear c2
  by_cases c10 : a0 ≥ 48
  ·rw [if_pos c10] at H
   have c10b0 : decide (48 ≤ a0) = true:=decide_eq_true c10
   clear c10
   by_cases c11 : a0 ≤ 57
   ·rw [if_pos c11] at H
    have c11b0 : decide (a0 ≤ 57) = true:=decide_eq_true c11
    clear c11
    obtain rfl:=Option.some.inj H
    go_enter Tryd.func61,Tryd.ntmps61
    go_wp2
    go_ret
    exact ⟨by first|rfl|(simp;done)|(simp [*];done),by repeat (first|exact Drawn0.refl _|apply Drawn0.step)⟩
   ·rw [if_neg c11] at H
    have c11b0 : decide (a0 ≤ 57) = false:=decide_eq_false c11
    clear c11
    by_cases c12 : a0 = 64
    ·rw [if_pos c12] at H
     have c12b0 : (a0 == 64) = true:=beq_iff_eq.mpr c12
     have c12b1 : (a0 != 64) = false:=bne_eq_false_iff_eq.mpr c12
     clear c12
     obtain rfl:=Option.some.inj H
     go_enter Tryd.func61,Tryd.ntmps61
     go_wp2
     go_ret
     exact ⟨by first|rfl|(simp;done)|(simp [*];done),by repeat (first|exact Drawn0.refl _|apply Drawn0.step)⟩
    ·rw [if_neg c12] at H
     have c12b0 : (a0 == 64) = false:=beq_eq_false_iff_ne.mpr c12
     have c12b1 : (a0 != 64) = true:=bne_iff_ne.mpr c12
     by_cases c13 : a0 = 58
     ·rw [if_pos c13] at H
      have c13b0 : (a0 == 58) = true:=beq_iff_eq.mpr c13
      have c13b1 : (a0 != 58) = false:=bne_eq_false_iff_eq.mpr c13
      clear c13
      obtain rfl:=Option.some.inj H
      go_enter Tryd.func61,Tryd.ntmps61
      go_wp2
      go_ret
      exact ⟨by first|rfl|(simp;done)|(simp [*];done),by repeat (first|exact Drawn0.refl _|apply Drawn0.step)⟩
     ·rw [if_neg c13] at H
      have c13b0 : (a0 == 58) = false:=beq_eq_false_iff_ne.mpr c13
      have c13b1 : (a0 != 58) = true:=bne_iff_ne.mpr c13
      obtain rfl:=Option.some.inj H
      go_enter Tryd.func61,Tryd.ntmps61
      go_wp2
      go_ret
      exact ⟨by first|rfl|(simp;done)|(simp [*];done),by repeat (first|exact Drawn0.refl _|apply Drawn0.step)⟩
  ·rw [if_neg c10] at H
   have c10b0 : decide (48 ≤ a0) = false:=decide_eq_false c10
   clear c10
   by_cases c14 : a0 = 64
   ·rw [if_pos c14] at H
    have c14b0 : (a0 == 64) = true:=beq_iff_eq.mpr c14
    have c14b1 : (a0 != 64) = false:=bne_eq_false_iff_eq.mpr c14
    clear c14
    obtain rfl:=Option.some.inj H
    go_enter Tryd.func61,Tryd.ntmps61
    go_wp2
    go_ret
    exact ⟨by first|rfl|(simp;done)|(simp [*];done),by repeat (first|exact Drawn0.refl _|apply Drawn0.step)⟩
   ·rw [if_neg c14] at H
    have c14b0 : (a0 == 64) = false:=beq_eq_false_iff_ne.mpr c14
    have c14b1 : (a0 != 64) = true:=bne_iff_ne.mpr c14
    by_cases c15 : a0 = 58
    ·rw [if_pos c15] at H
     have c15b0 : (a0 == 58) = true:=beq_iff_eq.mpr c15
     have c15b1 : (a0 != 58) = false:=bne_eq_false_iff_eq.mpr c15
     clear c15
     obtain rfl:=Option.some.inj H
     go_enter Tryd.func61,Tryd.ntmps61
     go_wp2
     go_ret
     exact ⟨by first|rfl|(simp;done)|(simp [*];done),by repeat (first|exact Drawn0.refl _|apply Drawn0.step)⟩
    ·rw [if_neg c15] at H
     have c15b0 : (a0 == 58) = false:=beq_eq_false_iff_ne.mpr c15
     have c15b1 : (a0 != 58) = true:=bne_iff_ne.mpr c15
     obtain rfl:=Option.some.inj H
     go_enter Tryd.func61,Tryd.ntmps61
     go_wp2
     go_ret
     exact ⟨by first|rfl|(simp;done)|(simp [*];done),by repeat (first|exact Drawn0.refl _|apply Drawn0.step)⟩

/-! ### spec_TextOk: function 44 -/
def spec_TextOk.l0 : Nat → ByteArray → Int → Option (Bool)
 | 0, _, _ => none
 | k + 1, x0, x3 => if x3 < (x0.size : Int) then (if 0 ≤ x3 then ((spec_l2Byte.f (bt x0 x3)).bind fun t242 => (if t242 = true then (spec_TextOk.l0 k x0 (wrap64 (x3 + 1))) else (some false))) else (none)) else (some (decide ((x0.size : Int) ≤ 40)))
def spec_TextOk.f (k : Nat) (a0 : ByteArray) : Option (Bool) := spec_TextOk.l0 k a0 0
theorem spec_TextOk.mono_l : ∀ k, (∀ y0 y1, LeO (spec_TextOk.l0 k y0 y1) (spec_TextOk.l0 (k + 1) y0 y1))
 | 0 => fun _ _ r h => by simp [spec_TextOk.l0] at h
 | k + 1 => by
  have ih0:=spec_TextOk.mono_l k
  ·intro y0 y1
   unfold spec_TextOk.l0
   repeat' first
   | (with_reducible exact ih0 _ _)
   | (with_reducible exact LeO.refl _)
   | (with_reducible exact LeO.none _)
   | (with_reducible refine LeO.ite ?_ ?_)
   | (with_reducible refine LeO.bind ?_ (fun _ => ?_))
   | exact ih0 _ _
   | exact LeO.none _
   | refine LeO.ite ?_ ?_
   | refine LeO.bind ?_ (fun _ => ?_)
theorem spec_TextOk.mono : ∀ a0 k, LeO (spec_TextOk.f k a0) (spec_TextOk.f (k + 1) a0) := by
 intro a0 k
 have ih0:=spec_TextOk.mono_l k
 unfold spec_TextOk.f
 repeat' first
   | (with_reducible exact ih0 _ _)
   | (with_reducible exact LeO.refl _)
   | (with_reducible exact LeO.none _)
   | (with_reducible refine LeO.ite ?_ ?_)
   | (with_reducible refine LeO.bind ?_ (fun _ => ?_))
   | exact ih0 _ _
   | exact LeO.none _
   | refine LeO.ite ?_ ?_
   | refine LeO.bind ?_ (fun _ => ?_)
set_option maxHeartbeats 8000000 in
set_option maxRecDepth 100000 in
theorem spec_TextOk.calls (k : Nat) (a0 : ByteArray) (r : Bool) (w : World) (h : spec_TextOk.f k a0 = some r) :
  Calls Tryd.prog 44 #[.string a0] w fun e w'=>e = .returned (.bool r) ∧ Drawn0 w w':=by
 have H : (spec_TextOk.l0 k a0 0) = some r:=h
 clear h
 have H':=m_ H
 clear H
 go_enter Tryd.func44,Tryd.ntmps44
 go_wp2
 go_loopg [3] k (fun kq v3 w'=>∃ (x3_1 : Int),v3 = .int .i64 x3_1 ∧ Aside0 (spec_TextOk.l0 kq a0 x3_1 = some r) ∧ Aside0 (kq ≤ k) ∧ Drawn0 w w')
 case atStart=>exact ⟨(0),(by first|rfl|(simp;done)|(simp [*];done)),H',⟨Nat.le_refl _⟩,by repeat (first|exact Drawn0.refl _|apply Drawn0.step)⟩
 case round =>
  clear H'
  obtain ⟨x3_1,rfl,HA,HK1,⟨m1,rfl⟩⟩:=hrel
  cases gk with
  | zero => exact absurd HA.out (by simp [spec_TextOk.l0])
  | succ k1 =>
   have H:=HA.out
   clear HA
   simp only [spec_TextOk.l0] at H
   by_cases c2 : x3_1 < (a0.size : Int)
   ·rw [if_pos c2] at H
    have c2b0 : decide (x3_1 < (a0.size : Int)) = true:=decide_eq_true c2
    clear c2
    by_cases c3 : 0 ≤ x3_1
    ·rw [if_pos c3] at H
     have c3b0 : decide (0 ≤ x3_1) = true:=decide_eq_true c3
     clear c3
     replace H:=Option.bind_eq_some_iff.mp H
     obtain ⟨t242,A50,H⟩:=H
     replace H : (if t242 = true then (spec_TextOk.l0 k1 a0 (wrap64 (x3_1 + 1))) else (some false)) = some r:=H
     have A5:=m_ A50
     clear A50
     by_cases c6 : t242 = true
     ·subst c6
      have H1 : (spec_TextOk.l0 k1 a0 (wrap64 (x3_1 + 1))) = some r:=by rw [if_pos rfl] at H;exact H
      clear H
      have H:=H1
      clear H1
      have H':=m_ H
      clear H
      have p4 : 0 ≤ (x3_1 : Int):=of_decide_eq_true (by first|(with_reducible assumption)|assumption)
      have q4 : x3_1 < (a0.size : Int):=of_decide_eq_true (by first|(with_reducible assumption)|assumption)
      have hx4:=bt_at a0 x3_1
      replace p4:=eq_true p4
      replace q4:=eq_true q4
      go_wp2_with (first|((with_reducible refine gate_callee (f:=61) rfl ?_);refine goesL_ (some 13) rfl rfl Tryd.func61 (by kernel_rfl) rfl #[.int .u8 (bt a0 x3_1)] rfl (by (try simp only [List.map_toArray,List.map_cons,List.map_nil]);first|done|rfl|(simp only [List.length_drop,List.length_take];rfl)) ?_;(with_reducible refine (spec_l2Byte.calls (bt a0 x3_1) true _ A5.out).mono ?_);rintro e w' ⟨rfl,⟨nd,rfl⟩⟩;refine ⟨_,rfl,?_⟩))
      go_roundg k1
      case measure=>have:=HK1.out;omega
      case rel=>exact ⟨(wrap64 (x3_1 + 1)),(by first|rfl|(simp;done)|(simp [*];done)),H',⟨by have:=HK1.out;omega⟩,by repeat (first|exact Drawn0.refl _|apply Drawn0.step)⟩
     ·replace c6:=Bool.eq_false_iff.mpr c6
      subst c6
      have H1 : (some false) = some r:=by rw [if_neg (show ¬ (false = true) by decide)] at H;exact H
      clear H
      have H:=H1
      clear H1
      obtain rfl:=Option.some.inj H
      have p4 : 0 ≤ (x3_1 : Int):=of_decide_eq_true (by first|(with_reducible assumption)|assumption)
      have q4 : x3_1 < (a0.size : Int):=of_decide_eq_true (by first|(with_reducible assumption)|assumption)
      have hx4:=bt_at a0 x3_1
      replace p4:=eq_true p4
      replace q4:=eq_true q4
      go_wp2_with (first|((with_reducible refine gate_callee (f:=61) rfl ?_);refine goesL_ (some 13) rfl rfl Tryd.func61 (by kernel_rfl) rfl #[.int .u8 (bt a0 x3_1)] rfl (by (try simp only [List.map_toArray,List.map_cons,List.map_nil]);first|done|rfl|(simp only [List.length_drop,List.length_take];rfl)) ?_;(with_reducible refine (spec_l2Byte.calls (bt a0 x3_1) false _ A5.out).mono ?_);rintro e w' ⟨rfl,⟨nd,rfl⟩⟩;refine ⟨_,rfl,?_⟩))
      go_ret
      exact ⟨by first|rfl|(simp;done)|(simp [*];done),by repeat (first|exact Drawn0.refl _|apply Drawn0.step)⟩
    ·rw [if_neg c3] at H
     exact absurd H (by simp)
   ·rw [if_neg c2] at H
    have c2b0 : decide (x3_1 < (a0.size : Int)) = false:=decide_eq_false c2
    clear c2
    obtain rfl:=Option.some.inj H
    go_wp2
    go_ret
    exact ⟨by first|rfl|(simp;done)|(simp [*];done),by repeat (first|exact Drawn0.refl _|apply Drawn0.step)⟩

end Go.Proofs.YtejpgpjjocbbjaaDoor.A
