-- Printed by myprint.py (wip/tools) out of the translation. Not trusted: Lean checks it.
import Derived.Test.YtejpgpjjocbbjaaDoorAx0
import Derived.Test.YtejpgpjjocbbjaaDoorAx2
namespace Go.Proofs.YtejpgpjjocbbjaaDoor.A
open Go.RowKit Go.Proofs.YtejpgpjjocbbjaaDoorW.PrintWords Go.Proofs.YtejpgpjjocbbjaaDoorW.PrintLast Go.Proofs.YtejpgpjjocbbjaaDoorW.PrintMore
attribute [local go_sem] max2_int min2_int max_two min_two max_three min_three max_four min_four   -- for this text's walks alone
set_option linter.unusedVariables false
set_option linter.unusedSimpArgs false

/-! ### spec_l12Cut: function 30 -/
def spec_l12Cut.l0 : Nat → ByteArray → Int → List ByteArray → Int → Option (List ByteArray)
 | 0, _, _, _, _ => none
 | k + 1, x0, x1, x5, x6 => if x6 < (x0.size : Int) then (if 0 ≤ x6 then (if (bt x0 x6) = x1 then (if x5.length < 8796093022208 then (spec_l12Cut.l0 k x0 x1 (x5 ++ [(⟨#[]⟩ : ByteArray)]) (wrap64 (x6 + 1))) else (none)) else (if 0 ≤ (wrap64 ((x5.length : Int) - 1)) then (if (wrap64 ((x5.length : Int) - 1)) < (x5.length : Int) then ((some (([bt x0 x6] : List Int) : List Int)).bind fun y362 => (if (rdOf ByteArray.empty x5 (wrap64 ((x5.length : Int) - 1))).size + (strOfNums y362).size ≤ 9223372036854775807 then (spec_l12Cut.l0 k x0 x1 (x5.set ((wrap64 ((x5.length : Int) - 1)) : Int).toNat ((rdOf ByteArray.empty x5 (wrap64 ((x5.length : Int) - 1))) ++ (strOfNums y362))) (wrap64 (x6 + 1))) else (none))) else (none)) else (none))) else (none)) else (some x5)
def spec_l12Cut.f (k : Nat) (a0 : ByteArray) (a1 : Int) : Option (List ByteArray) := spec_l12Cut.l0 k a0 a1 (([(⟨#[]⟩ : ByteArray)] : List ByteArray)) 0
theorem spec_l12Cut.mono_l : ∀ k, (∀ y0 y1 y2 y3, LeO (spec_l12Cut.l0 k y0 y1 y2 y3) (spec_l12Cut.l0 (k + 1) y0 y1 y2 y3))
 | 0 => fun _ _ _ _ r h => by simp [spec_l12Cut.l0] at h
 | k + 1 => by
  have ih0:=spec_l12Cut.mono_l k
  ·intro y0 y1 y2 y3
   unfold spec_l12Cut.l0
   repeat' first
   | (with_reducible exact ih0 _ _ _ _)
   | (with_reducible exact LeO.refl _)
   | (with_reducible exact LeO.none _)
   | (with_reducible refine LeO.ite ?_ ?_)
   | (with_reducible refine LeO.bind ?_ (fun _ => ?_))
   | exact ih0 _ _ _ _
   | exact LeO.none _
   | refine LeO.ite ?_ ?_
   | refine LeO.bind ?_ (fun _ => ?_)
theorem spec_l12Cut.mono : ∀ a0 a1 k, LeO (spec_l12Cut.f k a0 a1) (spec_l12Cut.f (k + 1) a0 a1) := by
 intro a0 a1 k
 have ih0:=spec_l12Cut.mono_l k
 unfold spec_l12Cut.f
 repeat' first
   | (with_reducible exact ih0 _ _ _ _)
   | (with_reducible exact LeO.refl _)
   | (with_reducible exact LeO.none _)
   | (with_reducible refine LeO.ite ?_ ?_)
   | (with_reducible refine LeO.bind ?_ (fun _ => ?_))
   | exact ih0 _ _ _ _
   | exact LeO.none _
   | refine LeO.ite ?_ ?_
   | refine LeO.bind ?_ (fun _ => ?_)
def spec_l12Cut.T7 : Bool × List (List Nat × List Nat) := (true, [([], []), ([], []), ([1], [1]), ([2], [2]), ([], []), ([], []), ([5], [5]), ([6], [6]), ([4, 7], [4, 7]), ([8], [8]), ([], []), ([], []), ([10, 11], [10, 11]), ([12], [12]), ([13], [13]), ([9, 14], [9, 14]), ([0, 3, 0, 1, 2, 3, 4, 5, 6, 7, 8, 9, 10, 11, 12, 13, 14, 15], [0, 3]), ([16, 15, 0, 1, 2, 3, 4, 5, 6, 7, 8, 9, 10, 11, 12, 13, 14, 15], [15, 16])])
def spec_l12Cut.B7 : List Nat := [0, 0, 2, 6, 0, 0, 32, 96, 240, 496, 0, 0, 3072, 7168, 15360, 32752, 65535, 131071]
theorem spec_l12Cut.tab7 : rtab .any (opsOf Tryd.f30 7) = spec_l12Cut.T7 := by kernel_rfl
theorem spec_l12Cut.bits7 : waitsOk spec_l12Cut.T7.2 spec_l12Cut.B7 = true := by kernel_rfl
set_option maxHeartbeats 8000000 in
set_option maxRecDepth 100000 in
theorem spec_l12Cut.calls (k : Nat) (a0 : ByteArray) (a1 : Int) (r : List ByteArray) (w : World) (h : spec_l12Cut.f k a0 a1 = some r) :
  Calls Tryd.prog 30 #[.string a0,.int .u8 a1] w fun e w'=>∃ v0_ : Value,e = .returned (v0_) ∧ Kd.R Kd.string 9 w' w.heap.size (fun _=>True) v0_ r ∧ Below w.heap.size w w':=by
 have HB:=m_ (Below.refl w.heap.size w)
 have H : (spec_l12Cut.l0 k a0 a1 (([(⟨#[]⟩ : ByteArray)] : List ByteArray)) 0) = some r:=h
 clear h
 obtain ⟨y355,hy355⟩ : ∃ y_ : List ByteArray,y_ = (([(⟨#[]⟩ : ByteArray)] : List ByteArray)):=⟨_,rfl⟩
 replace H : (spec_l12Cut.l0 k a0 a1 y355 0) = some r:=by first|(rw [hy355];with_reducible exact H)|(have H2_:=(Option.bind_some _ _).symm.trans H;rw [hy355];with_reducible exact H2_)|(have H2_:=(Option.bind_some _ _).symm.trans H;with_reducible exact H2_)|with_reducible exact H|(rw [hy355];exact H)|exact H
 have Ny355:=m_ hy355
 clear hy355
 have H':=m_ H
 clear H
 go_enter Tryd.func30,Tryd.ntmps30
 go_wp2_with (first|((with_reducible refine gate_dst (N:=7) rfl ?_);refine Kd.R_lit Kd.string _ 9 ?hg (N:=7) ?hd (xs:=([(⟨#[]⟩ : ByteArray)] : List ByteArray)) (inner:=[.string (⟨#[]⟩ : ByteArray)]) (ok:=fun _=>True) (okp:=fun _=>True) ?hr ?hp (fun _ hk=>hk) trivial (Below.refl _ _) (Nat.le_refl _) (by simp) ?_;(case hd=>rfl);(case hg=>rfl);(case hr=>first|(go_simp;done)|(go_simp;rfl));(case hp=>exact (Reps.one (show Kd.M Kd.string _ _ _ (⟨#[]⟩ : ByteArray) [.string (⟨#[]⟩ : ByteArray)] from rfl) (Reps.none _ _)));intro v356 w3 ho4 hb hg_ hnew_;clear hg_ hnew_;(first|rw [← Ny355.out] at ho4|(simp only [Int.reduceToNat] at ho4;rw [← Ny355.out] at ho4));have n0_:=m_ (Kd.R_lower ho4 (l6_ (by repeat (first|(with_reducible first|exact HB.out|apply l1_|apply l2_|apply l3_)|exact HB.out))));have n1_:=m_ (l5_ (by repeat (first|(with_reducible first|exact HB.out|apply l1_|apply l2_|apply l3_)|exact HB.out)) hb);clear HB;have HO357:=n0_;have HB:=n1_;clear n0_ n1_;clear hb ho4))
 go_loopg [5,6] k (fun kq v5 v6 w'=>∃ (x5_1 : List ByteArray) (x6_1 : Int),v6 = .int .i64 x6_1 ∧ Aside0 (spec_l12Cut.l0 kq a0 a1 x5_1 x6_1 = some r) ∧ Aside0 (kq ≤ k) ∧ Aside0 (Kd.R Kd.string 9 w' w.heap.size (fun _=>True) v5 x5_1) ∧ Aside0 (Below w.heap.size w w'))
 case atStart=>exact ⟨(y355),(0),(by first|rfl|(simp;done)|(simp [*];done)),H',⟨Nat.le_refl _⟩,⟨by (with_reducible repeat (first|apply Kd.R_alloc|apply Kd.R_drewN|apply Kd.R_drew));exact HO357.out⟩,⟨by repeat (first|(with_reducible first|exact HB.out|apply l1_|apply l2_|apply l3_)|exact HB.out)⟩⟩
 case round =>
  clear H'
  try clear p2
  try clear c3
  obtain ⟨x5_1,x6_1,rfl,HA,HK1,HO_5,HB⟩:=hrel
  cases gk with
  | zero => exact absurd HA.out (by simp [spec_l12Cut.l0])
  | succ k1 =>
   have H:=HA.out
   clear HA
   simp only [spec_l12Cut.l0] at H
   by_cases c5 : x6_1 < (a0.size : Int)
   ·rw [if_pos c5] at H
    have c5b0 : decide (x6_1 < (a0.size : Int)) = true:=decide_eq_true c5
    clear c5
    by_cases c6 : 0 ≤ x6_1
    ·rw [if_pos c6] at H
     have c6b0 : decide (0 ≤ x6_1) = true:=decide_eq_true c6
     clear c6
     by_cases c8 : (bt a0 x6_1) = a1
     ·rw [if_pos c8] at H
      have c8b0 : ((bt a0 x6_1) == a1) = true:=beq_iff_eq.mpr c8
      have c8b1 : ((bt a0 x6_1) != a1) = false:=bne_eq_false_iff_eq.mpr c8
      clear c8
      by_cases c9 : x5_1.length < 8796093022208
      ·rw [if_pos c9] at H
       have LMc9:=m_ c9
       clear c9
       obtain ⟨y358,hy358⟩ : ∃ y_ : List ByteArray,y_ = (x5_1 ++ [(⟨#[]⟩ : ByteArray)]):=⟨_,rfl⟩
       replace H : (spec_l12Cut.l0 k1 a0 a1 y358 (wrap64 (x6_1 + 1))) = some r:=by first|(rw [hy358];with_reducible exact H)|(have H2_:=(Option.bind_some _ _).symm.trans H;rw [hy358];with_reducible exact H2_)|(have H2_:=(Option.bind_some _ _).symm.trans H;with_reducible exact H2_)|with_reducible exact H|(rw [hy358];exact H)|exact H
       have Ny358:=m_ hy358
       clear hy358
       have H':=m_ H
       clear H
       have p7 : 0 ≤ (x6_1 : Int):=of_decide_eq_true (by first|(with_reducible assumption)|assumption)
       have q7 : x6_1 < (a0.size : Int):=of_decide_eq_true (by first|(with_reducible assumption)|assumption)
       have hx7:=bt_at a0 x6_1
       replace p7:=eq_true p7
       replace q7:=eq_true q7
       go_wp2_with (first|((with_reducible refine gate_builtin (b:=.append) (xs:=#[.tmp 19,.tmp 20]) rfl ?_);at_builtin;refine Kd.R_append Kd.string (w0:=w) w.heap.size rfl (.tmp 19) (.tmp 20) 41 9 (.string ⟨#[]⟩) 16 rfl Tryd.underlying41 info9 rfl (by decide) (by omega) u5 x5_1 (⟨#[]⟩ : ByteArray) [.string (⟨#[]⟩ : ByteArray)] (fun _=>True) (fun _=>False) rfl rfl ?aP (fun _ hk=>hk.elim) ?aF ?aO ?aB ?aS ?aL ?_;(case aP=>exact rfl);(case aB=>exact (by repeat (first|(with_reducible first|exact HB.out|apply l1_|apply l2_|apply l3_)|exact HB.out)));(case aF=>exact (fun _ _=>trivial));(case aO=>exact (by (with_reducible repeat (first|apply Kd.R_alloc|apply Kd.R_drewN|apply Kd.R_drew));exact HO_5.out));(case aS=>exact (l6_ (by repeat (first|(with_reducible first|exact HB.out|apply l1_|apply l2_|apply l3_)|exact HB.out))));(case aL=>have:=LMc9.out;omega);intro v359 w10 ho hb hg hat;rw [← Ny358.out] at ho;have n0_:=m_ (hb);have n1_:=m_ (ho);clear HB;clear HO_5;have HB:=n0_;have HO360:=n1_;clear n0_ n1_;clear ho hb hg hat))
       go_roundg k1
       case measure=>have:=HK1.out;omega
       case rel=>exact ⟨(y358),(wrap64 (x6_1 + 1)),(by first|rfl|(simp;done)|(simp [*];done)),H',⟨by have:=HK1.out;omega⟩,⟨by (with_reducible repeat (first|apply Kd.R_alloc|apply Kd.R_drewN|apply Kd.R_drew));exact HO360.out⟩,⟨by repeat (first|(with_reducible first|exact HB.out|apply l1_|apply l2_|apply l3_)|exact HB.out)⟩⟩
      ·rw [if_neg c9] at H
       exact absurd H (by simp)
     ·rw [if_neg c8] at H
      have c8b0 : ((bt a0 x6_1) == a1) = false:=beq_eq_false_iff_ne.mpr c8
      have c8b1 : ((bt a0 x6_1) != a1) = true:=bne_iff_ne.mpr c8
      obtain ⟨ji11,hji11⟩ : ∃ j_ : Int,(wrap64 ((x5_1.length : Int) - 1)) = j_:=⟨_,rfl⟩
      replace H : (if 0 ≤ (ji11) then (if (ji11) < (x5_1.length : Int) then ((some (([bt a0 x6_1] : List Int) : List Int)).bind fun y362=>(if (rdOf ByteArray.empty x5_1 (ji11)).size + (strOfNums y362).size ≤ 9223372036854775807 then (spec_l12Cut.l0 k1 a0 a1 (x5_1.set ((ji11) : Int).toNat ((rdOf ByteArray.empty x5_1 (ji11)) ++ (strOfNums y362))) (wrap64 (x6_1 + 1))) else (none))) else (none)) else (none)) = some r:=by first|(rw [hji11] at H;exact H)|(simp only [hji11] at H ⊢;exact H)
      have hji11w : (IntKind.i64.wrap ((x5_1.length : Int) - 1)) = ji11:=(i64_w _).trans hji11
      by_cases c12 : 0 ≤ (ji11)
      ·rw [if_pos c12] at H
       have c12b0 : decide (0 ≤ (ji11)) = true:=decide_eq_true c12
       clear c12
       by_cases c13 : (ji11) < (x5_1.length : Int)
       ·rw [if_pos c13] at H
        have c13b0 : decide ((ji11) < (x5_1.length : Int)) = true:=decide_eq_true c13
        clear c13
        obtain ⟨y362,hy362⟩ : ∃ y_ : List Int,y_ = (([bt a0 x6_1] : List Int)):=⟨_,rfl⟩
        replace H : (if (rdOf ByteArray.empty x5_1 (ji11)).size + (strOfNums y362).size ≤ 9223372036854775807 then (spec_l12Cut.l0 k1 a0 a1 (x5_1.set ((ji11) : Int).toNat ((rdOf ByteArray.empty x5_1 (ji11)) ++ (strOfNums y362))) (wrap64 (x6_1 + 1))) else (none)) = some r:=by first|(rw [hy362];with_reducible exact H)|(have H2_:=(Option.bind_some _ _).symm.trans H;rw [hy362];with_reducible exact H2_)|(have H2_:=(Option.bind_some _ _).symm.trans H;with_reducible exact H2_)|with_reducible exact H|(rw [hy362];exact H)|exact H
        have Ny362:=m_ hy362
        clear hy362
        by_cases c15 : (rdOf ByteArray.empty x5_1 (ji11)).size + (strOfNums y362).size ≤ 9223372036854775807
        ·rw [if_pos c15] at H
         have c15b0:=eq_true c15
         have c15b1 : decide ((rdOf ByteArray.empty x5_1 (ji11)).size + (strOfNums y362).size ≤ 9223372036854775807) = true:=decide_eq_true c15
         try have c15b2 : (9223372036854775807 < (rdOf ByteArray.empty x5_1 (ji11)).size + (strOfNums y362).size) = False:=eq_false (Nat.not_lt.2 c15)
         obtain ⟨y365,hy365⟩ : ∃ y_ : List ByteArray,y_ = (x5_1.set ((ji11) : Int).toNat ((rdOf ByteArray.empty x5_1 (ji11)) ++ (strOfNums y362))):=⟨_,rfl⟩
         replace H : (spec_l12Cut.l0 k1 a0 a1 y365 (wrap64 (x6_1 + 1))) = some r:=by first|(rw [hy365];with_reducible exact H)|(have H2_:=(Option.bind_some _ _).symm.trans H;rw [hy365];with_reducible exact H2_)|(have H2_:=(Option.bind_some _ _).symm.trans H;with_reducible exact H2_)|with_reducible exact H|(rw [hy365];exact H)|exact H
         have Ny365:=m_ hy365
         clear hy365
         have H':=m_ H
         clear H
         have p7 : 0 ≤ (x6_1 : Int):=of_decide_eq_true (by first|(with_reducible assumption)|assumption)
         have q7 : x6_1 < (a0.size : Int):=of_decide_eq_true (by first|(with_reducible assumption)|assumption)
         have hx7:=bt_at a0 x6_1
         replace p7:=eq_true p7
         replace q7:=eq_true q7
         try go_wp2
         have n0_:=m_ (Kd.R_drew HO_5.out)
         have n1_:=m_ (l3_ HB.out)
         clear HO_5
         clear HB
         have HO_5:=n0_
         have HB:=n1_
         clear n0_ n1_
         obtain ⟨Ao18,co18,eo18⟩:=Kd.R_slice HO_5.out
         (first|subst eo18|(injection eo18 with f1_ f2_ f3_;have f4_:=f1_.symm;have f5_:=f3_.symm;clear f1_ f2_ f3_;subst f4_;subst f5_))
         have p361 : 0 ≤ ((ji11) : Int):=of_decide_eq_true (by first|(with_reducible assumption)|assumption)
         have q361 : (ji11) < (x5_1.length : Int):=of_decide_eq_true (by first|(with_reducible assumption)|assumption)
         obtain ⟨ad361,e361,hx361_0⟩:=Kd.at_string (Kd.R_reads' HO_5.out).2.2 (ji11) p361 q361
         cases e361
         replace p361:=eq_true p361
         replace q361:=eq_true q361
         have p14 : 0 ≤ (x6_1 : Int):=of_decide_eq_true (by first|(with_reducible assumption)|assumption)
         have q14 : x6_1 < (a0.size : Int):=of_decide_eq_true (by first|(with_reducible assumption)|assumption)
         have hx14:=bt_at a0 x6_1
         replace p14:=eq_true p14
         replace q14:=eq_true q14
         refine start_ (n:=18) (S:=fun w'=>w'.cell? (ad361.add ((ji11)).toNat) = some (.string (rdOf ByteArray.empty x5_1 (ji11)))) (ds:=[17]) #[false,false,false,false,false,false,false,false,false,false,false,false,false,false,false,false,false,false] (by kernel_rfl) rfl rfl (hx361_0) (fun hHeld=>?_);refine with_tabW spec_l12Cut.tab7 spec_l12Cut.bits7 (fun HT_ HW_=>?_)
         generalize wr.drew = w17 at HO_5 HB hx361_0 hHeld ⊢
         refine pure_ (i:=0) (N:=some 22) (v:=?_) (a':=?_) #[true,false,false,false,false,false,false,false,false,false,false,false,false,false,false,false,false,false] rfl rfl (any_of HT_.out (by kernel_rfl)) (fun _ _ _ h=>h) (Or.inl ⟨by rfl,?_⟩) ?_ ?_
         rotate_left
         ·intro w'
          go_simp
          with_reducible rfl
         rotate_left
         ·simp only [Act.put,s1_,s2_,s3_,i64_w,i32_w]
          rfl
         refine pure_ (i:=1) (N:=some 23) (v:=?_) (a':=?_) #[true,true,false,false,false,false,false,false,false,false,false,false,false,false,false,false,false,false] rfl rfl (any_of HT_.out (by kernel_rfl)) (fun _ _ _ h=>h) (Or.inl ⟨by rfl,?_⟩) ?_ ?_
         rotate_left
         ·intro w'
          go_simp
          with_reducible rfl
         rotate_left
         ·simp only [Act.put,s1_,s2_,s3_,i64_w,i32_w]
          rfl
         refine pure_ (i:=2) (N:=some 24) (v:=?_) (a':=?_) #[true,true,true,false,false,false,false,false,false,false,false,false,false,false,false,false,false,false] rfl rfl (any_of HT_.out (by kernel_rfl)) (fun _ _ _ h=>h) (Or.inl ⟨by rfl,?_⟩) ?_ ?_
         rotate_left
         ·intro w'
          go_simp
          with_reducible rfl
         rotate_left
         ·simp only [Act.put,s1_,s2_,s3_,i64_w,i32_w]
          rfl
         refine pure_ (i:=3) (N:=some 25) (v:=?_) (a':=?_) #[true,true,true,true,false,false,false,false,false,false,false,false,false,false,false,false,false,false] rfl rfl (any_of HT_.out (by kernel_rfl)) (fun _ _ _ h=>h) (Or.inl ⟨by rfl,?_⟩) ?_ ?_
         rotate_left
         ·intro w'
          go_simp
          with_reducible rfl
         rotate_left
         ·simp only [Act.put,s1_,s2_,s3_,i64_w,i32_w]
          rfl
         refine pure_ (i:=4) (N:=some 26) (v:=?_) (a':=?_) #[true,true,true,true,true,false,false,false,false,false,false,false,false,false,false,false,false,false] rfl rfl (any_of HT_.out (by kernel_rfl)) (fun _ _ _ h=>h) (Or.inl ⟨by rfl,?_⟩) ?_ ?_
         rotate_left
         ·intro w'
          go_simp
          with_reducible rfl
         rotate_left
         ·simp only [Act.put,s1_,s2_,s3_,i64_w,i32_w]
          rfl
         refine pure_ (i:=5) (N:=some 27) (v:=?_) (a':=?_) #[true,true,true,true,true,true,false,false,false,false,false,false,false,false,false,false,false,false] rfl rfl (any_of HT_.out (by kernel_rfl)) (fun _ _ _ h=>h) (Or.inl ⟨by rfl,?_⟩) ?_ ?_
         rotate_left
         ·intro w'
          go_simp
          with_reducible rfl
         rotate_left
         ·simp only [Act.put,s1_,s2_,s3_,i64_w,i32_w]
          rfl
         refine pure_ (i:=6) (N:=some 28) (v:=?_) (a':=?_) #[true,true,true,true,true,true,true,false,false,false,false,false,false,false,false,false,false,false] rfl rfl (any_of HT_.out (by kernel_rfl)) (fun _ _ _ h=>h) (Or.inl ⟨by rfl,?_⟩) ?_ ?_
         rotate_left
         ·intro w'
          go_simp
          with_reducible rfl
         rotate_left
         ·simp only [Act.put,s1_,s2_,s3_,i64_w,i32_w]
          rfl
         refine pure_ (i:=7) (N:=some 29) (v:=?_) (a':=?_) #[true,true,true,true,true,true,true,true,false,false,false,false,false,false,false,false,false,false] rfl rfl (any_of HT_.out (by kernel_rfl)) (fun _ _ _ h=>h) (Or.inl ⟨by rfl,?_⟩) ?_ ?_
         rotate_left
         ·intro w'
          go_simp
          with_reducible rfl
         rotate_left
         ·simp only [Act.put,s1_,s2_,s3_,i64_w,i32_w]
          rfl
         refine pure_ (i:=8) (N:=some 30) (v:=?_) (a':=?_) #[true,true,true,true,true,true,true,true,true,false,false,false,false,false,false,false,false,false] rfl rfl (any_of HT_.out (by kernel_rfl)) (fun _ _ _ h=>h) (Or.inl ⟨by rfl,?_⟩) ?_ ?_
         rotate_left
         ·intro w'
          go_simp
          with_reducible rfl
         rotate_left
         ·simp only [Act.put,s1_,s2_,s3_,i64_w,i32_w]
          rfl
         refine pure_ (i:=10) (N:=some 32) (v:=?_) (a':=?_) #[true,true,true,true,true,true,true,true,true,false,true,false,false,false,false,false,false,false] rfl rfl (any_of HT_.out (by kernel_rfl)) (fun _ _ _ h=>h) (Or.inl ⟨by rfl,?_⟩) ?_ ?_
         rotate_left
         ·intro w'
          go_simp
          with_reducible rfl
         rotate_left
         ·simp only [Act.put,s1_,s2_,s3_,i64_w,i32_w]
          rfl
         refine pure_ (i:=11) (N:=some 33) (v:=?_) (a':=?_) #[true,true,true,true,true,true,true,true,true,false,true,true,false,false,false,false,false,false] rfl rfl (any_of HT_.out (by kernel_rfl)) (fun _ _ _ h=>h) (Or.inl ⟨by rfl,?_⟩) ?_ ?_
         rotate_left
         ·intro w'
          go_simp
          with_reducible rfl
         rotate_left
         ·simp only [Act.put,s1_,s2_,s3_,i64_w,i32_w]
          rfl
         refine take_ (i:=9) (N:=some 31) (v:=?_) (a':=?_) #[true,true,true,true,true,true,true,true,true,true,true,true,false,false,false,false,false,false] rfl rfl (take_ofW HT_.out HW_.out (by kernel_rfl)) (fun _ _ _ h=>h) (Or.inl ⟨by rfl,?_⟩) hHeld ?_ ?_
         rotate_left
         ·intro w' s0
          go_simp
          with_reducible rfl
         rotate_left
         ·simp only [Act.put,s1_,s2_,s3_,i64_w,i32_w]
          rfl
         refine take_ (i:=12) (N:=some 34) (v:=?_) (a':=?_) #[true,true,true,true,true,true,true,true,true,true,true,true,true,false,false,false,false,false] rfl rfl (take_ofW HT_.out HW_.out (by kernel_rfl)) (fun _ _ _ h=>h) (Or.inl ⟨by rfl,?_⟩) hHeld ?_ ?_
         rotate_left
         ·intro w' s0
          go_simp
          with_reducible rfl
         rotate_left
         ·simp only [Act.put,s1_,s2_,s3_,i64_w,i32_w]
          rfl
         refine one_ (i:=13) (N:=some 35) #[true,true,true,true,true,true,true,true,true,true,true,true,true,true,false,false,false,false] rfl rfl (one_of HT_.out (by kernel_rfl)) (by decide) (fun K hK=>?_)
         refine Kd.R_lit_step (Kd.int .u8) _ 5 ?hg (N:=35) ?hd (xs:=([bt a0 x6_1] : List Int)) (inner:=[.int .u8 (bt a0 x6_1)]) (ok:=fun _=>True) (okp:=fun _=>True) ?hr ?hp (fun _ hk=>hk) trivial (Below.refl _ _) (Nat.le_refl _) (by simp) ?_;(case hd=>rfl);(case hg=>rfl);(case hr=>first|(go_simp;done)|(go_simp;rfl));(case hp=>exact (Reps.one (show Kd.M (Kd.int .u8) _ _ _ (bt a0 x6_1) [.int .u8 (bt a0 x6_1)] from rfl) (Reps.none _ _)))
         intro v363 w19 ho20 hb hg_ hnew_
         have HS0_:=(hb.cell (World.block_lt_of_cell? _ _ (hHeld))).trans (hHeld)
         clear hg_ hnew_
         (first|rw [← Ny362.out] at ho20|(simp only [Int.reduceToNat] at ho20;rw [← Ny362.out] at ho20))
         have n0_:=m_ (Kd.R_below (by (with_reducible repeat (first|apply Kd.R_alloc|apply Kd.R_drewN|apply Kd.R_drew));exact HO_5.out) hb)
         have n1_:=m_ (Kd.R_lower ho20 (l6_ (by repeat (first|(with_reducible first|exact HB.out|apply l1_|apply l2_|apply l3_)|exact HB.out))))
         have n2_:=m_ (l5_ (by repeat (first|(with_reducible first|exact HB.out|apply l1_|apply l2_|apply l3_)|exact HB.out)) hb)
         clear HO_5
         clear HB
         have HO_5:=n0_
         have HO364:=n1_
         have HB:=n2_
         clear n0_ n1_ n2_
         clear hb ho20
         have p16 : 0 ≤ ((ji11) : Int):=of_decide_eq_true (by first|(with_reducible assumption)|assumption)
         have q16 : ((ji11) : Int) < ((x5_1.length : Int) : Int):=of_decide_eq_true (by first|(with_reducible assumption)|assumption)
         obtain ⟨go16,co16,eo16,gb16,gl16,cl16,HG16⟩:=Kd.R_form HO_5.out (by omega)
         (first|cases eo16|(injection eo16 with ea_ en_ ec_;(first|subst ea_|(injection ea_ with ea_;subst ea_));subst ec_;clear en_))
         have GB16:=m_ gb16
         have GG16:=m_ HG16
         clear gb16 gl16 HG16
         (first|simp only [add_plain] at hx361_0|skip)
         obtain ⟨hx16_0,hf16_0⟩:=Kd.R_celln (⟨#[]⟩ : ByteArray) HO_5.out ((ji11) : Int) p16 q16
         replace p16:=eq_true p16
         replace q16:=eq_true q16
         have HP22:=Kd.R_putn HO_5.out ((ji11) : Int) ((rdOf ByteArray.empty x5_1 (ji11)) ++ (strOfNums y362))
         rw [← Ny365.out] at HP22
         have HQ22:=m_ HP22
         clear HP22
         refine hK.out _ _ (HS0_) (fun hHeld=>?_)
         clear hK K
         refine norm_ (a':=?_) ?_ ?_
         rotate_left
         ·show Act.put _ (some 35) _ = _
          simp only [Act.put,s1_,s2_,s3_,i64_w,i32_w]
          rfl
         refine one_ (i:=14) (N:=some 36) #[true,true,true,true,true,true,true,true,true,true,true,true,true,true,true,false,false,false] rfl rfl (one_of HT_.out (by kernel_rfl)) (by decide) (fun K hK=>?_)
         have hcv21:=own_string (P:=Tryd.prog) Tryd.underlying22 Tryd.underlying5 Tryd.underlying9 (Kd.own_of_R HO364.out)
         refine value_ (w1:=?_) (v:=?_) (by rfl) rfl ?_ ?_
         rotate_left 2
         ·go_simp
          constructor
          ·rfl
          ·rfl
         clear hcv21
         refine hK.out _ _ (hHeld) (fun hHeld=>?_)
         clear hK K
         refine norm_ (a':=?_) ?_ ?_
         rotate_left
         ·show Act.put _ (some 36) _ = _
          simp only [Act.put,s1_,s2_,s3_,i64_w,i32_w]
          rfl
         refine pure_ (i:=15) (N:=some 37) (v:=?_) (a':=?_) #[true,true,true,true,true,true,true,true,true,true,true,true,true,true,true,true,false,false] rfl rfl (any_of HT_.out (by kernel_rfl)) (fun _ _ _ h=>h) (Or.inl ⟨by rfl,?_⟩) ?_ ?_
         rotate_left
         ·intro w'
          go_simp
          with_reducible rfl
         rotate_left
         ·simp only [Act.put,s1_,s2_,s3_,i64_w,i32_w]
          rfl
         refine pure_ (i:=16) (N:=some 38) (v:=?_) (a':=?_) #[true,true,true,true,true,true,true,true,true,true,true,true,true,true,true,true,true,false] rfl rfl (any_of HT_.out (by kernel_rfl)) (fun _ _ _ h=>h) (Or.inl ⟨by rfl,?_⟩) ?_ ?_
         rotate_left
         ·intro w'
          go_simp
          with_reducible rfl
         rotate_left
         ·simp only [Act.put,s1_,s2_,s3_,i64_w,i32_w]
          rfl
         refine last_ (i:=17) (N:=none) #[true,true,true,true,true,true,true,true,true,true,true,true,true,true,true,true,true,true] rfl rfl (one_of HT_.out (by kernel_rfl)) (by decide) (fun K hK=>?_)
         refine skip_ (w1:=?_) (by rfl) rfl ?_ ?_
         rotate_left
         ·go_simp
          rfl
         refine hK.out _ _ ?_
         clear hK K
         refine done_ (done_of HT_.out (by kernel_rfl)) ?_
         try go_wp2
         go_roundg k1
         case measure=>have:=HK1.out;omega
         case rel=>exact ⟨(y365),(wrap64 (x6_1 + 1)),(by first|rfl|(simp;done)|(simp [*];done)),H',⟨by have:=HK1.out;omega⟩,⟨by (with_reducible repeat (first|apply Kd.R_alloc|apply Kd.R_drewN|apply Kd.R_drew));exact HQ22.out⟩,⟨by repeat (first|(with_reducible first|exact HB.out|apply l1_|apply l2_|apply l3_|refine l4_ ?_ GB16.out)|exact HB.out)⟩⟩
        ·rw [if_neg c15] at H
         exact absurd H (by simp)
       ·rw [if_neg c13] at H
        exact absurd H (by simp)
      ·rw [if_neg c12] at H
       exact absurd H (by simp)
    ·rw [if_neg c6] at H
     exact absurd H (by simp)
   ·rw [if_neg c5] at H
    have c5b0 : decide (x6_1 < (a0.size : Int)) = false:=decide_eq_false c5
    clear c5
    obtain rfl:=Option.some.inj H
    go_wp2
    go_ret
    exact ⟨_,by first|rfl|(simp [e1_,e2_] <;> rfl)|(simp [*,e1_,e2_] <;> rfl)|(simp [e1_,e2_,pk_empty1,pk_empty2];done)|(simp [*,e1_,e2_,pk_empty1,pk_empty2];done),by (with_reducible repeat (first|apply Kd.R_alloc|apply Kd.R_drewN|apply Kd.R_drew));exact HO_5.out,by repeat (first|(with_reducible first|exact HB.out|apply l1_|apply l2_|apply l3_)|exact HB.out)⟩

/-! ### spec_l1Digit: function 54 -/
def spec_l1Digit.f (a0 : Int) : Option (Int) := if a0 < 48 then (some (-1)) else (if a0 > 57 then (some (-1)) else (some ((a0 - 48) % 256)))
set_option maxHeartbeats 8000000 in
set_option maxRecDepth 100000 in
theorem spec_l1Digit.calls (a0 : Int) (r : Int) (w : World) (h : spec_l1Digit.f a0 = some r) :
  Calls Tryd.prog 54 #[.int .u8 a0] w fun e w'=>e = .returned (.int .i64 r) ∧ Drawn0 w w':=by
 have H : (if a0 < 48 then (some (-1)) else (if a0 > 57 then (some (-1)) else (some ((a0 - 48) % 256)))) = some r:=h
 clear h
 by_cases c2 : a0 < 48
 ·rw [if_pos c2] at H
  have c2b0 : decide (a0 < 48) = true:=decide_eq_true c2
  clear c2
  obtain rfl:=Option.some.inj H
  go_enter Tryd.func54,Tryd.ntmps54
  go_wp2
  go_ret
  exact ⟨by first|rfl|(simp;done)|(simp [*];done),by repeat (first|exact Drawn0.refl _|apply Drawn0.step)⟩
 ·rw [if_neg c2] at H
  have c2b0 : decide (a0 < 48) = false:=decide_eq_false c2
  clear c2
  by_cases c3 : a0 > 57
  ·rw [if_pos c3] at H
   have c3b0 : decide (57 < a0) = true:=decide_eq_true c3
   clear c3
   obtain rfl:=Option.some.inj H
   go_enter Tryd.func54,Tryd.ntmps54
   go_wp2
   go_ret
   exact ⟨by first|rfl|(simp;done)|(simp [*];done),by repeat (first|exact Drawn0.refl _|apply Drawn0.step)⟩
  ·rw [if_neg c3] at H
   have c3b0 : decide (57 < a0) = false:=decide_eq_false c3
   clear c3
   obtain rfl:=Option.some.inj H
   go_enter Tryd.func54,Tryd.ntmps54
   go_wp2
   go_ret
   exact ⟨by first|rfl|(simp;done)|(simp [*];done),by repeat (first|exact Drawn0.refl _|apply Drawn0.step)⟩

/-! ### spec_l12Dec: function 32 -/
def spec_l12Dec.l0 : Nat → ByteArray → Int → Int → Option (Int)
 | 0, _, _, _ => none
 | k + 1, x0, x3, x4 => if x4 < (x0.size : Int) then (if 0 ≤ x4 then ((spec_l1Digit.f (bt x0 x4)).bind fun t367 => (if t367 < 0 then (some (-1)) else ((spec_l1Digit.f (bt x0 x4)).bind fun t368 => (spec_l12Dec.l0 k x0 (wrap64 ((wrap64 (10 * x3)) + t368)) (wrap64 (x4 + 1)))))) else (none)) else (some x3)
def spec_l12Dec.f (k : Nat) (a0 : ByteArray) : Option (Int) := (spec_l6In.f (a0.size : Int) 1 2).bind fun t366 => (if t366 = true then (spec_l12Dec.l0 k a0 0 0) else (some (-1)))
theorem spec_l12Dec.mono_l : ∀ k, (∀ y0 y1 y2, LeO (spec_l12Dec.l0 k y0 y1 y2) (spec_l12Dec.l0 (k + 1) y0 y1 y2))
 | 0 => fun _ _ _ r h => by simp [spec_l12Dec.l0] at h
 | k + 1 => by
  have ih0:=spec_l12Dec.mono_l k
  ·intro y0 y1 y2
   unfold spec_l12Dec.l0
   repeat' first
   | (with_reducible exact ih0 _ _ _)
   | (with_reducible exact LeO.refl _)
   | (with_reducible exact LeO.none _)
   | (with_reducible refine LeO.ite ?_ ?_)
   | (with_reducible refine LeO.bind ?_ (fun _ => ?_))
   | exact ih0 _ _ _
   | exact LeO.none _
   | refine LeO.ite ?_ ?_
   | refine LeO.bind ?_ (fun _ => ?_)
theorem spec_l12Dec.mono : ∀ a0 k, LeO (spec_l12Dec.f k a0) (spec_l12Dec.f (k + 1) a0) := by
 intro a0 k
 have ih0:=spec_l12Dec.mono_l k
 unfold spec_l12Dec.f
 repeat' first
   | (with_reducible exact ih0 _ _ _)
   | (with_reducible exact LeO.refl _)
   | (with_reducible exact LeO.none _)
   | (with_reducible refine LeO.ite ?_ ?_)
   | (with_reducible refine LeO.bind ?_ (fun _ => ?_))
   | exact ih0 _ _ _
   | exact LeO.none _
   | refine LeO.ite ?_ ?_
   | refine LeO.bind ?_ (fun _ => ?_)
set_option maxHeartbeats 8000000 in
set_option maxRecDepth 100000 in
theorem spec_l12Dec.calls (k : Nat) (a0 : ByteArray) (r : Int) (w : World) (h : spec_l12Dec.f k a0 = some r) :
  Calls Tryd.prog 32 #[.string a0] w fun e w'=>e = .returned (.int .i64 r) ∧ Drawn0 w w':=by
 have H : ((spec_l6In.f (a0.size : Int) 1 2).bind fun t366=>(if t366 = true then (spec_l12Dec.l0 k a0 0 0) else (some (-1)))) = some r:=h
 clear h
 replace H:=Option.bind_eq_some_iff.mp H
 obtain ⟨t366,A20,H⟩:=H
 replace H : (if t366 = true then (spec_l12Dec.l0 k a0 0 0) else (some (-1))) = some r:=H
 have A2:=m_ A20
 clear A20
 by_cases c3 : t366 = true
 ·subst c3
  have H1 : (spec_l12Dec.l0 k a0 0 0) = some r:=by rw [if_pos rfl] at H;exact H
  clear H
  have H:=H1
  clear H1
  have H':=m_ H
  clear H
  go_enter Tryd.func32,Tryd.ntmps32
  go_wp2_with (first|((with_reducible refine gate_callee (f:=31) rfl ?_);refine goesL_ (some 7) rfl rfl Tryd.func31 (by kernel_rfl) rfl #[.int .i64 (a0.size : Int),.int .i64 1,.int .i64 2] rfl (by (try simp only [List.map_toArray,List.map_cons,List.map_nil]);first|done|rfl|(simp only [List.length_drop,List.length_take];rfl)) ?_;(with_reducible refine (spec_l6In.calls (a0.size : Int) 1 2 true _ A2.out).mono ?_);rintro e w' ⟨rfl,⟨nd,rfl⟩⟩;refine ⟨_,rfl,?_⟩))
  go_loopg [3,4] k (fun kq v3 v4 w'=>∃ (x3_1 : Int) (x4_1 : Int),v3 = .int .i64 x3_1 ∧ v4 = .int .i64 x4_1 ∧ Aside0 (spec_l12Dec.l0 kq a0 x3_1 x4_1 = some r) ∧ Aside0 (kq ≤ k) ∧ Drawn0 w w')
  case atStart=>exact ⟨(0),(0),(by first|rfl|(simp;done)|(simp [*];done)),(by first|rfl|(simp;done)|(simp [*];done)),H',⟨Nat.le_refl _⟩,by repeat (first|exact Drawn0.refl _|apply Drawn0.step)⟩
  case round =>
   clear H'
   try clear p2
   try clear c3
   obtain ⟨x3_1,x4_1,rfl,rfl,HA,HK1,⟨m1,rfl⟩⟩:=hrel
   cases gk with
   | zero => exact absurd HA.out (by simp [spec_l12Dec.l0])
   | succ k1 =>
    have H:=HA.out
    clear HA
    simp only [spec_l12Dec.l0] at H
    by_cases c4 : x4_1 < (a0.size : Int)
    ·rw [if_pos c4] at H
     have c4b0 : decide (x4_1 < (a0.size : Int)) = true:=decide_eq_true c4
     clear c4
     by_cases c5 : 0 ≤ x4_1
     ·rw [if_pos c5] at H
      have c5b0 : decide (0 ≤ x4_1) = true:=decide_eq_true c5
      clear c5
      replace H:=Option.bind_eq_some_iff.mp H
      obtain ⟨t367,A70,H⟩:=H
      replace H : (if t367 < 0 then (some (-1)) else ((spec_l1Digit.f (bt a0 x4_1)).bind fun t368=>(spec_l12Dec.l0 k1 a0 (wrap64 ((wrap64 (10 * x3_1)) + t368)) (wrap64 (x4_1 + 1))))) = some r:=H
      have A7:=m_ A70
      clear A70
      by_cases c8 : t367 < 0
      ·rw [if_pos c8] at H
       have c8b0 : decide (t367 < 0) = true:=decide_eq_true c8
       clear c8
       obtain rfl:=Option.some.inj H
       have p6 : 0 ≤ (x4_1 : Int):=of_decide_eq_true (by first|(with_reducible assumption)|assumption)
       have q6 : x4_1 < (a0.size : Int):=of_decide_eq_true (by first|(with_reducible assumption)|assumption)
       have hx6:=bt_at a0 x4_1
       replace p6:=eq_true p6
       replace q6:=eq_true q6
       go_wp2_with (first|((with_reducible refine gate_callee (f:=54) rfl ?_);refine goesL_ (some 18) rfl rfl Tryd.func54 (by kernel_rfl) rfl #[.int .u8 (bt a0 x4_1)] rfl (by (try simp only [List.map_toArray,List.map_cons,List.map_nil]);first|done|rfl|(simp only [List.length_drop,List.length_take];rfl)) ?_;(with_reducible refine (spec_l1Digit.calls (bt a0 x4_1) t367 _ A7.out).mono ?_);rintro e w' ⟨rfl,⟨nd,rfl⟩⟩;refine ⟨_,rfl,?_⟩))
       go_ret
       exact ⟨by first|rfl|(simp;done)|(simp [*];done),by repeat (first|exact Drawn0.refl _|apply Drawn0.step)⟩
      ·rw [if_neg c8] at H
       have c8b0 : decide (t367 < 0) = false:=decide_eq_false c8
       clear c8
       replace H:=Option.bind_eq_some_iff.mp H
       obtain ⟨t368,A100,H⟩:=H
       replace H : (spec_l12Dec.l0 k1 a0 (wrap64 ((wrap64 (10 * x3_1)) + t368)) (wrap64 (x4_1 + 1))) = some r:=H
       have A10:=m_ A100
       clear A100
       have H':=m_ H
       clear H
       have p6 : 0 ≤ (x4_1 : Int):=of_decide_eq_true (by first|(with_reducible assumption)|assumption)
       have q6 : x4_1 < (a0.size : Int):=of_decide_eq_true (by first|(with_reducible assumption)|assumption)
       have hx6:=bt_at a0 x4_1
       replace p6:=eq_true p6
       replace q6:=eq_true q6
       go_wp2_with (first|((with_reducible refine gate_callee (f:=54) rfl ?_);refine goesL_ (some 18) rfl rfl Tryd.func54 (by kernel_rfl) rfl #[.int .u8 (bt a0 x4_1)] rfl (by (try simp only [List.map_toArray,List.map_cons,List.map_nil]);first|done|rfl|(simp only [List.length_drop,List.length_take];rfl)) ?_;(with_reducible refine (spec_l1Digit.calls (bt a0 x4_1) t367 _ A7.out).mono ?_);rintro e w' ⟨rfl,⟨nd,rfl⟩⟩;refine ⟨_,rfl,?_⟩;have p9 : 0 ≤ (x4_1 : Int):=of_decide_eq_true (by first|(with_reducible assumption)|assumption);have q9 : x4_1 < (a0.size : Int):=of_decide_eq_true (by first|(with_reducible assumption)|assumption);have hx9:=bt_at a0 x4_1;replace p9:=eq_true p9;replace q9:=eq_true q9)|((with_reducible refine gate_callee (f:=54) rfl ?_);refine goesL_ (some 25) rfl rfl Tryd.func54 (by kernel_rfl) rfl #[.int .u8 (bt a0 x4_1)] rfl (by (try simp only [List.map_toArray,List.map_cons,List.map_nil]);first|done|rfl|(simp only [List.length_drop,List.length_take];rfl)) ?_;(with_reducible refine (spec_l1Digit.calls (bt a0 x4_1) t368 _ A10.out).mono ?_);rintro e w' ⟨rfl,⟨nd,rfl⟩⟩;refine ⟨_,rfl,?_⟩))
       go_roundg k1
       case measure=>have:=HK1.out;omega
       case rel=>exact ⟨(wrap64 ((wrap64 (10 * x3_1)) + t368)),(wrap64 (x4_1 + 1)),(by first|rfl|(simp;done)|(simp [*];done)),(by first|rfl|(simp;done)|(simp [*];done)),H',⟨by have:=HK1.out;omega⟩,by repeat (first|exact Drawn0.refl _|apply Drawn0.step)⟩
     ·rw [if_neg c5] at H
      exact absurd H (by simp)
    ·rw [if_neg c4] at H
     have c4b0 : decide (x4_1 < (a0.size : Int)) = false:=decide_eq_false c4
     clear c4
     obtain rfl:=Option.some.inj H
     go_wp2
     go_ret
     exact ⟨by first|rfl|(simp;done)|(simp [*];done),by repeat (first|exact Drawn0.refl _|apply Drawn0.step)⟩
 ·replace c3:=Bool.eq_false_iff.mpr c3
  subst c3
  have H1 : (some (-1)) = some r:=by rw [if_neg (show ¬ (false = true) by decide)] at H;exact H
  clear H
  have H:=H1
  clear H1
  obtain rfl:=Option.some.inj H
  go_enter Tryd.func32,Tryd.ntmps32
  go_wp2_with (first|((with_reducible refine gate_callee (f:=31) rfl ?_);refine goesL_ (some 7) rfl rfl Tryd.func31 (by kernel_rfl) rfl #[.int .i64 (a0.size : Int),.int .i64 1,.int .i64 2] rfl (by (try simp only [List.map_toArray,List.map_cons,List.map_nil]);first|done|rfl|(simp only [List.length_drop,List.length_take];rfl)) ?_;(with_reducible refine (spec_l6In.calls (a0.size : Int) 1 2 false _ A2.out).mono ?_);rintro e w' ⟨rfl,⟨nd,rfl⟩⟩;refine ⟨_,rfl,?_⟩))
  go_ret
  exact ⟨by first|rfl|(simp;done)|(simp [*];done),by repeat (first|exact Drawn0.refl _|apply Drawn0.step)⟩

/-! ### spec_EndRead: function 33 -/
def spec_EndRead.l0 : Nat → ByteArray → Int → Int → Int → Int → Option (Int × Int × Bool)
 | 0, _, _, _, _, _ => none
 | k + 1, x0, x4, x6, x373000, x373001 => if x6 < x4 then (if 0 ≤ x6 then (if x6 < (x0.size : Int) then ((spec_l1Digit.f (bt x0 x6)).bind fun t373 => (spec_EndRead.l0 k x0 x4 (wrap64 (x6 + 1)) x373000 (wrap64 ((wrap64 (10 * x373001)) + t373)))) else (none)) else (none)) else ((spec_EndText.f k x373000 x373001).bind fun t374 => (if t374.toList = x0.toList then (some (x373000, x373001, true)) else (some (0, 0, false))))
def spec_EndRead.f (k : Nat) (a0 : ByteArray) : Option (Int × Int × Bool) := (spec_l6In.f (a0.size : Int) 3 4).bind fun t370 => (if t370 = true then (if 0 < (a0.size : Int) then ((spec_l1Digit.f (bt a0 0)).bind fun t371 => (spec_EndRead.l0 k a0 (a0.size : Int) 2 t371 0)) else (none)) else (some (0, 0, false)))
theorem spec_EndRead.mono_l : ∀ k, (∀ y0 y1 y2 y3 y4, LeO (spec_EndRead.l0 k y0 y1 y2 y3 y4) (spec_EndRead.l0 (k + 1) y0 y1 y2 y3 y4))
 | 0 => fun _ _ _ _ _ r h => by simp [spec_EndRead.l0] at h
 | k + 1 => by
  have ih0:=spec_EndRead.mono_l k
  ·intro y0 y1 y2 y3 y4
   unfold spec_EndRead.l0
   repeat' first
   | (with_reducible exact ih0 _ _ _ _ _)
   | (with_reducible exact spec_EndText.mono _ _ _)
   | (with_reducible exact LeO.refl _)
   | (with_reducible exact LeO.none _)
   | (with_reducible refine LeO.ite ?_ ?_)
   | (with_reducible refine LeO.bind ?_ (fun _ => ?_))
   | exact ih0 _ _ _ _ _
   | exact spec_EndText.mono _ _ _
   | exact LeO.none _
   | refine LeO.ite ?_ ?_
   | refine LeO.bind ?_ (fun _ => ?_)
theorem spec_EndRead.mono : ∀ a0 k, LeO (spec_EndRead.f k a0) (spec_EndRead.f (k + 1) a0) := by
 intro a0 k
 have ih0:=spec_EndRead.mono_l k
 unfold spec_EndRead.f
 repeat' first
   | (with_reducible exact ih0 _ _ _ _ _)
   | (with_reducible exact spec_EndText.mono _ _ _)
   | (with_reducible exact LeO.refl _)
   | (with_reducible exact LeO.none _)
   | (with_reducible refine LeO.ite ?_ ?_)
   | (with_reducible refine LeO.bind ?_ (fun _ => ?_))
   | exact ih0 _ _ _ _ _
   | exact spec_EndText.mono _ _ _
   | exact LeO.none _
   | refine LeO.ite ?_ ?_
   | refine LeO.bind ?_ (fun _ => ?_)
def spec_EndRead.T8 : Bool × List (List Nat × List Nat) := (true, [([], []), ([0], [0]), ([1], [1]), ([], []), ([], []), ([3, 4], [3, 4]), ([5], [5]), ([2, 6], [2, 6]), ([0, 1, 2, 3, 4, 5, 6, 7], []), ([8, 7, 6, 0, 1, 2, 3, 4, 5, 6, 7], [7, 8])])
def spec_EndRead.B8 : List Nat := [0, 1, 3, 0, 0, 24, 56, 127, 255, 511]
theorem spec_EndRead.tab8 : rtab .any (opsOf Tryd.f33 8) = spec_EndRead.T8 := by kernel_rfl
theorem spec_EndRead.bits8 : waitsOk spec_EndRead.T8.2 spec_EndRead.B8 = true := by kernel_rfl
set_option maxHeartbeats 8000000 in
set_option maxRecDepth 100000 in
theorem spec_EndRead.calls (k : Nat) (a0 : ByteArray) (r1 : Int) (r2 : Int) (r3 : Bool) (w : World) (h : spec_EndRead.f k a0 = some (r1, r2, r3)) :
  Calls Tryd.prog 33 #[.string a0] w fun e w'=>e = .returned (.tuple #[.agg #[.int .i64 r1,.int .i64 r2],.bool r3]) ∧ Below w.heap.size w w':=by
 have hu24:=Tryd.underlying24
 have HB:=m_ (Below.refl w.heap.size w)
 have H : ((spec_l6In.f (a0.size : Int) 3 4).bind fun t370=>(if t370 = true then (if 0 < (a0.size : Int) then ((spec_l1Digit.f (bt a0 0)).bind fun t371=>(spec_EndRead.l0 k a0 (a0.size : Int) 2 t371 0)) else (none)) else (some (0,0,false)))) = some (r1,r2,r3):=h
 clear h
 replace H:=Option.bind_eq_some_iff.mp H
 obtain ⟨t370,A20,H⟩:=H
 replace H : (if t370 = true then (if 0 < (a0.size : Int) then ((spec_l1Digit.f (bt a0 0)).bind fun t371=>(spec_EndRead.l0 k a0 (a0.size : Int) 2 t371 0)) else (none)) else (some (0,0,false))) = some (r1,r2,r3):=H
 have A2:=m_ A20
 clear A20
 by_cases c3 : t370 = true
 ·subst c3
  have H1 : (if 0 < (a0.size : Int) then ((spec_l1Digit.f (bt a0 0)).bind fun t371=>(spec_EndRead.l0 k a0 (a0.size : Int) 2 t371 0)) else (none)) = some (r1,r2,r3):=by rw [if_pos rfl] at H;exact H
  clear H
  have H:=H1
  clear H1
  by_cases c4 : 0 < (a0.size : Int)
  ·rw [if_pos c4] at H
   have c4b0 : decide (0 < (a0.size : Int)) = true:=decide_eq_true c4
   have c4b1 : decide (0 < a0.size) = true:=decide_eq_true (by omega)
   clear c4
   replace H:=Option.bind_eq_some_iff.mp H
   obtain ⟨t371,A60,H⟩:=H
   replace H : (spec_EndRead.l0 k a0 (a0.size : Int) 2 t371 0) = some (r1,r2,r3):=H
   have A6:=m_ A60
   clear A60
   have H':=m_ H
   clear H
   go_enter Tryd.func33,Tryd.ntmps33
   go_wp2_with (first|((with_reducible refine gate_dst (N:=2) rfl ?_);refine box_event ?hg (N:=2) ?hd (cs:=#[.int .i64 0,.int .i64 0]) (t:=24) ?hr ?_;(case hd=>rfl);(case hg=>rfl);(case hr=>first|(go_simp;done)|(go_simp;rfl));intro gb369 hg w7 hbox hb;have n0_:=m_ (l5_ (by repeat (first|(with_reducible first|exact HB.out|apply l1_|apply l2_|apply l3_)|exact HB.out)) hb);have n1_:=m_ (hbox);have n2_:=m_ ((by rw [hg];exact (l6_ (by repeat (first|(with_reducible first|exact HB.out|apply l1_|apply l2_|apply l3_)|exact HB.out))) : w.heap.size ≤ gb369));have n3_:=m_ ((by rw [hg];exact (l6_ (by repeat (first|(with_reducible first|exact HB.out|apply l1_|apply l2_|apply l3_)|exact HB.out))) : w.heap.size ≤ gb369));clear HB;have HB:=n0_;have BK369:=n1_;have GW369:=n2_;have GE369:=n3_;clear n0_ n1_ n2_ n3_;clear hb hbox hg)|((with_reducible refine gate_callee (f:=31) rfl ?_);refine goesL_ (some 10) rfl rfl Tryd.func31 (by kernel_rfl) rfl #[.int .i64 (a0.size : Int),.int .i64 3,.int .i64 4] rfl (by (try simp only [List.map_toArray,List.map_cons,List.map_nil]);first|done|rfl|(simp only [List.length_drop,List.length_take];rfl)) ?_;(with_reducible refine (spec_l6In.calls (a0.size : Int) 3 4 true _ A2.out).mono ?_);rintro e w' ⟨rfl,⟨nd,rfl⟩⟩;refine ⟨_,rfl,?_⟩;(try (rw [drewN_self w7];generalize hq_ : World.drewN w7 _ = w7;have n0_ : Aside0 (w7.heap[gb369]? = some (.cells #[.int .i64 0,.int .i64 0] 24 (0,0))):=⟨by rw [← hq_];exact (by (with_reducible repeat first|apply b1_|apply b2_|apply b3_);exact BK369.out)⟩;have n1_ : Aside0 (Below w.heap.size w w7):=⟨by rw [← hq_];exact (by repeat (first|(with_reducible first|exact HB.out|apply l1_|apply l2_|apply l3_|refine l4_ ?_ GE369.out)|exact HB.out))⟩;clear BK369 HB hq_;have BK369:=n0_;have HB:=n1_;clear n0_ n1_));have p5 : 0 ≤ (0 : Int):=(by omega);have q5 : 0 < a0.size:=(by have : (0 : Int) < (a0.size : Int):=of_decide_eq_true (by first|(with_reducible assumption)|assumption);omega);have hx5 : ∀ h : 0 < a0.size,((a0[0]'h).toNat : Int) = bt a0 0:=bt_at a0 0;clear p5;have qi5 : (0 < (a0.size : Int)) = True:=eq_true (of_decide_eq_true (by first|(with_reducible assumption)|assumption));replace q5:=eq_true q5)|((with_reducible refine gate_callee (f:=54) rfl ?_);refine goesL_ (some 15) rfl rfl Tryd.func54 (by kernel_rfl) rfl #[.int .u8 (bt a0 0)] rfl (by (try simp only [List.map_toArray,List.map_cons,List.map_nil]);first|done|rfl|(simp only [List.length_drop,List.length_take];rfl)) ?_;(with_reducible refine (spec_l1Digit.calls (bt a0 0) t371 _ A6.out).mono ?_);rintro e w' ⟨rfl,⟨nd,rfl⟩⟩;refine ⟨_,rfl,?_⟩;(try (rw [drewN_self w7];generalize hq_ : World.drewN w7 _ = w7;have n0_ : Aside0 (w7.heap[gb369]? = some (.cells #[.int .i64 0,.int .i64 0] 24 (0,0))):=⟨by rw [← hq_];exact (by (with_reducible repeat first|apply b1_|apply b2_|apply b3_);exact BK369.out)⟩;have n1_ : Aside0 (Below w.heap.size w w7):=⟨by rw [← hq_];exact (by repeat (first|(with_reducible first|exact HB.out|apply l1_|apply l2_|apply l3_|refine l4_ ?_ GE369.out)|exact HB.out))⟩;clear BK369 HB hq_;have BK369:=n0_;have HB:=n1_;clear n0_ n1_)))|((with_reducible refine gate_dst (N:=5) rfl ?_);refine box_event ?hg (N:=5) ?hd (cs:=#[.int .i64 0,.int .i64 0]) (t:=24) ?hr ?_;(case hd=>rfl);(case hg=>rfl);(case hr=>first|(go_simp;done)|(go_simp;rfl));intro gb372 hg w8 hbox hb;have n0_:=m_ (blk_below (g:=gb369) (o:=.cells #[.int .i64 0,.int .i64 0] 24 (0,0)) (by (with_reducible repeat first|apply b1_|apply b2_|apply b3_);exact BK369.out) hb);have n1_:=m_ (l5_ (by repeat (first|(with_reducible first|exact HB.out|apply l1_|apply l2_|apply l3_|refine l4_ ?_ GE369.out)|exact HB.out)) hb);have n2_:=m_ (hbox);have n3_:=m_ ((by rw [hg];exact (l6_ (by repeat (first|(with_reducible first|exact HB.out|apply l1_|apply l2_|apply l3_|refine l4_ ?_ GE369.out)|exact HB.out))) : w.heap.size ≤ gb372));have n4_:=n3_;have n5_:=m_ ((by rw [hg];exact Nat.ne_of_lt (blk_lt (g:=gb369) (o:=.cells #[.int .i64 0,.int .i64 0] 24 (0,0)) (by (with_reducible repeat first|apply b1_|apply b2_|apply b3_);exact BK369.out)) : gb369 ≠ gb372));have n6_:=m_ n5_.out.symm;clear BK369;clear HB;have BK369:=n0_;have HB:=n1_;have BK372:=n2_;have GW372:=n3_;have GE372:=n4_;have NB369_372:=n5_;have NB372_369:=n6_;clear n0_ n1_ n2_ n3_ n4_ n5_ n6_;clear hb hbox hg;have hnb9:=NB372_369.out;have hnc9:=NB369_372.out;have hcz10_0 : w8.cell? ⟨gb372,0,none⟩ = some (.int .i64 0):=(c_ BK372.out 0).trans rfl;have hcz10_1 : w8.cell? ⟨gb372,1,none⟩ = some (.int .i64 0):=(c_ BK372.out 1).trans rfl;have hfz10_0:=f_ BK372.out 0;have hfz10_1:=f_ BK372.out 1))
   go_loopg [6] k (fun kq v6 w'=>∃ (x6_1 : Int) (x373001_1 : Int),v6 = .int .i64 x6_1 ∧ Aside0 (spec_EndRead.l0 kq a0 (a0.size : Int) x6_1 t371 x373001_1 = some (r1,r2,r3)) ∧ Aside0 (kq ≤ k) ∧ Aside0 (w'.heap[gb369]? = some (.cells #[.int .i64 0,.int .i64 0] 24 (0,0))) ∧ Aside0 (w'.heap[gb372]? = some (.cells #[.int .i64 t371,.int .i64 x373001_1] 24 (0,0))) ∧ Aside0 (Below w.heap.size w w'))
   case atStart=>exact ⟨(2),(0),(by first|rfl|(simp;done)|(simp [*];done)),H',⟨Nat.le_refl _⟩,⟨by (with_reducible repeat first|apply b1_|apply b2_|apply b3_);refine b4_ ?_ NB369_372.out _;(with_reducible repeat first|apply b1_|apply b2_|apply b3_);refine b4_ ?_ NB369_372.out _;(with_reducible repeat first|apply b1_|apply b2_|apply b3_);exact BK369.out⟩,⟨by (with_reducible repeat first|apply b1_|apply b2_|apply b3_);refine blk_put (cs:=#[.int .i64 t371,.int .i64 0]) ?_ 1 _ rfl;(with_reducible repeat first|apply b1_|apply b2_|apply b3_);refine blk_put (cs:=#[.int .i64 0,.int .i64 0]) ?_ 0 _ rfl;(with_reducible repeat first|apply b1_|apply b2_|apply b3_);exact BK372.out⟩,⟨by repeat (first|(with_reducible first|exact HB.out|apply l1_|apply l2_|apply l3_|refine l4_ ?_ GE369.out|refine l4_ ?_ GE372.out)|exact HB.out)⟩⟩
   case round =>
    clear H'
    try clear p2
    try clear c3
    try clear c4
    try clear c4b0
    try clear c4b1
    try clear c5
    try clear p5
    try clear q5
    try clear hx5
    try clear qi5
    try clear c9
    try clear hcz10_0
    try clear hcz10_1
    try clear hfz10_0
    try clear hfz10_1
    try clear p5
    try clear q5
    obtain ⟨x6_1,x373001_1,rfl,HA,HK1,BK369,BK372,HB⟩:=hrel
    cases gk with
    | zero => exact absurd HA.out (by simp [spec_EndRead.l0])
    | succ k1 =>
     have H:=HA.out
     clear HA
     simp only [spec_EndRead.l0] at H
     by_cases c11 : x6_1 < (a0.size : Int)
     ·rw [if_pos c11] at H
      have c11b0 : decide (x6_1 < (a0.size : Int)) = true:=decide_eq_true c11
      clear c11
      by_cases c12 : 0 ≤ x6_1
      ·rw [if_pos c12] at H
       have c12b0 : decide (0 ≤ x6_1) = true:=decide_eq_true c12
       clear c12
       by_cases c13 : x6_1 < (a0.size : Int)
       ·rw [if_pos c13] at H
        have c13b0 : decide (x6_1 < (a0.size : Int)) = true:=decide_eq_true c13
        clear c13
        replace H:=Option.bind_eq_some_iff.mp H
        obtain ⟨t373,A150,H⟩:=H
        replace H : (spec_EndRead.l0 k1 a0 (a0.size : Int) (wrap64 (x6_1 + 1)) t371 (wrap64 ((wrap64 (10 * x373001_1)) + t373))) = some (r1,r2,r3):=H
        have A15:=m_ A150
        clear A150
        have H':=m_ H
        clear H
        try go_wp2
        have n0_:=m_ (b2_ BK369.out)
        have n1_:=m_ (b2_ BK372.out)
        have n2_:=m_ (l3_ HB.out)
        clear BK369
        clear BK372
        clear HB
        have BK369:=n0_
        have BK372:=n1_
        have HB:=n2_
        clear n0_ n1_ n2_
        have p14 : 0 ≤ (x6_1 : Int):=of_decide_eq_true (by first|(with_reducible assumption)|assumption)
        have q14 : x6_1 < (a0.size : Int):=of_decide_eq_true (by first|(with_reducible assumption)|assumption)
        have hx14:=bt_at a0 x6_1
        replace p14:=eq_true p14
        replace q14:=eq_true q14
        refine start_ (n:=10) (S:=fun w'=>w'.cell? ⟨gb372,0,none⟩ = some (.int .i64 t371) ∧ w'.cell? ⟨gb372,1,none⟩ = some (.int .i64 x373001_1)) (ds:=[9]) #[false,false,false,false,false,false,false,false,false,false] (by kernel_rfl) rfl rfl ⟨(c_ BK372.out 0).trans rfl,(c_ BK372.out 1).trans rfl⟩ (fun hHeld=>?_);refine with_tabW spec_EndRead.tab8 spec_EndRead.bits8 (fun HT_ HW_=>?_)
        generalize wr.drew = w16 at BK369 BK372 HB hHeld ⊢
        refine pure_ (i:=0) (N:=some 22) (v:=?_) (a':=?_) #[true,false,false,false,false,false,false,false,false,false] rfl rfl (any_of HT_.out (by kernel_rfl)) (fun _ _ _ h=>h) (Or.inl ⟨by rfl,?_⟩) ?_ ?_
        rotate_left
        ·intro w'
         go_simp
         with_reducible rfl
        rotate_left
        ·simp only [Act.put,s1_,s2_,s3_,i64_w,i32_w]
         rfl
        refine pure_ (i:=3) (N:=some 25) (v:=?_) (a':=?_) #[true,false,false,true,false,false,false,false,false,false] rfl rfl (any_of HT_.out (by kernel_rfl)) (fun _ _ _ h=>h) (Or.inl ⟨by rfl,?_⟩) ?_ ?_
        rotate_left
        ·intro w'
         go_simp
         with_reducible rfl
        rotate_left
        ·simp only [Act.put,s1_,s2_,s3_,i64_w,i32_w]
         rfl
        refine pure_ (i:=4) (N:=some 26) (v:=?_) (a':=?_) #[true,false,false,true,true,false,false,false,false,false] rfl rfl (any_of HT_.out (by kernel_rfl)) (fun _ _ _ h=>h) (Or.inl ⟨by rfl,?_⟩) ?_ ?_
        rotate_left
        ·intro w'
         go_simp
         with_reducible rfl
        rotate_left
        ·simp only [Act.put,s1_,s2_,s3_,i64_w,i32_w]
         rfl
        refine take_ (i:=1) (N:=some 23) (v:=?_) (a':=?_) #[true,true,false,true,true,false,false,false,false,false] rfl rfl (take_ofW HT_.out HW_.out (by kernel_rfl)) (fun _ _ _ h=>h) (Or.inl ⟨by rfl,?_⟩) hHeld ?_ ?_
        rotate_left
        ·rintro w' ⟨s0,s1⟩
         go_simp
         with_reducible rfl
        rotate_left
        ·simp only [Act.put,s1_,s2_,s3_,i64_w,i32_w]
         rfl
        refine pure_ (i:=2) (N:=some 24) (v:=?_) (a':=?_) #[true,true,true,true,true,false,false,false,false,false] rfl rfl (any_of HT_.out (by kernel_rfl)) (fun _ _ _ h=>h) (Or.inl ⟨by rfl,?_⟩) ?_ ?_
        rotate_left
        ·intro w'
         go_simp
         with_reducible rfl
        rotate_left
        ·simp only [Act.put,s1_,s2_,s3_,i64_w,i32_w]
         rfl
        refine take_ (i:=5) (N:=some 27) (v:=?_) (a':=?_) #[true,true,true,true,true,true,false,false,false,false] rfl rfl (take_ofW HT_.out HW_.out (by kernel_rfl)) (fun _ _ _ h=>h) (Or.inl ⟨by rfl,?_⟩) hHeld ?_ ?_
        rotate_left
        ·rintro w' ⟨s0,s1⟩
         go_simp
         with_reducible rfl
        rotate_left
        ·simp only [Act.put,s1_,s2_,s3_,i64_w,i32_w]
         rfl
        refine one_ (i:=6) (N:=some 28) #[true,true,true,true,true,true,true,false,false,false] rfl rfl (one_of HT_.out (by kernel_rfl)) (by decide) (fun K hK=>?_)
        refine goes_ Tryd.func54 (by kernel_rfl) rfl #[.int .u8 (bt a0 x6_1)] (by rfl) rfl rfl (by (try simp only [List.map_toArray,List.map_cons,List.map_nil]);first|done|rfl|(simp only [List.length_drop,List.length_take];rfl)) ?_
        with_reducible refine (spec_l1Digit.calls (bt a0 x6_1) t373 _ A15.out).mono ?_
        rintro e w' ⟨rfl,⟨nd,rfl⟩⟩
        refine ⟨_,rfl,?_⟩
        refine hK.out _ _ ⟨(c_ BK372.out 0).trans rfl,(c_ BK372.out 1).trans rfl⟩ (fun hHeld=>?_)
        clear hK K
        refine norm_ (a':=?_) ?_ ?_
        rotate_left
        ·show Act.put _ (some 28) _ = _
         simp only [Act.put,s1_,s2_,s3_,i64_w,i32_w]
         rfl
        refine pure_ (i:=7) (N:=some 29) (v:=?_) (a':=?_) #[true,true,true,true,true,true,true,true,false,false] rfl rfl (any_of HT_.out (by kernel_rfl)) (fun _ _ _ h=>h) (Or.inl ⟨by rfl,?_⟩) ?_ ?_
        rotate_left
        ·intro w'
         go_simp
         with_reducible rfl
        rotate_left
        ·simp only [Act.put,s1_,s2_,s3_,i64_w,i32_w]
         rfl
        refine pure_ (i:=8) (N:=some 30) (v:=?_) (a':=?_) #[true,true,true,true,true,true,true,true,true,false] rfl rfl (any_of HT_.out (by kernel_rfl)) (fun _ _ _ h=>h) (Or.inl ⟨by rfl,?_⟩) ?_ ?_
        rotate_left
        ·intro w'
         go_simp
         with_reducible rfl
        rotate_left
        ·simp only [Act.put,s1_,s2_,s3_,i64_w,i32_w]
         rfl
        refine last_ (i:=9) (N:=none) #[true,true,true,true,true,true,true,true,true,true] rfl rfl (one_of HT_.out (by kernel_rfl)) (by decide) (fun K hK=>?_)
        have hs17 : w16.cell? ⟨gb372,1,none⟩ = some (.int .i64 x373001_1):=(c_ BK372.out 1).trans rfl
        have hfs17:=f_ BK372.out 1
        have hns17_0:=NB369_372.out
        have hms17_0:=NB372_369.out
        refine skip_ (w1:=?_) (by rfl) rfl ?_ ?_
        rotate_left
        ·go_simp
         rfl
        refine hK.out _ _ ?_
        clear hK K
        refine done_ (done_of HT_.out (by kernel_rfl)) ?_
        try go_wp2
        go_roundg k1
        case measure=>have:=HK1.out;omega
        case rel=>exact ⟨(wrap64 (x6_1 + 1)),(wrap64 ((wrap64 (10 * x373001_1)) + t373)),(by first|rfl|(simp;done)|(simp [*];done)),H',⟨by have:=HK1.out;omega⟩,⟨by (with_reducible repeat first|apply b1_|apply b2_|apply b3_);refine b4_ ?_ NB369_372.out _;(with_reducible repeat first|apply b1_|apply b2_|apply b3_);exact BK369.out⟩,⟨by (with_reducible repeat first|apply b1_|apply b2_|apply b3_);refine blk_put (cs:=#[.int .i64 t371,.int .i64 x373001_1]) ?_ 1 _ rfl;(with_reducible repeat first|apply b1_|apply b2_|apply b3_);exact BK372.out⟩,⟨by repeat (first|(with_reducible first|exact HB.out|apply l1_|apply l2_|apply l3_|refine l4_ ?_ GE369.out|refine l4_ ?_ GE372.out)|exact HB.out)⟩⟩
       ·rw [if_neg c13] at H
        exact absurd H (by simp)
      ·rw [if_neg c12] at H
       exact absurd H (by simp)
     ·rw [if_neg c11] at H
      have c11b0 : decide (x6_1 < (a0.size : Int)) = false:=decide_eq_false c11
      clear c11
      replace H:=Option.bind_eq_some_iff.mp H
      obtain ⟨t374,A180,H⟩:=H
      replace H : (if t374.toList = a0.toList then (some (t371,x373001_1,true)) else (some (0,0,false))) = some (r1,r2,r3):=H
      have A18:=m_ A180
      clear A180
      by_cases c19 : t374.toList = a0.toList
      ·rw [if_pos c19] at H
       have c19b0 : (t374.toList == a0.toList) = true:=beq_iff_eq.mpr c19
       have c19b1 : (t374.toList != a0.toList) = false:=bne_eq_false_iff_eq.mpr c19
       clear c19
       simp only [Option.some.injEq,Prod.mk.injEq] at H
       obtain ⟨rfl,rfl,rfl⟩:=H
       have hnb20:=NB372_369.out
       have hnc20:=NB369_372.out
       have hcz21_0 : wr.cell? ⟨gb372,0,none⟩ = some (.int .i64 t371):=(c_ BK372.out 0).trans rfl
       have hcz21_1 : wr.cell? ⟨gb372,1,none⟩ = some (.int .i64 x373001_1):=(c_ BK372.out 1).trans rfl
       have hfz21_0:=f_ BK372.out 0
       have hfz21_1:=f_ BK372.out 1
       go_wp2_with (first|((with_reducible refine gate_callee (f:=21) rfl ?_);refine goesL_ (some 32) rfl rfl Tryd.func21 (by kernel_rfl) rfl #[.agg #[.int .i64 t371,.int .i64 x373001_1]] rfl (by (try simp only [List.map_toArray,List.map_cons,List.map_nil]);first|done|rfl|(simp only [List.length_drop,List.length_take];rfl)) ?_;(with_reducible refine (spec_EndText.calls k1 t371 x373001_1 t374 _ A18.out).mono ?_);rintro e w22 ⟨rfl,hb⟩;refine ⟨_,rfl,?_⟩;have n0_:=m_ (blk_below (g:=gb369) (o:=.cells #[.int .i64 0,.int .i64 0] 24 (0,0)) (by (with_reducible repeat first|apply b1_|apply b2_|apply b3_);exact BK369.out) hb);have n1_:=m_ (blk_below (g:=gb372) (o:=.cells #[.int .i64 t371,.int .i64 x373001_1] 24 (0,0)) (by (with_reducible repeat first|apply b1_|apply b2_|apply b3_);exact BK372.out) hb);have n2_:=m_ (l5_ (by repeat (first|(with_reducible first|exact HB.out|apply l1_|apply l2_|apply l3_|refine l4_ ?_ GE369.out|refine l4_ ?_ GE372.out)|exact HB.out)) hb);clear BK369;clear BK372;clear HB;have BK369:=n0_;have BK372:=n1_;have HB:=n2_;clear n0_ n1_ n2_;(try clear hb);(try clear hb2);(try clear hk);(try clear hi);have hcz23_0 : w22.cell? ⟨gb372,0,none⟩ = some (.int .i64 t371):=(c_ BK372.out 0).trans rfl;have hcz23_1 : w22.cell? ⟨gb372,1,none⟩ = some (.int .i64 x373001_1):=(c_ BK372.out 1).trans rfl;have hfz23_0:=f_ BK372.out 0;have hfz23_1:=f_ BK372.out 1;have hcz24_0 : w22.cell? ⟨gb369,0,none⟩ = some (.int .i64 0):=(c_ BK369.out 0).trans rfl;have hcz24_1 : w22.cell? ⟨gb369,1,none⟩ = some (.int .i64 0):=(c_ BK369.out 1).trans rfl;have hfz24_0:=f_ BK369.out 0;have hfz24_1:=f_ BK369.out 1))
       refine bodyPost_ret (results_ct rfl _ _ gb369 24 #[.int .i64 t371,.int .i64 x373001_1] (0,0) _ rfl (by (with_reducible repeat first|apply b1_|apply b2_|apply b3_);refine blk_put (cs:=#[.int .i64 t371,.int .i64 0]) ?_ 1 _ rfl;(with_reducible repeat first|apply b1_|apply b2_|apply b3_);refine blk_put (cs:=#[.int .i64 0,.int .i64 0]) ?_ 0 _ rfl;(with_reducible repeat first|apply b1_|apply b2_|apply b3_);exact BK369.out) Tryd.underlying24 rfl (by kernel_rfl)) rfl ?_
       exact ⟨by first|rfl|(simp [e1_,e2_] <;> rfl)|(simp [*,e1_,e2_] <;> rfl)|(simp [e1_,e2_,pk_empty1,pk_empty2];done)|(simp [*,e1_,e2_,pk_empty1,pk_empty2];done),by repeat (first|(with_reducible first|exact HB.out|apply l1_|apply l2_|apply l3_|refine l4_ ?_ GE369.out|refine l4_ ?_ GE372.out)|exact HB.out)⟩
      ·rw [if_neg c19] at H
       have c19b0 : (t374.toList == a0.toList) = false:=beq_eq_false_iff_ne.mpr c19
       have c19b1 : (t374.toList != a0.toList) = true:=bne_iff_ne.mpr c19
       simp only [Option.some.injEq,Prod.mk.injEq] at H
       obtain ⟨rfl,rfl,rfl⟩:=H
       have hnb25:=NB372_369.out
       have hnc25:=NB369_372.out
       have hcz26_0 : wr.cell? ⟨gb372,0,none⟩ = some (.int .i64 t371):=(c_ BK372.out 0).trans rfl
       have hcz26_1 : wr.cell? ⟨gb372,1,none⟩ = some (.int .i64 x373001_1):=(c_ BK372.out 1).trans rfl
       have hfz26_0:=f_ BK372.out 0
       have hfz26_1:=f_ BK372.out 1
       go_wp2_with (first|((with_reducible refine gate_callee (f:=21) rfl ?_);refine goesL_ (some 32) rfl rfl Tryd.func21 (by kernel_rfl) rfl #[.agg #[.int .i64 t371,.int .i64 x373001_1]] rfl (by (try simp only [List.map_toArray,List.map_cons,List.map_nil]);first|done|rfl|(simp only [List.length_drop,List.length_take];rfl)) ?_;(with_reducible refine (spec_EndText.calls k1 t371 x373001_1 t374 _ A18.out).mono ?_);rintro e w27 ⟨rfl,hb⟩;refine ⟨_,rfl,?_⟩;have n0_:=m_ (blk_below (g:=gb369) (o:=.cells #[.int .i64 0,.int .i64 0] 24 (0,0)) (by (with_reducible repeat first|apply b1_|apply b2_|apply b3_);exact BK369.out) hb);have n1_:=m_ (blk_below (g:=gb372) (o:=.cells #[.int .i64 t371,.int .i64 x373001_1] 24 (0,0)) (by (with_reducible repeat first|apply b1_|apply b2_|apply b3_);exact BK372.out) hb);have n2_:=m_ (l5_ (by repeat (first|(with_reducible first|exact HB.out|apply l1_|apply l2_|apply l3_|refine l4_ ?_ GE369.out|refine l4_ ?_ GE372.out)|exact HB.out)) hb);clear BK369;clear BK372;clear HB;have BK369:=n0_;have BK372:=n1_;have HB:=n2_;clear n0_ n1_ n2_;(try clear hb);(try clear hb2);(try clear hk);(try clear hi);have hcz28_0 : w27.cell? ⟨gb369,0,none⟩ = some (.int .i64 0):=(c_ BK369.out 0).trans rfl;have hcz28_1 : w27.cell? ⟨gb369,1,none⟩ = some (.int .i64 0):=(c_ BK369.out 1).trans rfl;have hfz28_0:=f_ BK369.out 0;have hfz28_1:=f_ BK369.out 1))
       refine bodyPost_ret (results_ct rfl _ _ gb369 24 #[.int .i64 0,.int .i64 0] (0,0) _ rfl (by (with_reducible repeat first|apply b1_|apply b2_|apply b3_);refine blk_put (cs:=#[.int .i64 0,.int .i64 0]) ?_ 1 _ rfl;(with_reducible repeat first|apply b1_|apply b2_|apply b3_);refine blk_put (cs:=#[.int .i64 0,.int .i64 0]) ?_ 0 _ rfl;(with_reducible repeat first|apply b1_|apply b2_|apply b3_);exact BK369.out) Tryd.underlying24 rfl (by kernel_rfl)) rfl ?_
       exact ⟨by first|rfl|(simp [e1_,e2_] <;> rfl)|(simp [*,e1_,e2_] <;> rfl)|(simp [e1_,e2_,pk_empty1,pk_empty2];done)|(simp [*,e1_,e2_,pk_empty1,pk_empty2];done),by repeat (first|(with_reducible first|exact HB.out|apply l1_|apply l2_|apply l3_|refine l4_ ?_ GE369.out|refine l4_ ?_ GE372.out)|exact HB.out)⟩
  ·rw [if_neg c4] at H
   exact absurd H (by simp)
 ·replace c3:=Bool.eq_false_iff.mpr c3
  subst c3
  have H1 : (some (0,0,false)) = some (r1,r2,r3):=by rw [if_neg (show ¬ (false = true) by decide)] at H;exact H
  clear H
  have H:=H1
  clear H1
  simp only [Option.some.injEq,Prod.mk.injEq] at H
  obtain ⟨rfl,rfl,rfl⟩:=H
  go_enter Tryd.func33,Tryd.ntmps33
  go_wp2_with (first|((with_reducible refine gate_dst (N:=2) rfl ?_);refine box_event ?hg (N:=2) ?hd (cs:=#[.int .i64 0,.int .i64 0]) (t:=24) ?hr ?_;(case hd=>rfl);(case hg=>rfl);(case hr=>first|(go_simp;done)|(go_simp;rfl));intro gb369 hg w29 hbox hb;have n0_:=m_ (l5_ (by repeat (first|(with_reducible first|exact HB.out|apply l1_|apply l2_|apply l3_)|exact HB.out)) hb);have n1_:=m_ (hbox);have n2_:=m_ ((by rw [hg];exact (l6_ (by repeat (first|(with_reducible first|exact HB.out|apply l1_|apply l2_|apply l3_)|exact HB.out))) : w.heap.size ≤ gb369));have n3_:=m_ ((by rw [hg];exact (l6_ (by repeat (first|(with_reducible first|exact HB.out|apply l1_|apply l2_|apply l3_)|exact HB.out))) : w.heap.size ≤ gb369));clear HB;have HB:=n0_;have BK369:=n1_;have GW369:=n2_;have GE369:=n3_;clear n0_ n1_ n2_ n3_;clear hb hbox hg)|((with_reducible refine gate_callee (f:=31) rfl ?_);refine goesL_ (some 10) rfl rfl Tryd.func31 (by kernel_rfl) rfl #[.int .i64 (a0.size : Int),.int .i64 3,.int .i64 4] rfl (by (try simp only [List.map_toArray,List.map_cons,List.map_nil]);first|done|rfl|(simp only [List.length_drop,List.length_take];rfl)) ?_;(with_reducible refine (spec_l6In.calls (a0.size : Int) 3 4 false _ A2.out).mono ?_);rintro e w' ⟨rfl,⟨nd,rfl⟩⟩;refine ⟨_,rfl,?_⟩;(try (rw [drewN_self w29];generalize hq_ : World.drewN w29 _ = w29;have n0_ : Aside0 (w29.heap[gb369]? = some (.cells #[.int .i64 0,.int .i64 0] 24 (0,0))):=⟨by rw [← hq_];exact (by (with_reducible repeat first|apply b1_|apply b2_|apply b3_);exact BK369.out)⟩;have n1_ : Aside0 (Below w.heap.size w w29):=⟨by rw [← hq_];exact (by repeat (first|(with_reducible first|exact HB.out|apply l1_|apply l2_|apply l3_|refine l4_ ?_ GE369.out)|exact HB.out))⟩;clear BK369 HB hq_;have BK369:=n0_;have HB:=n1_;clear n0_ n1_));have hcz30_0 : w29.cell? ⟨gb369,0,none⟩ = some (.int .i64 0):=(c_ BK369.out 0).trans rfl;have hcz30_1 : w29.cell? ⟨gb369,1,none⟩ = some (.int .i64 0):=(c_ BK369.out 1).trans rfl;have hfz30_0:=f_ BK369.out 0;have hfz30_1:=f_ BK369.out 1))
  refine bodyPost_ret (results_ct rfl _ _ gb369 24 #[.int .i64 0,.int .i64 0] (0,0) _ rfl (by (with_reducible repeat first|apply b1_|apply b2_|apply b3_);refine blk_put (cs:=#[.int .i64 0,.int .i64 0]) ?_ 1 _ rfl;(with_reducible repeat first|apply b1_|apply b2_|apply b3_);refine blk_put (cs:=#[.int .i64 0,.int .i64 0]) ?_ 0 _ rfl;(with_reducible repeat first|apply b1_|apply b2_|apply b3_);exact BK369.out) Tryd.underlying24 rfl (by kernel_rfl)) rfl ?_
  exact ⟨by first|rfl|(simp [e1_,e2_] <;> rfl)|(simp [*,e1_,e2_] <;> rfl)|(simp [e1_,e2_,pk_empty1,pk_empty2];done)|(simp [*,e1_,e2_,pk_empty1,pk_empty2];done),by repeat (first|(with_reducible first|exact HB.out|apply l1_|apply l2_|apply l3_|refine l4_ ?_ GE369.out)|exact HB.out)⟩

end Go.Proofs.YtejpgpjjocbbjaaDoor.A
