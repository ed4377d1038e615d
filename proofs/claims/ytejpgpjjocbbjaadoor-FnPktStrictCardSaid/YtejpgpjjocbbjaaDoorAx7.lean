-- Printed by myprint.py (wip/tools) out of the translation. Not trusted: Lean checks it.
import Derived.Test.YtejpgpjjocbbjaaDoorAx0
import Derived.Test.YtejpgpjjocbbjaaDoorAx2
import Derived.Test.YtejpgpjjocbbjaaDoorAx3
import Derived.Test.YtejpgpjjocbbjaaDoorAx4
import Derived.Test.YtejpgpjjocbbjaaDoorAx5
import Derived.Test.YtejpgpjjocbbjaaDoorAx6
namespace Go.Proofs.YtejpgpjjocbbjaaDoor.A
open Go.RowKit Go.Proofs.YtejpgpjjocbbjaaDoorW.PrintWords Go.Proofs.YtejpgpjjocbbjaaDoorW.PrintLast Go.Proofs.YtejpgpjjocbbjaaDoorW.PrintMore
attribute [local go_sem] max2_int min2_int max_two min_two max_three min_three max_four min_four   -- for this text's walks alone
set_option linter.unusedVariables false
set_option linter.unusedSimpArgs false

/-! ### impl_PktRead: function 10 -/
mutual
def impl_PktRead.j0 : Nat → ByteArray → List ByteArray → Bool → Option (Int × Int × Int × Int × Int × Int × ByteArray × Bool)
 | 0, _, _, _ => none
 | k + 1, x0, x4, x22 => if x22 = true then (some (0, 0, 0, 0, 0, 0, (⟨#[]⟩ : ByteArray), false)) else (if 0 < (x4.length : Int) then (if (rdOf ByteArray.empty x4 0).toList = ([100, 97, 116, 97] : List UInt8) then (impl_PktRead.j1 k x0 x4 1 0 0 0 0 0 (⟨#[]⟩ : ByteArray)) else (impl_PktRead.j1 k x0 x4 2 0 0 0 0 0 (⟨#[]⟩ : ByteArray))) else (none))
def impl_PktRead.j1 : Nat → ByteArray → List ByteArray → Int → Int → Int → Int → Int → Int → ByteArray → Option (Int × Int × Int × Int × Int × Int × ByteArray × Bool)
 | 0, _, _, _, _, _, _, _, _, _ => none
 | k + 1, x0, x4, x277000, x277001, x277002, x277003, x277004, x277005, x277006 => if 1 < (x4.length : Int) then ((impl_EndRead.f (rdOf ByteArray.empty x4 1)).bind fun bt279 => (if 2 < (x4.length : Int) then ((impl_EndRead.f (rdOf ByteArray.empty x4 2)).bind fun bt284 => (if 3 < (x4.length : Int) then ((strconv_Atoi.f (rdOf ByteArray.empty x4 3)).bind fun bt289 => (if (x4.length : Int) = 5 then (if 4 < (x4.length : Int) then ((strings_Clone.f (rdOf ByteArray.empty x4 4)).bind fun t292 => (impl_PktRead.j2 k x0 bt279.2.2 bt284.2.2 bt289.2 x277000 bt279.1 bt279.2.1 bt284.1 bt284.2.1 bt289.1 t292)) else (none)) else (impl_PktRead.j2 k x0 bt279.2.2 bt284.2.2 bt289.2 x277000 bt279.1 bt279.2.1 bt284.1 bt284.2.1 bt289.1 x277006))) else (none))) else (none))) else (none)
def impl_PktRead.j2 : Nat → ByteArray → Bool → Bool → Option Int → Int → Int → Int → Int → Int → Int → ByteArray → Option (Int × Int × Int × Int × Int × Int × ByteArray × Bool)
 | 0, _, _, _, _, _, _, _, _, _, _, _ => none
 | k + 1, x0, x7, x9, x11, x277000, x277001, x277002, x277003, x277004, x277005, x277006 => if x7 = true then (if x9 = true then (if x11.isNone = true then ((impl_PktOk.f x277000 x277001 x277002 x277003 x277004 x277005 x277006).bind fun t294 => (if t294 = true then ((impl_PktText.f x277000 x277001 x277002 x277003 x277004 x277005 x277006).bind fun t295 => (if t295.toList = x0.toList then (some (x277000, x277001, x277002, x277003, x277004, x277005, x277006, true)) else (some (0, 0, 0, 0, 0, 0, (⟨#[]⟩ : ByteArray), false)))) else (some (0, 0, 0, 0, 0, 0, (⟨#[]⟩ : ByteArray), false)))) else (some (0, 0, 0, 0, 0, 0, (⟨#[]⟩ : ByteArray), false))) else (some (0, 0, 0, 0, 0, 0, (⟨#[]⟩ : ByteArray), false))) else (some (0, 0, 0, 0, 0, 0, (⟨#[]⟩ : ByteArray), false))
end
def impl_PktRead.f (k : Nat) (a0 : ByteArray) : Option (Int × Int × Int × Int × Int × Int × ByteArray × Bool) := (strings_Split.f a0 (⟨#[32]⟩ : ByteArray)).bind fun t272 => (if (a0.size : Int) > 70 then (impl_PktRead.j0 k a0 t272 true) else ((impl_within.f (t272.length : Int) 4 5).bind fun t275 => (impl_PktRead.j0 k a0 t272 (!t275))))
theorem impl_PktRead.mono_l : ∀ k, (∀ y0 y1 y2, LeO (impl_PktRead.j0 k y0 y1 y2) (impl_PktRead.j0 (k + 1) y0 y1 y2)) ∧ (∀ y0 y1 y2 y3 y4 y5 y6 y7 y8, LeO (impl_PktRead.j1 k y0 y1 y2 y3 y4 y5 y6 y7 y8) (impl_PktRead.j1 (k + 1) y0 y1 y2 y3 y4 y5 y6 y7 y8)) ∧ (∀ y0 y1 y2 y3 y4 y5 y6 y7 y8 y9 y10, LeO (impl_PktRead.j2 k y0 y1 y2 y3 y4 y5 y6 y7 y8 y9 y10) (impl_PktRead.j2 (k + 1) y0 y1 y2 y3 y4 y5 y6 y7 y8 y9 y10))
 | 0 => ⟨fun _ _ _ r h => by simp [impl_PktRead.j0] at h, fun _ _ _ _ _ _ _ _ _ r h => by simp [impl_PktRead.j1] at h, fun _ _ _ _ _ _ _ _ _ _ _ r h => by simp [impl_PktRead.j2] at h⟩
 | k + 1 => by
  obtain ⟨ih0,ih1,ih2⟩:=impl_PktRead.mono_l k
  refine ⟨?_,?_,?_⟩
  ·intro y0 y1 y2
   unfold impl_PktRead.j0
   repeat' first
   | (with_reducible exact ih0 _ _ _)
   | (with_reducible exact ih1 _ _ _ _ _ _ _ _ _)
   | (with_reducible exact ih2 _ _ _ _ _ _ _ _ _ _ _)
   | (with_reducible exact LeO.refl _)
   | (with_reducible exact LeO.none _)
   | (with_reducible refine LeO.ite ?_ ?_)
   | (with_reducible refine LeO.bind ?_ (fun _ => ?_))
   | exact ih0 _ _ _
   | exact ih1 _ _ _ _ _ _ _ _ _
   | exact ih2 _ _ _ _ _ _ _ _ _ _ _
   | exact LeO.none _
   | refine LeO.ite ?_ ?_
   | refine LeO.bind ?_ (fun _ => ?_)
  ·intro y0 y1 y2 y3 y4 y5 y6 y7 y8
   unfold impl_PktRead.j1
   repeat' first
   | (with_reducible exact ih0 _ _ _)
   | (with_reducible exact ih1 _ _ _ _ _ _ _ _ _)
   | (with_reducible exact ih2 _ _ _ _ _ _ _ _ _ _ _)
   | (with_reducible exact LeO.refl _)
   | (with_reducible exact LeO.none _)
   | (with_reducible refine LeO.ite ?_ ?_)
   | (with_reducible refine LeO.bind ?_ (fun _ => ?_))
   | exact ih0 _ _ _
   | exact ih1 _ _ _ _ _ _ _ _ _
   | exact ih2 _ _ _ _ _ _ _ _ _ _ _
   | exact LeO.none _
   | refine LeO.ite ?_ ?_
   | refine LeO.bind ?_ (fun _ => ?_)
  ·intro y0 y1 y2 y3 y4 y5 y6 y7 y8 y9 y10
   unfold impl_PktRead.j2
   repeat' first
   | (with_reducible exact ih0 _ _ _)
   | (with_reducible exact ih1 _ _ _ _ _ _ _ _ _)
   | (with_reducible exact ih2 _ _ _ _ _ _ _ _ _ _ _)
   | (with_reducible exact LeO.refl _)
   | (with_reducible exact LeO.none _)
   | (with_reducible refine LeO.ite ?_ ?_)
   | (with_reducible refine LeO.bind ?_ (fun _ => ?_))
   | exact ih0 _ _ _
   | exact ih1 _ _ _ _ _ _ _ _ _
   | exact ih2 _ _ _ _ _ _ _ _ _ _ _
   | exact LeO.none _
   | refine LeO.ite ?_ ?_
   | refine LeO.bind ?_ (fun _ => ?_)
theorem impl_PktRead.mono : ∀ a0 k, LeO (impl_PktRead.f k a0) (impl_PktRead.f (k + 1) a0) := by
 intro a0 k
 obtain ⟨ih0,ih1,ih2⟩:=impl_PktRead.mono_l k
 unfold impl_PktRead.f
 repeat' first
   | (with_reducible exact ih0 _ _ _)
   | (with_reducible exact ih1 _ _ _ _ _ _ _ _ _)
   | (with_reducible exact ih2 _ _ _ _ _ _ _ _ _ _ _)
   | (with_reducible exact LeO.refl _)
   | (with_reducible exact LeO.none _)
   | (with_reducible refine LeO.ite ?_ ?_)
   | (with_reducible refine LeO.bind ?_ (fun _ => ?_))
   | exact ih0 _ _ _
   | exact ih1 _ _ _ _ _ _ _ _ _
   | exact ih2 _ _ _ _ _ _ _ _ _ _ _
   | exact LeO.none _
   | refine LeO.ite ?_ ?_
   | refine LeO.bind ?_ (fun _ => ?_)
def impl_PktRead.T10 : Bool × List (List Nat × List Nat) := (true, [([], []), ([], []), ([], []), ([0], []), ([3, 0, 0], [0, 3]), ([0, 1, 3, 4], []), ([5, 1, 4, 0, 1, 3, 4], [1, 5]), ([0, 1, 2, 3, 4, 5, 6], []), ([7, 2, 6, 0, 1, 2, 3, 4, 5, 6], [2, 7])])
def impl_PktRead.B10 : List Nat := [0, 0, 0, 1, 9, 27, 59, 127, 255]
theorem impl_PktRead.tab10 : rtab .any (opsOf Tryd.f10 10) = impl_PktRead.T10 := by kernel_rfl
theorem impl_PktRead.bits10 : waitsOk impl_PktRead.T10.2 impl_PktRead.B10 = true := by kernel_rfl
set_option maxHeartbeats 8000000 in
set_option maxRecDepth 100000 in
theorem impl_PktRead.calls (k : Nat) (a0 : ByteArray) (r1 : Int) (r2 : Int) (r3 : Int) (r4 : Int) (r5 : Int) (r6 : Int) (r7 : ByteArray) (r8 : Bool) (w : World) (hG : GV w) (h : impl_PktRead.f k a0 = some (r1, r2, r3, r4, r5, r6, r7, r8)) :
  Calls Tryd.prog 10 #[.string a0] w fun e w'=>e = .returned (.tuple #[.agg #[.int .i64 r1,.int .i64 r2,.int .i64 r3,.int .i64 r4,.int .i64 r5,.int .i64 r6,.string r7],.bool r8]) ∧ Below w.heap.size w w':=by
 have hu26:=Tryd.underlying26
 have hu24:=Tryd.underlying24
 have hu48:=Tryd.underlying48
 have HG:=m_ hG
 clear hG
 have HB:=m_ (Below.refl w.heap.size w)
 have H : ((strings_Split.f a0 (⟨#[32]⟩ : ByteArray)).bind fun t272=>(if (a0.size : Int) > 70 then (impl_PktRead.j0 k a0 t272 true) else ((impl_within.f (t272.length : Int) 4 5).bind fun t275=>(impl_PktRead.j0 k a0 t272 (!t275))))) = some (r1,r2,r3,r4,r5,r6,r7,r8):=h
 clear h
 replace H:=Option.bind_eq_some_iff.mp H
 obtain ⟨t272,A20,H⟩:=H
 replace H : (if (a0.size : Int) > 70 then (impl_PktRead.j0 k a0 t272 true) else ((impl_within.f (t272.length : Int) 4 5).bind fun t275=>(impl_PktRead.j0 k a0 t272 (!t275)))) = some (r1,r2,r3,r4,r5,r6,r7,r8):=H
 have A2:=m_ A20
 clear A20
 have HC3:=m_ H
 clear H
 go_enter Tryd.func10,Tryd.ntmps10
 go_upto_region 2 with (first|((with_reducible refine gate_dst (N:=2) rfl ?_);(try (refine gate_guard (by rfl) ?_;dsimp only));refine box_event ?hg (N:=2) ?hd (cs:=#[.int .i64 0,.int .i64 0,.int .i64 0,.int .i64 0,.int .i64 0,.int .i64 0,.string (⟨#[]⟩ : ByteArray)]) (t:=26) ?hr ?_;(case hd=>rfl);(case hg=>rfl);(case hr=>first|(go_simp;done)|(go_simp;rfl));intro gb271 hg w4 hbox hb;have n0_:=m_ (l5_ (by repeat (first|(with_reducible first|exact HB.out|apply l1_|apply l2_|apply l3_)|exact HB.out)) hb);have n1_:=m_ (hbox);have n2_:=m_ ((by rw [hg];exact (l6_ (by repeat (first|(with_reducible first|exact HB.out|apply l1_|apply l2_|apply l3_)|exact HB.out))) : w.heap.size ≤ gb271));have n3_:=m_ ((by rw [hg];exact (l6_ (by repeat (first|(with_reducible first|exact HB.out|apply l1_|apply l2_|apply l3_)|exact HB.out))) : w.heap.size ≤ gb271));clear HB;have HB:=n0_;have BK271:=n1_;have GW271:=n2_;have GE271:=n3_;clear n0_ n1_ n2_ n3_;clear hb hbox hg)|((with_reducible refine gate_callee (f:=23) rfl ?_);refine goesL_ (some 13) rfl rfl Tryd.func23 (by kernel_rfl) rfl #[.string a0,.string (⟨#[32]⟩ : ByteArray)] rfl (by (try simp only [List.map_toArray,List.map_cons,List.map_nil]);first|done|rfl|(simp only [List.length_drop,List.length_take];rfl)) ?_;(with_reducible refine (strings_Split.calls a0 (⟨#[32]⟩ : ByteArray) t272 _ A2.out).mono ?_);rintro e w5 ⟨v273,rfl,ho0,hb⟩;refine ⟨_,rfl,?_⟩;have n0_:=m_ (Kd.R_lower ho0 (l6_ (by repeat (first|(with_reducible first|exact HB.out|apply l1_|apply l2_|apply l3_|refine l4_ ?_ GE271.out)|exact HB.out))));have n1_:=m_ (blk_below (g:=gb271) (o:=.cells #[.int .i64 0,.int .i64 0,.int .i64 0,.int .i64 0,.int .i64 0,.int .i64 0,.string (⟨#[]⟩ : ByteArray)] 26 (0,0)) (by (with_reducible repeat first|apply b1_|apply b2_|apply b3_);exact BK271.out) hb);have n2_:=m_ (l5_ (by repeat (first|(with_reducible first|exact HB.out|apply l1_|apply l2_|apply l3_|refine l4_ ?_ GE271.out)|exact HB.out)) hb);clear BK271;clear HB;have HO274:=n0_;have BK271:=n1_;have HB:=n2_;clear n0_ n1_ n2_;(try clear hb);(try clear hb2);(try clear hk);(try clear hi);(try clear ho0)))
 (try simp only [Act.put,s1_,s2_,s3_])
 go_cut [22] (fun v22 wc=>∃ (kq : Nat) (x22_2 : Bool),v22 = .bool x22_2 ∧ Aside0 (impl_PktRead.j0 kq a0 t272 x22_2 = some (r1,r2,r3,r4,r5,r6,r7,r8)) ∧ Aside0 (kq ≤ k) ∧ Aside0 (Kd.R Kd.string 9 wc w.heap.size (fun _=>True) v273 t272) ∧ Aside0 (wc.heap[gb271]? = some (.cells #[.int .i64 0,.int .i64 0,.int .i64 0,.int .i64 0,.int .i64 0,.int .i64 0,.string (⟨#[]⟩ : ByteArray)] 26 (0,0))) ∧ Aside0 (Below w.heap.size w wc))
 case first =>
  have H:=HC3.out
  clear HC3
  by_cases c6 : (a0.size : Int) > 70
  ·rw [if_pos c6] at H
   have c6b0 : decide (70 < (a0.size : Int)) = true:=decide_eq_true c6
   have c6b1 : decide (70 < a0.size) = true:=decide_eq_true (by omega)
   clear c6
   (first|rw [c6b0]|(simp only [i64_w,i32_w];rw [c6b0])|skip)
   have H':=m_ H
   clear H
   go_wp2
   go_meet
   case rel=>exact ⟨_,(true),(by first|rfl|(simp;done)|(simp [*];done)),H',⟨by first|omega|exact Nat.le_refl _⟩,⟨by (with_reducible repeat (first|apply Kd.R_alloc|apply Kd.R_drewN|apply Kd.R_drew));exact HO274.out⟩,⟨by (with_reducible repeat first|apply b1_|apply b2_|apply b3_);exact BK271.out⟩,⟨by repeat (first|(with_reducible first|exact HB.out|apply l1_|apply l2_|apply l3_|refine l4_ ?_ GE271.out)|exact HB.out)⟩⟩
  ·rw [if_neg c6] at H
   have c6b0 : decide (70 < (a0.size : Int)) = false:=decide_eq_false c6
   have c6b1 : decide (70 < a0.size) = false:=decide_eq_false (by omega)
   clear c6
   (first|rw [c6b0]|(simp only [i64_w,i32_w];rw [c6b0])|skip)
   replace H:=Option.bind_eq_some_iff.mp H
   obtain ⟨t275,A70,H⟩:=H
   replace H : (impl_PktRead.j0 k a0 t272 (!t275)) = some (r1,r2,r3,r4,r5,r6,r7,r8):=H
   have A7:=m_ A70
   clear A70
   have H':=m_ H
   clear H
   obtain ⟨Ao8,co8,eo8⟩:=Kd.R_slice HO274.out
   subst eo8
   go_wp2_with (first|(go_at_call 24;(with_reducible refine (impl_within.calls (t272.length : Int) 4 5 t275 _ A7.out).mono ?_);rintro e w' ⟨rfl,⟨nd,rfl⟩⟩))
   go_meet
   case rel=>exact ⟨_,(!t275),(by first|rfl|(simp;done)|(simp [*];done)),H',⟨by first|omega|exact Nat.le_refl _⟩,⟨by (with_reducible repeat (first|apply Kd.R_alloc|apply Kd.R_drewN|apply Kd.R_drew));exact HO274.out⟩,⟨by (with_reducible repeat first|apply b1_|apply b2_|apply b3_);exact BK271.out⟩,⟨by repeat (first|(with_reducible first|exact HB.out|apply l1_|apply l2_|apply l3_|refine l4_ ?_ GE271.out)|exact HB.out)⟩⟩
 case rest =>
  clear HC3
  try clear c1
  try clear c2
  try clear p2
  try clear c6
  try clear c6b0
  try clear c6b1
  obtain ⟨kq,x22_2,rfl,HA,HJ2,HO_4,BK271,HB⟩:=hcut
  cases kq with
  | zero => exact absurd HA.out (by simp [impl_PktRead.j0])
  | succ kj2 =>
   have H:=HA.out
   clear HA
   simp only [impl_PktRead.j0] at H
   by_cases c9 : x22_2 = true
   ·subst c9
    have H1 : (some (0,0,0,0,0,0,(⟨#[]⟩ : ByteArray),false)) = some (r1,r2,r3,r4,r5,r6,r7,r8):=by rw [if_pos rfl] at H;exact H
    clear H
    have H:=H1
    clear H1
    simp only [Option.some.injEq,Prod.mk.injEq] at H
    obtain ⟨rfl,rfl,rfl,rfl,rfl,rfl,rfl,rfl⟩:=H
    have hcz10_0 : wc.cell? ⟨gb271,0,none⟩ = some (.int .i64 0):=(c_ BK271.out 0).trans rfl
    have hcz10_1 : wc.cell? ⟨gb271,1,none⟩ = some (.int .i64 0):=(c_ BK271.out 1).trans rfl
    have hcz10_2 : wc.cell? ⟨gb271,2,none⟩ = some (.int .i64 0):=(c_ BK271.out 2).trans rfl
    have hcz10_3 : wc.cell? ⟨gb271,3,none⟩ = some (.int .i64 0):=(c_ BK271.out 3).trans rfl
    have hcz10_4 : wc.cell? ⟨gb271,4,none⟩ = some (.int .i64 0):=(c_ BK271.out 4).trans rfl
    have hcz10_5 : wc.cell? ⟨gb271,5,none⟩ = some (.int .i64 0):=(c_ BK271.out 5).trans rfl
    have hcz10_6 : wc.cell? ⟨gb271,6,none⟩ = some (.string (⟨#[]⟩ : ByteArray)):=(c_ BK271.out 6).trans rfl
    have hfz10_0:=f_ BK271.out 0
    have hfz10_1:=f_ BK271.out 1
    have hfz10_2:=f_ BK271.out 2
    have hfz10_3:=f_ BK271.out 3
    have hfz10_4:=f_ BK271.out 4
    have hfz10_5:=f_ BK271.out 5
    have hfz10_6:=f_ BK271.out 6
    go_wp2
    refine bodyPost_ret (results_ct rfl _ _ gb271 26 #[.int .i64 0,.int .i64 0,.int .i64 0,.int .i64 0,.int .i64 0,.int .i64 0,.string (⟨#[]⟩ : ByteArray)] (0,0) _ rfl (by (with_reducible repeat first|apply b1_|apply b2_|apply b3_);refine blk_put (cs:=#[.int .i64 0,.int .i64 0,.int .i64 0,.int .i64 0,.int .i64 0,.int .i64 0,.string (⟨#[]⟩ : ByteArray)]) ?_ 6 _ rfl;(with_reducible repeat first|apply b1_|apply b2_|apply b3_);refine blk_put (cs:=#[.int .i64 0,.int .i64 0,.int .i64 0,.int .i64 0,.int .i64 0,.int .i64 0,.string (⟨#[]⟩ : ByteArray)]) ?_ 5 _ rfl;(with_reducible repeat first|apply b1_|apply b2_|apply b3_);refine blk_put (cs:=#[.int .i64 0,.int .i64 0,.int .i64 0,.int .i64 0,.int .i64 0,.int .i64 0,.string (⟨#[]⟩ : ByteArray)]) ?_ 4 _ rfl;(with_reducible repeat first|apply b1_|apply b2_|apply b3_);refine blk_put (cs:=#[.int .i64 0,.int .i64 0,.int .i64 0,.int .i64 0,.int .i64 0,.int .i64 0,.string (⟨#[]⟩ : ByteArray)]) ?_ 3 _ rfl;(with_reducible repeat first|apply b1_|apply b2_|apply b3_);refine blk_put (cs:=#[.int .i64 0,.int .i64 0,.int .i64 0,.int .i64 0,.int .i64 0,.int .i64 0,.string (⟨#[]⟩ : ByteArray)]) ?_ 2 _ rfl;(with_reducible repeat first|apply b1_|apply b2_|apply b3_);refine blk_put (cs:=#[.int .i64 0,.int .i64 0,.int .i64 0,.int .i64 0,.int .i64 0,.int .i64 0,.string (⟨#[]⟩ : ByteArray)]) ?_ 1 _ rfl;(with_reducible repeat first|apply b1_|apply b2_|apply b3_);refine blk_put (cs:=#[.int .i64 0,.int .i64 0,.int .i64 0,.int .i64 0,.int .i64 0,.int .i64 0,.string (⟨#[]⟩ : ByteArray)]) ?_ 0 _ rfl;(with_reducible repeat first|apply b1_|apply b2_|apply b3_);exact BK271.out) Tryd.underlying26 rfl (by kernel_rfl)) rfl ?_
    exact ⟨by first|rfl|(simp [e1_,e2_] <;> rfl)|(simp [*,e1_,e2_] <;> rfl)|(simp [e1_,e2_,pk_empty1,pk_empty2];done)|(simp [*,e1_,e2_,pk_empty1,pk_empty2];done),by repeat (first|(with_reducible first|exact HB.out|apply l1_|apply l2_|apply l3_|refine l4_ ?_ GE271.out)|exact HB.out)⟩
   ·replace c9:=Bool.eq_false_iff.mpr c9
    subst c9
    have H1 : (if 0 < (t272.length : Int) then (if (rdOf ByteArray.empty t272 0).toList = ([100,97,116,97] : List UInt8) then (impl_PktRead.j1 kj2 a0 t272 1 0 0 0 0 0 (⟨#[]⟩ : ByteArray)) else (impl_PktRead.j1 kj2 a0 t272 2 0 0 0 0 0 (⟨#[]⟩ : ByteArray))) else (none)) = some (r1,r2,r3,r4,r5,r6,r7,r8):=by rw [if_neg (show ¬ (false = true) by decide)] at H;exact H
    clear H
    have H:=H1
    clear H1
    by_cases c11 : 0 < (t272.length : Int)
    ·rw [if_pos c11] at H
     have c11b0 : decide (0 < (t272.length : Int)) = true:=decide_eq_true c11
     have c11b1 : decide (0 < t272.length) = true:=decide_eq_true (by omega)
     clear c11
     have HC12:=m_ H
     clear H
     go_upto_if 28 with (first|((with_reducible refine gate_dst (N:=5) rfl ?_);(try (refine gate_guard (by rfl) ?_;dsimp only));refine box_event ?hg (N:=5) ?hd (cs:=#[.int .i64 0,.int .i64 0,.int .i64 0,.int .i64 0,.int .i64 0,.int .i64 0,.string (⟨#[]⟩ : ByteArray)]) (t:=26) ?hr ?_;(case hd=>rfl);(case hg=>rfl);(case hr=>first|(go_simp;done)|(go_simp;rfl));intro gb276 hg w13 hbox hb;have n0_:=m_ (Kd.R_below (by (with_reducible repeat (first|apply Kd.R_alloc|apply Kd.R_drewN|apply Kd.R_drew));exact HO_4.out) hb);have n1_:=m_ (blk_below (g:=gb271) (o:=.cells #[.int .i64 0,.int .i64 0,.int .i64 0,.int .i64 0,.int .i64 0,.int .i64 0,.string (⟨#[]⟩ : ByteArray)] 26 (0,0)) (by (with_reducible repeat first|apply b1_|apply b2_|apply b3_);exact BK271.out) hb);have n2_:=m_ (l5_ (by repeat (first|(with_reducible first|exact HB.out|apply l1_|apply l2_|apply l3_|refine l4_ ?_ GE271.out)|exact HB.out)) hb);have n3_:=m_ (hbox);have n4_:=m_ ((by rw [hg];exact (l6_ (by repeat (first|(with_reducible first|exact HB.out|apply l1_|apply l2_|apply l3_|refine l4_ ?_ GE271.out)|exact HB.out))) : w.heap.size ≤ gb276));have n5_:=n4_;have n6_:=m_ ((by rw [hg];exact Nat.ne_of_lt (blk_lt (g:=gb271) (o:=.cells #[.int .i64 0,.int .i64 0,.int .i64 0,.int .i64 0,.int .i64 0,.int .i64 0,.string (⟨#[]⟩ : ByteArray)] 26 (0,0)) (by (with_reducible repeat first|apply b1_|apply b2_|apply b3_);exact BK271.out)) : gb271 ≠ gb276));have n7_:=m_ ((by rw [hg];exact Nat.ne_of_gt (blk_lt (g:=gb271) (o:=.cells #[.int .i64 0,.int .i64 0,.int .i64 0,.int .i64 0,.int .i64 0,.int .i64 0,.string (⟨#[]⟩ : ByteArray)] 26 (0,0)) (by (with_reducible repeat first|apply b1_|apply b2_|apply b3_);exact BK271.out)) : gb276 ≠ gb271));clear HO_4;clear BK271;clear HB;have HO_4:=n0_;have BK271:=n1_;have HB:=n2_;have BK276:=n3_;have GW276:=n4_;have GE276:=n5_;have NB271_276:=n6_;have NB276_271:=n7_;clear n0_ n1_ n2_ n3_ n4_ n5_ n6_ n7_;clear hb hbox hg;have hnb14:=NB276_271.out;have hnc14:=NB271_276.out;have hcz15_0 : w13.cell? ⟨gb276,0,none⟩ = some (.int .i64 0):=(c_ BK276.out 0).trans rfl;have hcz15_1 : w13.cell? ⟨gb276,1,none⟩ = some (.int .i64 0):=(c_ BK276.out 1).trans rfl;have hcz15_2 : w13.cell? ⟨gb276,2,none⟩ = some (.int .i64 0):=(c_ BK276.out 2).trans rfl;have hcz15_3 : w13.cell? ⟨gb276,3,none⟩ = some (.int .i64 0):=(c_ BK276.out 3).trans rfl;have hcz15_4 : w13.cell? ⟨gb276,4,none⟩ = some (.int .i64 0):=(c_ BK276.out 4).trans rfl;have hcz15_5 : w13.cell? ⟨gb276,5,none⟩ = some (.int .i64 0):=(c_ BK276.out 5).trans rfl;have hcz15_6 : w13.cell? ⟨gb276,6,none⟩ = some (.string (⟨#[]⟩ : ByteArray)):=(c_ BK276.out 6).trans rfl;have hfz15_0:=f_ BK276.out 0;have hfz15_1:=f_ BK276.out 1;have hfz15_2:=f_ BK276.out 2;have hfz15_3:=f_ BK276.out 3;have hfz15_4:=f_ BK276.out 4;have hfz15_5:=f_ BK276.out 5;have hfz15_6:=f_ BK276.out 6;obtain ⟨Ao16,co16,eo16⟩:=Kd.R_slice HO_4.out;subst eo16;have p277 : 0 ≤ (0 : Int):=(by omega);have q277 : 0 < (t272.length : Int):=of_decide_eq_true (by first|(with_reducible assumption)|assumption);obtain ⟨ad277,e277,hx277_0⟩:=Kd.at_string (Kd.R_reads' HO_4.out).2.2 0 p277 q277;cases e277;have qi277 : (0 < t272.length) = True:=eq_true (by omega);(try rw [show ((0 : Int)).toNat = 0 from rfl] at hx277_0);(try rw [Addr.add_zero'] at hx277_0);have hn277_0 : ad277.block ≠ gb276:=Kd.own_blk (Kd.R_ne HO_4.out BK276.out (by decide));have hn277_1 : ad277.block ≠ gb276:=Kd.own_blk (Kd.R_ne HO_4.out BK276.out (by decide));have hn277_2 : ad277.block ≠ gb276:=Kd.own_blk (Kd.R_ne HO_4.out BK276.out (by decide));have hn277_3 : ad277.block ≠ gb276:=Kd.own_blk (Kd.R_ne HO_4.out BK276.out (by decide));have hn277_4 : ad277.block ≠ gb276:=Kd.own_blk (Kd.R_ne HO_4.out BK276.out (by decide));have hn277_5 : ad277.block ≠ gb276:=Kd.own_blk (Kd.R_ne HO_4.out BK276.out (by decide));have hn277_6 : ad277.block ≠ gb276:=Kd.own_blk (Kd.R_ne HO_4.out BK276.out (by decide));replace hx277_0:=(cell_far (p:=⟨gb276,0,none⟩) (by first|(rw [add_block];exact hn277_0)|(show (Addr.add _ _).block ≠ _;rw [add_block];exact hn277_0)|exact hn277_0) (.int .i64 2)).trans hx277_0;replace hx277_0:=(cell_far (p:=⟨gb276,1,none⟩) (by first|(rw [add_block];exact hn277_1)|(show (Addr.add _ _).block ≠ _;rw [add_block];exact hn277_1)|exact hn277_1) (.int .i64 0)).trans hx277_0;replace hx277_0:=(cell_far (p:=⟨gb276,2,none⟩) (by first|(rw [add_block];exact hn277_2)|(show (Addr.add _ _).block ≠ _;rw [add_block];exact hn277_2)|exact hn277_2) (.int .i64 0)).trans hx277_0;replace hx277_0:=(cell_far (p:=⟨gb276,3,none⟩) (by first|(rw [add_block];exact hn277_3)|(show (Addr.add _ _).block ≠ _;rw [add_block];exact hn277_3)|exact hn277_3) (.int .i64 0)).trans hx277_0;replace hx277_0:=(cell_far (p:=⟨gb276,4,none⟩) (by first|(rw [add_block];exact hn277_4)|(show (Addr.add _ _).block ≠ _;rw [add_block];exact hn277_4)|exact hn277_4) (.int .i64 0)).trans hx277_0;replace hx277_0:=(cell_far (p:=⟨gb276,5,none⟩) (by first|(rw [add_block];exact hn277_5)|(show (Addr.add _ _).block ≠ _;rw [add_block];exact hn277_5)|exact hn277_5) (.int .i64 0)).trans hx277_0;replace hx277_0:=(cell_far (p:=⟨gb276,6,none⟩) (by first|(rw [add_block];exact hn277_6)|(show (Addr.add _ _).block ≠ _;rw [add_block];exact hn277_6)|exact hn277_6) (.string (⟨#[]⟩ : ByteArray))).trans hx277_0;clear hn277_0;clear hn277_1;clear hn277_2;clear hn277_3;clear hn277_4;clear hn277_5;clear hn277_6;replace p277:=eq_true p277;replace q277:=eq_true q277))
     (try simp only [Act.put,s1_,s2_,s3_])
     go_cut [] (fun wc=>∃ (kq : Nat) (x277000_11 : Int),Aside0 (impl_PktRead.j1 kq a0 t272 x277000_11 0 0 0 0 0 (⟨#[]⟩ : ByteArray) = some (r1,r2,r3,r4,r5,r6,r7,r8)) ∧ Aside0 (kq ≤ kj2) ∧ Aside0 (Kd.R Kd.string 9 wc w.heap.size (fun _=>True) (.slice (some ad277) t272.length co16) t272) ∧ Aside0 (wc.heap[gb271]? = some (.cells #[.int .i64 0,.int .i64 0,.int .i64 0,.int .i64 0,.int .i64 0,.int .i64 0,.string (⟨#[]⟩ : ByteArray)] 26 (0,0))) ∧ Aside0 (wc.heap[gb276]? = some (.cells #[.int .i64 x277000_11,.int .i64 0,.int .i64 0,.int .i64 0,.int .i64 0,.int .i64 0,.string (⟨#[]⟩ : ByteArray)] 26 (0,0))) ∧ Aside0 (Below w.heap.size w wc))
     case first =>
      have H:=HC12.out
      clear HC12
      by_cases c17 : (rdOf ByteArray.empty t272 0).toList = ([100,97,116,97] : List UInt8)
      ·rw [if_pos c17] at H
       have c17b0 : ((rdOf ByteArray.empty t272 0).toList == ([100,97,116,97] : List UInt8)) = true:=beq_iff_eq.mpr c17
       have c17b1 : ((rdOf ByteArray.empty t272 0).toList != ([100,97,116,97] : List UInt8)) = false:=bne_eq_false_iff_eq.mpr c17
       clear c17
       (first|rw [c17b0]|(simp only [i64_w,i32_w];rw [c17b0])|skip)
       have H':=m_ H
       clear H
       have hnb18:=NB276_271.out
       have hnc18:=NB271_276.out
       have hcz19_0 : w13.cell? ⟨gb276,0,none⟩ = some (.int .i64 0):=(c_ BK276.out 0).trans rfl
       have hcz19_1 : w13.cell? ⟨gb276,1,none⟩ = some (.int .i64 0):=(c_ BK276.out 1).trans rfl
       have hcz19_2 : w13.cell? ⟨gb276,2,none⟩ = some (.int .i64 0):=(c_ BK276.out 2).trans rfl
       have hcz19_3 : w13.cell? ⟨gb276,3,none⟩ = some (.int .i64 0):=(c_ BK276.out 3).trans rfl
       have hcz19_4 : w13.cell? ⟨gb276,4,none⟩ = some (.int .i64 0):=(c_ BK276.out 4).trans rfl
       have hcz19_5 : w13.cell? ⟨gb276,5,none⟩ = some (.int .i64 0):=(c_ BK276.out 5).trans rfl
       have hcz19_6 : w13.cell? ⟨gb276,6,none⟩ = some (.string (⟨#[]⟩ : ByteArray)):=(c_ BK276.out 6).trans rfl
       have hfz19_0:=f_ BK276.out 0
       have hfz19_1:=f_ BK276.out 1
       have hfz19_2:=f_ BK276.out 2
       have hfz19_3:=f_ BK276.out 3
       have hfz19_4:=f_ BK276.out 4
       have hfz19_5:=f_ BK276.out 5
       have hfz19_6:=f_ BK276.out 6
       go_wp2
       go_meet
       case rel=>exact ⟨_,(1),H',⟨by have:=HJ2.out;first|omega|exact Nat.le_refl _⟩,⟨by (with_reducible repeat (first|apply Kd.R_alloc|apply Kd.R_drewN|apply Kd.R_drew));exact Kd.R_mono (Kd.R_far (p:=⟨gb276,0,none⟩) (Kd.R_far (p:=⟨gb276,6,none⟩) (Kd.R_far (p:=⟨gb276,5,none⟩) (Kd.R_far (p:=⟨gb276,4,none⟩) (Kd.R_far (p:=⟨gb276,3,none⟩) (Kd.R_far (p:=⟨gb276,2,none⟩) (Kd.R_far (p:=⟨gb276,1,none⟩) (Kd.R_far (p:=⟨gb276,0,none⟩) (Kd.R_types HO_4.out BK276.out (by decide)) (fun _ hk=>hk.2) (.int .i64 2)) (fun _ hk=>hk.2) (.int .i64 0)) (fun _ hk=>hk.2) (.int .i64 0)) (fun _ hk=>hk.2) (.int .i64 0)) (fun _ hk=>hk.2) (.int .i64 0)) (fun _ hk=>hk.2) (.int .i64 0)) (fun _ hk=>hk.2) (.string (⟨#[]⟩ : ByteArray))) (fun _ hk=>hk.2) (.int .i64 1)) (fun _ hk=>trivial)⟩,⟨by (with_reducible repeat first|apply b1_|apply b2_|apply b3_);refine b4_ ?_ NB271_276.out _;(with_reducible repeat first|apply b1_|apply b2_|apply b3_);refine b4_ ?_ NB271_276.out _;(with_reducible repeat first|apply b1_|apply b2_|apply b3_);refine b4_ ?_ NB271_276.out _;(with_reducible repeat first|apply b1_|apply b2_|apply b3_);refine b4_ ?_ NB271_276.out _;(with_reducible repeat first|apply b1_|apply b2_|apply b3_);refine b4_ ?_ NB271_276.out _;(with_reducible repeat first|apply b1_|apply b2_|apply b3_);refine b4_ ?_ NB271_276.out _;(with_reducible repeat first|apply b1_|apply b2_|apply b3_);refine b4_ ?_ NB271_276.out _;(with_reducible repeat first|apply b1_|apply b2_|apply b3_);refine b4_ ?_ NB271_276.out _;(with_reducible repeat first|apply b1_|apply b2_|apply b3_);exact BK271.out⟩,⟨by (with_reducible repeat first|apply b1_|apply b2_|apply b3_);refine blk_put (cs:=#[.int .i64 2,.int .i64 0,.int .i64 0,.int .i64 0,.int .i64 0,.int .i64 0,.string (⟨#[]⟩ : ByteArray)]) ?_ 0 _ rfl;(with_reducible repeat first|apply b1_|apply b2_|apply b3_);refine blk_put (cs:=#[.int .i64 2,.int .i64 0,.int .i64 0,.int .i64 0,.int .i64 0,.int .i64 0,.string (⟨#[]⟩ : ByteArray)]) ?_ 6 _ rfl;(with_reducible repeat first|apply b1_|apply b2_|apply b3_);refine blk_put (cs:=#[.int .i64 2,.int .i64 0,.int .i64 0,.int .i64 0,.int .i64 0,.int .i64 0,.string (⟨#[]⟩ : ByteArray)]) ?_ 5 _ rfl;(with_reducible repeat first|apply b1_|apply b2_|apply b3_);refine blk_put (cs:=#[.int .i64 2,.int .i64 0,.int .i64 0,.int .i64 0,.int .i64 0,.int .i64 0,.string (⟨#[]⟩ : ByteArray)]) ?_ 4 _ rfl;(with_reducible repeat first|apply b1_|apply b2_|apply b3_);refine blk_put (cs:=#[.int .i64 2,.int .i64 0,.int .i64 0,.int .i64 0,.int .i64 0,.int .i64 0,.string (⟨#[]⟩ : ByteArray)]) ?_ 3 _ rfl;(with_reducible repeat first|apply b1_|apply b2_|apply b3_);refine blk_put (cs:=#[.int .i64 2,.int .i64 0,.int .i64 0,.int .i64 0,.int .i64 0,.int .i64 0,.string (⟨#[]⟩ : ByteArray)]) ?_ 2 _ rfl;(with_reducible repeat first|apply b1_|apply b2_|apply b3_);refine blk_put (cs:=#[.int .i64 2,.int .i64 0,.int .i64 0,.int .i64 0,.int .i64 0,.int .i64 0,.string (⟨#[]⟩ : ByteArray)]) ?_ 1 _ rfl;(with_reducible repeat first|apply b1_|apply b2_|apply b3_);refine blk_put (cs:=#[.int .i64 0,.int .i64 0,.int .i64 0,.int .i64 0,.int .i64 0,.int .i64 0,.string (⟨#[]⟩ : ByteArray)]) ?_ 0 _ rfl;(with_reducible repeat first|apply b1_|apply b2_|apply b3_);exact BK276.out⟩,⟨by repeat (first|(with_reducible first|exact HB.out|apply l1_|apply l2_|apply l3_|refine l4_ ?_ GE271.out|refine l4_ ?_ GE276.out)|exact HB.out)⟩⟩
      ·rw [if_neg c17] at H
       have c17b0 : ((rdOf ByteArray.empty t272 0).toList == ([100,97,116,97] : List UInt8)) = false:=beq_eq_false_iff_ne.mpr c17
       have c17b1 : ((rdOf ByteArray.empty t272 0).toList != ([100,97,116,97] : List UInt8)) = true:=bne_iff_ne.mpr c17
       (first|rw [c17b0]|(simp only [i64_w,i32_w];rw [c17b0])|skip)
       have H':=m_ H
       clear H
       go_wp2
       go_meet
       case rel=>exact ⟨_,(2),H',⟨by have:=HJ2.out;first|omega|exact Nat.le_refl _⟩,⟨by (with_reducible repeat (first|apply Kd.R_alloc|apply Kd.R_drewN|apply Kd.R_drew));exact Kd.R_mono (Kd.R_far (p:=⟨gb276,6,none⟩) (Kd.R_far (p:=⟨gb276,5,none⟩) (Kd.R_far (p:=⟨gb276,4,none⟩) (Kd.R_far (p:=⟨gb276,3,none⟩) (Kd.R_far (p:=⟨gb276,2,none⟩) (Kd.R_far (p:=⟨gb276,1,none⟩) (Kd.R_far (p:=⟨gb276,0,none⟩) (Kd.R_types HO_4.out BK276.out (by decide)) (fun _ hk=>hk.2) (.int .i64 2)) (fun _ hk=>hk.2) (.int .i64 0)) (fun _ hk=>hk.2) (.int .i64 0)) (fun _ hk=>hk.2) (.int .i64 0)) (fun _ hk=>hk.2) (.int .i64 0)) (fun _ hk=>hk.2) (.int .i64 0)) (fun _ hk=>hk.2) (.string (⟨#[]⟩ : ByteArray))) (fun _ hk=>trivial)⟩,⟨by (with_reducible repeat first|apply b1_|apply b2_|apply b3_);refine b4_ ?_ NB271_276.out _;(with_reducible repeat first|apply b1_|apply b2_|apply b3_);refine b4_ ?_ NB271_276.out _;(with_reducible repeat first|apply b1_|apply b2_|apply b3_);refine b4_ ?_ NB271_276.out _;(with_reducible repeat first|apply b1_|apply b2_|apply b3_);refine b4_ ?_ NB271_276.out _;(with_reducible repeat first|apply b1_|apply b2_|apply b3_);refine b4_ ?_ NB271_276.out _;(with_reducible repeat first|apply b1_|apply b2_|apply b3_);refine b4_ ?_ NB271_276.out _;(with_reducible repeat first|apply b1_|apply b2_|apply b3_);refine b4_ ?_ NB271_276.out _;(with_reducible repeat first|apply b1_|apply b2_|apply b3_);exact BK271.out⟩,⟨by (with_reducible repeat first|apply b1_|apply b2_|apply b3_);refine blk_put (cs:=#[.int .i64 2,.int .i64 0,.int .i64 0,.int .i64 0,.int .i64 0,.int .i64 0,.string (⟨#[]⟩ : ByteArray)]) ?_ 6 _ rfl;(with_reducible repeat first|apply b1_|apply b2_|apply b3_);refine blk_put (cs:=#[.int .i64 2,.int .i64 0,.int .i64 0,.int .i64 0,.int .i64 0,.int .i64 0,.string (⟨#[]⟩ : ByteArray)]) ?_ 5 _ rfl;(with_reducible repeat first|apply b1_|apply b2_|apply b3_);refine blk_put (cs:=#[.int .i64 2,.int .i64 0,.int .i64 0,.int .i64 0,.int .i64 0,.int .i64 0,.string (⟨#[]⟩ : ByteArray)]) ?_ 4 _ rfl;(with_reducible repeat first|apply b1_|apply b2_|apply b3_);refine blk_put (cs:=#[.int .i64 2,.int .i64 0,.int .i64 0,.int .i64 0,.int .i64 0,.int .i64 0,.string (⟨#[]⟩ : ByteArray)]) ?_ 3 _ rfl;(with_reducible repeat first|apply b1_|apply b2_|apply b3_);refine blk_put (cs:=#[.int .i64 2,.int .i64 0,.int .i64 0,.int .i64 0,.int .i64 0,.int .i64 0,.string (⟨#[]⟩ : ByteArray)]) ?_ 2 _ rfl;(with_reducible repeat first|apply b1_|apply b2_|apply b3_);refine blk_put (cs:=#[.int .i64 2,.int .i64 0,.int .i64 0,.int .i64 0,.int .i64 0,.int .i64 0,.string (⟨#[]⟩ : ByteArray)]) ?_ 1 _ rfl;(with_reducible repeat first|apply b1_|apply b2_|apply b3_);refine blk_put (cs:=#[.int .i64 0,.int .i64 0,.int .i64 0,.int .i64 0,.int .i64 0,.int .i64 0,.string (⟨#[]⟩ : ByteArray)]) ?_ 0 _ rfl;(with_reducible repeat first|apply b1_|apply b2_|apply b3_);exact BK276.out⟩,⟨by repeat (first|(with_reducible first|exact HB.out|apply l1_|apply l2_|apply l3_|refine l4_ ?_ GE271.out|refine l4_ ?_ GE276.out)|exact HB.out)⟩⟩
     case rest =>
      clear HC12
      try clear c1
      try clear c2
      try clear p2
      try clear q2
      try clear hx2
      try clear qi2
      try clear c6
      try clear c6b0
      try clear c6b1
      try clear c9
      try clear c10
      try clear c11
      try clear c11b0
      try clear c11b1
      try clear c14
      try clear c17
      try clear c17b0
      try clear c17b1
      try clear c18
      try clear hcz10_0
      try clear hcz10_1
      try clear hcz10_2
      try clear hcz10_3
      try clear hcz10_4
      try clear hcz10_5
      try clear hcz10_6
      try clear hcz15_0
      try clear hcz15_1
      try clear hcz15_2
      try clear hcz15_3
      try clear hcz15_4
      try clear hcz15_5
      try clear hcz15_6
      try clear hcz19_0
      try clear hcz19_1
      try clear hcz19_2
      try clear hcz19_3
      try clear hcz19_4
      try clear hcz19_5
      try clear hcz19_6
      try clear hfz10_0
      try clear hfz10_1
      try clear hfz10_2
      try clear hfz10_3
      try clear hfz10_4
      try clear hfz10_5
      try clear hfz10_6
      try clear hfz15_0
      try clear hfz15_1
      try clear hfz15_2
      try clear hfz15_3
      try clear hfz15_4
      try clear hfz15_5
      try clear hfz15_6
      try clear hfz19_0
      try clear hfz19_1
      try clear hfz19_2
      try clear hfz19_3
      try clear hfz19_4
      try clear hfz19_5
      try clear hfz19_6
      try clear hx277_0
      try clear p2
      try clear p277
      try clear q277
      obtain ⟨kq,x277000_11,HA,HJ11,HO_4,BK271,BK276,HB⟩:=hcut
      cases kq with
      | zero => exact absurd HA.out (by simp [impl_PktRead.j1])
      | succ kj11 =>
       have H:=HA.out
       clear HA
       simp only [impl_PktRead.j1] at H
       by_cases c20 : 1 < (t272.length : Int)
       ·rw [if_pos c20] at H
        have c20b0 : decide (1 < (t272.length : Int)) = true:=decide_eq_true c20
        have c20b1 : decide (1 < t272.length) = true:=decide_eq_true (by omega)
        clear c20
        replace H:=Option.bind_eq_some_iff.mp H
        obtain ⟨⟨t279,t280,t281⟩,A210,H⟩:=H
        replace H : (if 2 < (t272.length : Int) then ((impl_EndRead.f (rdOf ByteArray.empty t272 2)).bind fun bt284=>(if 3 < (t272.length : Int) then ((strconv_Atoi.f (rdOf ByteArray.empty t272 3)).bind fun bt289=>(if (t272.length : Int) = 5 then (if 4 < (t272.length : Int) then ((strings_Clone.f (rdOf ByteArray.empty t272 4)).bind fun t292=>(impl_PktRead.j2 kj11 a0 t281 bt284.2.2 bt289.2 x277000_11 t279 t280 bt284.1 bt284.2.1 bt289.1 t292)) else (none)) else (impl_PktRead.j2 kj11 a0 t281 bt284.2.2 bt289.2 x277000_11 t279 t280 bt284.1 bt284.2.1 bt289.1 (⟨#[]⟩ : ByteArray)))) else (none))) else (none)) = some (r1,r2,r3,r4,r5,r6,r7,r8):=H
        have A21:=m_ A210
        clear A210
        by_cases c22 : 2 < (t272.length : Int)
        ·rw [if_pos c22] at H
         have c22b0 : decide (2 < (t272.length : Int)) = true:=decide_eq_true c22
         have c22b1 : decide (2 < t272.length) = true:=decide_eq_true (by omega)
         clear c22
         replace H:=Option.bind_eq_some_iff.mp H
         obtain ⟨⟨t284,t285,t286⟩,A230,H⟩:=H
         replace H : (if 3 < (t272.length : Int) then ((strconv_Atoi.f (rdOf ByteArray.empty t272 3)).bind fun bt289=>(if (t272.length : Int) = 5 then (if 4 < (t272.length : Int) then ((strings_Clone.f (rdOf ByteArray.empty t272 4)).bind fun t292=>(impl_PktRead.j2 kj11 a0 t281 t286 bt289.2 x277000_11 t279 t280 t284 t285 bt289.1 t292)) else (none)) else (impl_PktRead.j2 kj11 a0 t281 t286 bt289.2 x277000_11 t279 t280 t284 t285 bt289.1 (⟨#[]⟩ : ByteArray)))) else (none)) = some (r1,r2,r3,r4,r5,r6,r7,r8):=H
         have A23:=m_ A230
         clear A230
         by_cases c24 : 3 < (t272.length : Int)
         ·rw [if_pos c24] at H
          have c24b0 : decide (3 < (t272.length : Int)) = true:=decide_eq_true c24
          have c24b1 : decide (3 < t272.length) = true:=decide_eq_true (by omega)
          clear c24
          replace H:=Option.bind_eq_some_iff.mp H
          obtain ⟨⟨t289,t290⟩,A250,H⟩:=H
          replace H : (if (t272.length : Int) = 5 then (if 4 < (t272.length : Int) then ((strings_Clone.f (rdOf ByteArray.empty t272 4)).bind fun t292=>(impl_PktRead.j2 kj11 a0 t281 t286 t290 x277000_11 t279 t280 t284 t285 t289 t292)) else (none)) else (impl_PktRead.j2 kj11 a0 t281 t286 t290 x277000_11 t279 t280 t284 t285 t289 (⟨#[]⟩ : ByteArray))) = some (r1,r2,r3,r4,r5,r6,r7,r8):=H
          have A25:=m_ A250
          clear A250
          have HC26:=m_ H
          clear H
          have p278 : 0 ≤ (1 : Int):=(by omega)
          have q278 : 1 < (t272.length : Int):=of_decide_eq_true (by first|(with_reducible assumption)|assumption)
          obtain ⟨ad278,e278,hx278_0⟩:=Kd.at_string (Kd.R_reads' HO_4.out).2.2 1 p278 q278
          obtain rfl : ad277 = ad278:=(by injection e278)
          (try simp only [show (1 : Int).toNat = 1 from rfl,Nat.reduceMul,Nat.reduceEqDiff,Go.Addr.add,↓reduceIte] at hx278_0)
          have qi278 : (1 < t272.length) = True:=eq_true (by omega)
          (try rw [show ((1 : Int)).toNat = 1 from rfl] at hx278_0)
          replace p278:=eq_true p278
          replace q278:=eq_true q278
          try go_wp2_with (first|((with_reducible refine gate_callee (f:=25) rfl ?_);refine goesL_ (some 34) rfl rfl Tryd.func25 (by kernel_rfl) rfl #[.string (rdOf ByteArray.empty t272 1)] rfl (by (try simp only [List.map_toArray,List.map_cons,List.map_nil]);first|done|rfl|(simp only [List.length_drop,List.length_take];rfl)) ?_;(with_reducible refine (impl_EndRead.calls (rdOf ByteArray.empty t272 1) t279 t280 t281 _ ?side1 A21.out).mono ?_);(case side1=>first|(with_reducible exact HG.out)|exact GV_below HG.out (by repeat (first|(with_reducible first|exact HB.out|apply l1_|apply l2_|apply l3_|refine l4_ ?_ GE271.out|refine l4_ ?_ GE276.out)|exact HB.out)));rintro e w27 ⟨rfl,hb⟩;refine ⟨_,rfl,?_⟩;have n0_:=m_ (Kd.R_below (by (with_reducible repeat (first|apply Kd.R_alloc|apply Kd.R_drewN|apply Kd.R_drew));exact HO_4.out) hb);have n1_:=m_ (blk_below (g:=gb271) (o:=.cells #[.int .i64 0,.int .i64 0,.int .i64 0,.int .i64 0,.int .i64 0,.int .i64 0,.string (⟨#[]⟩ : ByteArray)] 26 (0,0)) (by (with_reducible repeat first|apply b1_|apply b2_|apply b3_);exact BK271.out) hb);have n2_:=m_ (blk_below (g:=gb276) (o:=.cells #[.int .i64 x277000_11,.int .i64 0,.int .i64 0,.int .i64 0,.int .i64 0,.int .i64 0,.string (⟨#[]⟩ : ByteArray)] 26 (0,0)) (by (with_reducible repeat first|apply b1_|apply b2_|apply b3_);exact BK276.out) hb);have n3_:=m_ (l5_ (by repeat (first|(with_reducible first|exact HB.out|apply l1_|apply l2_|apply l3_|refine l4_ ?_ GE271.out|refine l4_ ?_ GE276.out)|exact HB.out)) hb);clear HO_4;clear BK271;clear BK276;clear HB;have HO_4:=n0_;have BK271:=n1_;have BK276:=n2_;have HB:=n3_;clear n0_ n1_ n2_ n3_;(try clear hb);(try clear hb2);(try clear hk);(try clear hi))|((with_reducible refine gate_dst (N:=6) rfl ?_);(try (refine gate_guard (by rfl) ?_;dsimp only));refine box_event ?hg (N:=6) ?hd (cs:=#[.int .i64 0,.int .i64 0]) (t:=24) ?hr ?_;(case hd=>rfl);(case hg=>rfl);(case hr=>first|(go_simp;done)|(go_simp;rfl));intro gb282 hg w28 hbox hb;have n0_:=m_ (Kd.R_below (by (with_reducible repeat (first|apply Kd.R_alloc|apply Kd.R_drewN|apply Kd.R_drew));exact HO_4.out) hb);have n1_:=m_ (blk_below (g:=gb271) (o:=.cells #[.int .i64 0,.int .i64 0,.int .i64 0,.int .i64 0,.int .i64 0,.int .i64 0,.string (⟨#[]⟩ : ByteArray)] 26 (0,0)) (by (with_reducible repeat first|apply b1_|apply b2_|apply b3_);exact BK271.out) hb);have n2_:=m_ (blk_below (g:=gb276) (o:=.cells #[.int .i64 x277000_11,.int .i64 0,.int .i64 0,.int .i64 0,.int .i64 0,.int .i64 0,.string (⟨#[]⟩ : ByteArray)] 26 (0,0)) (by (with_reducible repeat first|apply b1_|apply b2_|apply b3_);exact BK276.out) hb);have n3_:=m_ (l5_ (by repeat (first|(with_reducible first|exact HB.out|apply l1_|apply l2_|apply l3_|refine l4_ ?_ GE271.out|refine l4_ ?_ GE276.out)|exact HB.out)) hb);have n4_:=m_ (hbox);have n5_:=m_ ((by rw [hg];exact (l6_ (by repeat (first|(with_reducible first|exact HB.out|apply l1_|apply l2_|apply l3_|refine l4_ ?_ GE271.out|refine l4_ ?_ GE276.out)|exact HB.out))) : w.heap.size ≤ gb282));have n6_:=n5_;have n7_:=m_ ((by rw [hg];exact Nat.ne_of_lt (blk_lt (g:=gb271) (o:=.cells #[.int .i64 0,.int .i64 0,.int .i64 0,.int .i64 0,.int .i64 0,.int .i64 0,.string (⟨#[]⟩ : ByteArray)] 26 (0,0)) (by (with_reducible repeat first|apply b1_|apply b2_|apply b3_);exact BK271.out)) : gb271 ≠ gb282));have n8_:=m_ n7_.out.symm;have n9_:=m_ ((by rw [hg];exact Nat.ne_of_lt (blk_lt (g:=gb276) (o:=.cells #[.int .i64 x277000_11,.int .i64 0,.int .i64 0,.int .i64 0,.int .i64 0,.int .i64 0,.string (⟨#[]⟩ : ByteArray)] 26 (0,0)) (by (with_reducible repeat first|apply b1_|apply b2_|apply b3_);exact BK276.out)) : gb276 ≠ gb282));have n10_:=m_ ((by rw [hg];exact Nat.ne_of_gt (blk_lt (g:=gb276) (o:=.cells #[.int .i64 x277000_11,.int .i64 0,.int .i64 0,.int .i64 0,.int .i64 0,.int .i64 0,.string (⟨#[]⟩ : ByteArray)] 26 (0,0)) (by (with_reducible repeat first|apply b1_|apply b2_|apply b3_);exact BK276.out)) : gb282 ≠ gb276));clear HO_4;clear BK271;clear BK276;clear HB;have HO_4:=n0_;have BK271:=n1_;have BK276:=n2_;have HB:=n3_;have BK282:=n4_;have GW282:=n5_;have GE282:=n6_;have NB271_282:=n7_;have NB282_271:=n8_;have NB276_282:=n9_;have NB282_276:=n10_;clear n0_ n1_ n2_ n3_ n4_ n5_ n6_ n7_ n8_ n9_ n10_;clear hb hbox hg;have hnb29:=NB282_271.out;have hnc29:=NB271_282.out;have hnb30:=NB282_276.out;have hnc30:=NB276_282.out;have hcz31_0 : w28.cell? ⟨gb282,0,none⟩ = some (.int .i64 0):=(c_ BK282.out 0).trans rfl;have hcz31_1 : w28.cell? ⟨gb282,1,none⟩ = some (.int .i64 0):=(c_ BK282.out 1).trans rfl;have hfz31_0:=f_ BK282.out 0;have hfz31_1:=f_ BK282.out 1;have p283 : 0 ≤ (2 : Int):=(by omega);have q283 : 2 < (t272.length : Int):=of_decide_eq_true (by first|(with_reducible assumption)|assumption);obtain ⟨ad283,e283,hx283_0⟩:=Kd.at_string (Kd.R_reads' HO_4.out).2.2 2 p283 q283;obtain rfl : ad277 = ad283:=(by injection e283);(try simp only [show (2 : Int).toNat = 2 from rfl,Nat.reduceMul,Nat.reduceEqDiff,Go.Addr.add,↓reduceIte] at hx283_0);have qi283 : (2 < t272.length) = True:=eq_true (by omega);(try rw [show ((2 : Int)).toNat = 2 from rfl] at hx283_0);have hn283_0 : ad277.block ≠ gb282:=Kd.own_blk (Kd.R_ne HO_4.out BK282.out (by decide));have hn283_1 : ad277.block ≠ gb282:=Kd.own_blk (Kd.R_ne HO_4.out BK282.out (by decide));replace hx283_0:=(cell_far (p:=⟨gb282,0,none⟩) (by first|(rw [add_block];exact hn283_0)|(show (Addr.add _ _).block ≠ _;rw [add_block];exact hn283_0)|exact hn283_0) (.int .i64 t279)).trans hx283_0;replace hx283_0:=(cell_far (p:=⟨gb282,1,none⟩) (by first|(rw [add_block];exact hn283_1)|(show (Addr.add _ _).block ≠ _;rw [add_block];exact hn283_1)|exact hn283_1) (.int .i64 t280)).trans hx283_0;clear hn283_0;clear hn283_1;replace p283:=eq_true p283;replace q283:=eq_true q283)|((with_reducible refine gate_callee (f:=25) rfl ?_);refine goesL_ (some 41) rfl rfl Tryd.func25 (by kernel_rfl) rfl #[.string (rdOf ByteArray.empty t272 2)] rfl (by (try simp only [List.map_toArray,List.map_cons,List.map_nil]);first|done|rfl|(simp only [List.length_drop,List.length_take];rfl)) ?_;(with_reducible refine (impl_EndRead.calls (rdOf ByteArray.empty t272 2) t284 t285 t286 _ ?side1 A23.out).mono ?_);(case side1=>first|(with_reducible exact HG.out)|exact GV_below HG.out (by repeat (first|(with_reducible first|exact HB.out|apply l1_|apply l2_|apply l3_|refine l4_ ?_ GE271.out|refine l4_ ?_ GE276.out|refine l4_ ?_ GE282.out)|exact HB.out)));rintro e w32 ⟨rfl,hb⟩;refine ⟨_,rfl,?_⟩;have n0_:=m_ (Kd.R_below (by (with_reducible repeat (first|apply Kd.R_alloc|apply Kd.R_drewN|apply Kd.R_drew));exact (Kd.R_mono (Kd.R_far (p:=⟨gb282,1,none⟩) (Kd.R_far (p:=⟨gb282,0,none⟩) (Kd.R_types HO_4.out BK282.out (by decide)) (fun _ hk=>hk.2) (.int .i64 t279)) (fun _ hk=>hk.2) (.int .i64 t280)) (fun _ h_=>h_.1))) hb);have n1_:=m_ (blk_below (g:=gb271) (o:=.cells #[.int .i64 0,.int .i64 0,.int .i64 0,.int .i64 0,.int .i64 0,.int .i64 0,.string (⟨#[]⟩ : ByteArray)] 26 (0,0)) (by (with_reducible repeat first|apply b1_|apply b2_|apply b3_);refine b4_ ?_ NB271_282.out _;(with_reducible repeat first|apply b1_|apply b2_|apply b3_);refine b4_ ?_ NB271_282.out _;(with_reducible repeat first|apply b1_|apply b2_|apply b3_);exact BK271.out) hb);have n2_:=m_ (blk_below (g:=gb276) (o:=.cells #[.int .i64 x277000_11,.int .i64 0,.int .i64 0,.int .i64 0,.int .i64 0,.int .i64 0,.string (⟨#[]⟩ : ByteArray)] 26 (0,0)) (by (with_reducible repeat first|apply b1_|apply b2_|apply b3_);refine b4_ ?_ NB276_282.out _;(with_reducible repeat first|apply b1_|apply b2_|apply b3_);refine b4_ ?_ NB276_282.out _;(with_reducible repeat first|apply b1_|apply b2_|apply b3_);exact BK276.out) hb);have n3_:=m_ (blk_below (g:=gb282) (o:=.cells #[.int .i64 t279,.int .i64 t280] 24 (0,0)) (by (with_reducible repeat first|apply b1_|apply b2_|apply b3_);refine blk_put (cs:=#[.int .i64 t279,.int .i64 0]) ?_ 1 _ rfl;(with_reducible repeat first|apply b1_|apply b2_|apply b3_);refine blk_put (cs:=#[.int .i64 0,.int .i64 0]) ?_ 0 _ rfl;(with_reducible repeat first|apply b1_|apply b2_|apply b3_);exact BK282.out) hb);have n4_:=m_ (l5_ (by repeat (first|(with_reducible first|exact HB.out|apply l1_|apply l2_|apply l3_|refine l4_ ?_ GE271.out|refine l4_ ?_ GE276.out|refine l4_ ?_ GE282.out)|exact HB.out)) hb);clear HO_4;clear BK271;clear BK276;clear BK282;clear HB;have HO_4:=n0_;have BK271:=n1_;have BK276:=n2_;have BK282:=n3_;have HB:=n4_;clear n0_ n1_ n2_ n3_ n4_;(try clear hb);(try clear hb2);(try clear hk);(try clear hi))|((with_reducible refine gate_dst (N:=8) rfl ?_);(try (refine gate_guard (by rfl) ?_;dsimp only));refine box_event ?hg (N:=8) ?hd (cs:=#[.int .i64 0,.int .i64 0]) (t:=24) ?hr ?_;(case hd=>rfl);(case hg=>rfl);(case hr=>first|(go_simp;done)|(go_simp;rfl));intro gb287 hg w33 hbox hb;have n0_:=m_ (Kd.R_below (by (with_reducible repeat (first|apply Kd.R_alloc|apply Kd.R_drewN|apply Kd.R_drew));exact HO_4.out) hb);have n1_:=m_ (blk_below (g:=gb271) (o:=.cells #[.int .i64 0,.int .i64 0,.int .i64 0,.int .i64 0,.int .i64 0,.int .i64 0,.string (⟨#[]⟩ : ByteArray)] 26 (0,0)) (by (with_reducible repeat first|apply b1_|apply b2_|apply b3_);exact BK271.out) hb);have n2_:=m_ (blk_below (g:=gb276) (o:=.cells #[.int .i64 x277000_11,.int .i64 0,.int .i64 0,.int .i64 0,.int .i64 0,.int .i64 0,.string (⟨#[]⟩ : ByteArray)] 26 (0,0)) (by (with_reducible repeat first|apply b1_|apply b2_|apply b3_);exact BK276.out) hb);have n3_:=m_ (blk_below (g:=gb282) (o:=.cells #[.int .i64 t279,.int .i64 t280] 24 (0,0)) (by (with_reducible repeat first|apply b1_|apply b2_|apply b3_);exact BK282.out) hb);have n4_:=m_ (l5_ (by repeat (first|(with_reducible first|exact HB.out|apply l1_|apply l2_|apply l3_|refine l4_ ?_ GE271.out|refine l4_ ?_ GE276.out|refine l4_ ?_ GE282.out)|exact HB.out)) hb);have n5_:=m_ (hbox);have n6_:=m_ ((by rw [hg];exact (l6_ (by repeat (first|(with_reducible first|exact HB.out|apply l1_|apply l2_|apply l3_|refine l4_ ?_ GE271.out|refine l4_ ?_ GE276.out|refine l4_ ?_ GE282.out)|exact HB.out))) : w.heap.size ≤ gb287));have n7_:=n6_;have n8_:=m_ ((by rw [hg];exact Nat.ne_of_lt (blk_lt (g:=gb271) (o:=.cells #[.int .i64 0,.int .i64 0,.int .i64 0,.int .i64 0,.int .i64 0,.int .i64 0,.string (⟨#[]⟩ : ByteArray)] 26 (0,0)) (by (with_reducible repeat first|apply b1_|apply b2_|apply b3_);exact BK271.out)) : gb271 ≠ gb287));have n9_:=m_ n8_.out.symm;have n10_:=m_ ((by rw [hg];exact Nat.ne_of_lt (blk_lt (g:=gb276) (o:=.cells #[.int .i64 x277000_11,.int .i64 0,.int .i64 0,.int .i64 0,.int .i64 0,.int .i64 0,.string (⟨#[]⟩ : ByteArray)] 26 (0,0)) (by (with_reducible repeat first|apply b1_|apply b2_|apply b3_);exact BK276.out)) : gb276 ≠ gb287));have n11_:=m_ n10_.out.symm;have n12_:=m_ ((by rw [hg];exact Nat.ne_of_lt (blk_lt (g:=gb282) (o:=.cells #[.int .i64 t279,.int .i64 t280] 24 (0,0)) (by (with_reducible repeat first|apply b1_|apply b2_|apply b3_);exact BK282.out)) : gb282 ≠ gb287));have n13_:=m_ ((by rw [hg];exact Nat.ne_of_gt (blk_lt (g:=gb282) (o:=.cells #[.int .i64 t279,.int .i64 t280] 24 (0,0)) (by (with_reducible repeat first|apply b1_|apply b2_|apply b3_);exact BK282.out)) : gb287 ≠ gb282));clear HO_4;clear BK271;clear BK276;clear BK282;clear HB;have HO_4:=n0_;have BK271:=n1_;have BK276:=n2_;have BK282:=n3_;have HB:=n4_;have BK287:=n5_;have GW287:=n6_;have GE287:=n7_;have NB271_287:=n8_;have NB287_271:=n9_;have NB276_287:=n10_;have NB287_276:=n11_;have NB282_287:=n12_;have NB287_282:=n13_;clear n0_ n1_ n2_ n3_ n4_ n5_ n6_ n7_ n8_ n9_ n10_ n11_ n12_ n13_;clear hb hbox hg;have hnb34:=NB287_271.out;have hnc34:=NB271_287.out;have hnb35:=NB287_276.out;have hnc35:=NB276_287.out;have hnb36:=NB287_282.out;have hnc36:=NB282_287.out;have hcz37_0 : w33.cell? ⟨gb287,0,none⟩ = some (.int .i64 0):=(c_ BK287.out 0).trans rfl;have hcz37_1 : w33.cell? ⟨gb287,1,none⟩ = some (.int .i64 0):=(c_ BK287.out 1).trans rfl;have hfz37_0:=f_ BK287.out 0;have hfz37_1:=f_ BK287.out 1;have p288 : 0 ≤ (3 : Int):=(by omega);have q288 : 3 < (t272.length : Int):=of_decide_eq_true (by first|(with_reducible assumption)|assumption);obtain ⟨ad288,e288,hx288_0⟩:=Kd.at_string (Kd.R_reads' HO_4.out).2.2 3 p288 q288;obtain rfl : ad277 = ad288:=(by injection e288);(try simp only [show (3 : Int).toNat = 3 from rfl,Nat.reduceMul,Nat.reduceEqDiff,Go.Addr.add,↓reduceIte] at hx288_0);have qi288 : (3 < t272.length) = True:=eq_true (by omega);(try rw [show ((3 : Int)).toNat = 3 from rfl] at hx288_0);have hn288_0 : ad277.block ≠ gb287:=Kd.own_blk (Kd.R_ne HO_4.out BK287.out (by decide));have hn288_1 : ad277.block ≠ gb287:=Kd.own_blk (Kd.R_ne HO_4.out BK287.out (by decide));replace hx288_0:=(cell_far (p:=⟨gb287,0,none⟩) (by first|(rw [add_block];exact hn288_0)|(show (Addr.add _ _).block ≠ _;rw [add_block];exact hn288_0)|exact hn288_0) (.int .i64 t284)).trans hx288_0;replace hx288_0:=(cell_far (p:=⟨gb287,1,none⟩) (by first|(rw [add_block];exact hn288_1)|(show (Addr.add _ _).block ≠ _;rw [add_block];exact hn288_1)|exact hn288_1) (.int .i64 t285)).trans hx288_0;clear hn288_0;clear hn288_1;replace p288:=eq_true p288;replace q288:=eq_true q288)|((with_reducible refine gate_callee (f:=26) rfl ?_);refine goesL_ (some 48) rfl rfl Tryd.func26 (by kernel_rfl) rfl #[.string (rdOf ByteArray.empty t272 3)] rfl (by (try simp only [List.map_toArray,List.map_cons,List.map_nil]);first|done|rfl|(simp only [List.length_drop,List.length_take];rfl)) ?_;(with_reducible refine (strconv_Atoi.calls (rdOf ByteArray.empty t272 3) t289 t290 _ ?side1 A25.out).mono ?_);(case side1=>first|(with_reducible exact HG.out)|exact GV_below HG.out (by repeat (first|(with_reducible first|exact HB.out|apply l1_|apply l2_|apply l3_|refine l4_ ?_ GE271.out|refine l4_ ?_ GE276.out|refine l4_ ?_ GE282.out|refine l4_ ?_ GE287.out)|exact HB.out)));rintro e w38 ⟨E_,hE_,rfl,hb⟩;have HE_:=m_ hE_;clear hE_;refine ⟨_,rfl,?_⟩;have n0_:=m_ (Kd.R_below (by (with_reducible repeat (first|apply Kd.R_alloc|apply Kd.R_drewN|apply Kd.R_drew));exact (Kd.R_mono (Kd.R_far (p:=⟨gb287,1,none⟩) (Kd.R_far (p:=⟨gb287,0,none⟩) (Kd.R_types HO_4.out BK287.out (by decide)) (fun _ hk=>hk.2) (.int .i64 t284)) (fun _ hk=>hk.2) (.int .i64 t285)) (fun _ h_=>h_.1))) hb);have n1_:=m_ (blk_below (g:=gb271) (o:=.cells #[.int .i64 0,.int .i64 0,.int .i64 0,.int .i64 0,.int .i64 0,.int .i64 0,.string (⟨#[]⟩ : ByteArray)] 26 (0,0)) (by (with_reducible repeat first|apply b1_|apply b2_|apply b3_);refine b4_ ?_ NB271_287.out _;(with_reducible repeat first|apply b1_|apply b2_|apply b3_);refine b4_ ?_ NB271_287.out _;(with_reducible repeat first|apply b1_|apply b2_|apply b3_);exact BK271.out) hb);have n2_:=m_ (blk_below (g:=gb276) (o:=.cells #[.int .i64 x277000_11,.int .i64 0,.int .i64 0,.int .i64 0,.int .i64 0,.int .i64 0,.string (⟨#[]⟩ : ByteArray)] 26 (0,0)) (by (with_reducible repeat first|apply b1_|apply b2_|apply b3_);refine b4_ ?_ NB276_287.out _;(with_reducible repeat first|apply b1_|apply b2_|apply b3_);refine b4_ ?_ NB276_287.out _;(with_reducible repeat first|apply b1_|apply b2_|apply b3_);exact BK276.out) hb);have n3_:=m_ (blk_below (g:=gb282) (o:=.cells #[.int .i64 t279,.int .i64 t280] 24 (0,0)) (by (with_reducible repeat first|apply b1_|apply b2_|apply b3_);refine b4_ ?_ NB282_287.out _;(with_reducible repeat first|apply b1_|apply b2_|apply b3_);refine b4_ ?_ NB282_287.out _;(with_reducible repeat first|apply b1_|apply b2_|apply b3_);exact BK282.out) hb);have n4_:=m_ (blk_below (g:=gb287) (o:=.cells #[.int .i64 t284,.int .i64 t285] 24 (0,0)) (by (with_reducible repeat first|apply b1_|apply b2_|apply b3_);refine blk_put (cs:=#[.int .i64 t284,.int .i64 0]) ?_ 1 _ rfl;(with_reducible repeat first|apply b1_|apply b2_|apply b3_);refine blk_put (cs:=#[.int .i64 0,.int .i64 0]) ?_ 0 _ rfl;(with_reducible repeat first|apply b1_|apply b2_|apply b3_);exact BK287.out) hb);have n5_:=m_ (l5_ (by repeat (first|(with_reducible first|exact HB.out|apply l1_|apply l2_|apply l3_|refine l4_ ?_ GE271.out|refine l4_ ?_ GE276.out|refine l4_ ?_ GE282.out|refine l4_ ?_ GE287.out)|exact HB.out)) hb);clear HO_4;clear BK271;clear BK276;clear BK282;clear BK287;clear HB;have HO_4:=n0_;have BK271:=n1_;have BK276:=n2_;have BK282:=n3_;have BK287:=n4_;have HB:=n5_;clear n0_ n1_ n2_ n3_ n4_ n5_;(try clear hb);(try clear hb2);(try clear hk);(try clear hi);(try simp only [e1_,e2_])))
          have n0_:=m_ (Kd.R_drew HO_4.out)
          have n1_:=m_ (b2_ BK271.out)
          have n2_:=m_ (b2_ BK276.out)
          have n3_:=m_ (b2_ BK282.out)
          have n4_:=m_ (b2_ BK287.out)
          have n5_:=m_ (l3_ HB.out)
          clear HO_4
          clear BK271
          clear BK276
          clear BK282
          clear BK287
          clear HB
          have HO_4:=n0_
          have BK271:=n1_
          have BK276:=n2_
          have BK282:=n3_
          have BK287:=n4_
          have HB:=n5_
          clear n0_ n1_ n2_ n3_ n4_ n5_
          refine start_ (n:=9) (S:=fun w'=>w'.cell? ⟨gb282,0,none⟩ = some (.int .i64 t279) ∧ w'.cell? ⟨gb282,1,none⟩ = some (.int .i64 t280) ∧ w'.cell? ⟨gb287,0,none⟩ = some (.int .i64 t284) ∧ w'.cell? ⟨gb287,1,none⟩ = some (.int .i64 t285)) (ds:=[]) #[false,false,false,false,false,false,false,false,false] (by kernel_rfl) rfl rfl ⟨(c_ BK282.out 0).trans rfl,(c_ BK282.out 1).trans rfl,(c_ BK287.out 0).trans rfl,(c_ BK287.out 1).trans rfl⟩ (fun hHeld=>?_);refine with_tabW impl_PktRead.tab10 impl_PktRead.bits10 (fun HT_ HW_=>?_)
          generalize w38.drew = w39 at HO_4 BK271 BK276 BK282 BK287 HB hHeld ⊢
          refine pure_ (i:=2) (N:=some 53) (v:=?_) (a':=?_) #[false,false,true,false,false,false,false,false,false] rfl rfl (any_of HT_.out (by kernel_rfl)) (fun _ _ _ h=>h) (Or.inl ⟨by rfl,?_⟩) ?_ ?_
          rotate_left
          ·intro w'
           go_simp
           with_reducible rfl
          rotate_left
          ·simp only [Act.put,s1_,s2_,s3_,i64_w,i32_w]
           rfl
          refine take_ (i:=0) (N:=some 51) (v:=?_) (a':=?_) #[true,false,true,false,false,false,false,false,false] rfl rfl (take_ofW HT_.out HW_.out (by kernel_rfl)) (fun _ _ _ h=>h) (Or.inl ⟨by rfl,?_⟩) hHeld ?_ ?_
          rotate_left
          ·rintro w' ⟨s0,s1,s2,s3⟩
           go_simp
           with_reducible rfl
          rotate_left
          ·simp only [Act.put,s1_,s2_,s3_,i64_w,i32_w]
           rfl
          refine pure_ (i:=3) (N:=some 54) (v:=?_) (a':=?_) #[true,false,true,true,false,false,false,false,false] rfl rfl (any_of HT_.out (by kernel_rfl)) (fun _ _ _ h=>h) (Or.inl ⟨by rfl,?_⟩) ?_ ?_
          rotate_left
          ·intro w'
           go_simp
           with_reducible rfl
          rotate_left
          ·simp only [Act.put,s1_,s2_,s3_,i64_w,i32_w]
           rfl
          refine take_ (i:=1) (N:=some 52) (v:=?_) (a':=?_) #[true,true,true,true,false,false,false,false,false] rfl rfl (take_ofW HT_.out HW_.out (by kernel_rfl)) (fun _ _ _ h=>h) (Or.inl ⟨by rfl,?_⟩) hHeld ?_ ?_
          rotate_left
          ·rintro w' ⟨s0,s1,s2,s3⟩
           go_simp
           with_reducible rfl
          rotate_left
          ·simp only [Act.put,s1_,s2_,s3_,i64_w,i32_w]
           rfl
          refine one_ (i:=4) (N:=none) #[true,true,true,true,true,false,false,false,false] rfl rfl (one_of HT_.out (by kernel_rfl)) (by decide) (fun K hK=>?_)
          have hs40 : w39.cell? ⟨gb276,1,none⟩ = some (.int .i64 0):=(c_ BK276.out 1).trans rfl
          have hfs40:=f_ BK276.out 1
          have hns40_0:=NB271_276.out
          have hns40_2:=NB282_276.out
          have hns40_3:=NB287_276.out
          have hms40_0:=NB276_271.out
          have hms40_2:=NB276_282.out
          have hms40_3:=NB276_287.out
          have hs41 : w39.cell? ⟨gb276,2,none⟩ = some (.int .i64 0):=(c_ BK276.out 2).trans rfl
          have hfs41:=f_ BK276.out 2
          have hns41_0:=NB271_276.out
          have hns41_2:=NB282_276.out
          have hns41_3:=NB287_276.out
          have hms41_0:=NB276_271.out
          have hms41_2:=NB276_282.out
          have hms41_3:=NB276_287.out
          refine skip_ (w1:=?_) (by rfl) rfl ?_ ?_
          rotate_left
          ·go_simp
           rfl
          refine hK.out _ _ ⟨((cell_far (p:=⟨gb276,_,none⟩) NB282_276.out _).trans (((cell_far (p:=⟨gb276,_,none⟩) NB282_276.out _).trans (hHeld.1)))),((cell_far (p:=⟨gb276,_,none⟩) NB282_276.out _).trans (((cell_far (p:=⟨gb276,_,none⟩) NB282_276.out _).trans (hHeld.2.1)))),((cell_far (p:=⟨gb276,_,none⟩) NB287_276.out _).trans (((cell_far (p:=⟨gb276,_,none⟩) NB287_276.out _).trans (hHeld.2.2.1)))),((cell_far (p:=⟨gb276,_,none⟩) NB287_276.out _).trans (((cell_far (p:=⟨gb276,_,none⟩) NB287_276.out _).trans (hHeld.2.2.2))))⟩ (fun hHeld=>?_)
          clear hK K
          refine pure_ (i:=5) (N:=some 55) (v:=?_) (a':=?_) #[true,true,true,true,true,true,false,false,false] rfl rfl (any_of HT_.out (by kernel_rfl)) (fun _ _ _ h=>h) (Or.inl ⟨by rfl,?_⟩) ?_ ?_
          rotate_left
          ·intro w'
           go_simp
           with_reducible rfl
          rotate_left
          ·simp only [Act.put,s1_,s2_,s3_,i64_w,i32_w]
           rfl
          refine one_ (i:=6) (N:=none) #[true,true,true,true,true,true,true,false,false] rfl rfl (one_of HT_.out (by kernel_rfl)) (by decide) (fun K hK=>?_)
          have hs42 : w39.cell? ⟨gb276,3,none⟩ = some (.int .i64 0):=(c_ BK276.out 3).trans rfl
          have hfs42:=f_ BK276.out 3
          have hns42_0:=NB271_276.out
          have hns42_2:=NB282_276.out
          have hns42_3:=NB287_276.out
          have hms42_0:=NB276_271.out
          have hms42_2:=NB276_282.out
          have hms42_3:=NB276_287.out
          have hs43 : w39.cell? ⟨gb276,4,none⟩ = some (.int .i64 0):=(c_ BK276.out 4).trans rfl
          have hfs43:=f_ BK276.out 4
          have hns43_0:=NB271_276.out
          have hns43_2:=NB282_276.out
          have hns43_3:=NB287_276.out
          have hms43_0:=NB276_271.out
          have hms43_2:=NB276_282.out
          have hms43_3:=NB276_287.out
          refine skip_ (w1:=?_) (by rfl) rfl ?_ ?_
          rotate_left
          ·go_simp
           rfl
          refine hK.out _ _ ⟨((cell_far (p:=⟨gb276,_,none⟩) NB282_276.out _).trans (((cell_far (p:=⟨gb276,_,none⟩) NB282_276.out _).trans (hHeld.1)))),((cell_far (p:=⟨gb276,_,none⟩) NB282_276.out _).trans (((cell_far (p:=⟨gb276,_,none⟩) NB282_276.out _).trans (hHeld.2.1)))),((cell_far (p:=⟨gb276,_,none⟩) NB287_276.out _).trans (((cell_far (p:=⟨gb276,_,none⟩) NB287_276.out _).trans (hHeld.2.2.1)))),((cell_far (p:=⟨gb276,_,none⟩) NB287_276.out _).trans (((cell_far (p:=⟨gb276,_,none⟩) NB287_276.out _).trans (hHeld.2.2.2))))⟩ (fun hHeld=>?_)
          clear hK K
          refine pure_ (i:=7) (N:=some 56) (v:=?_) (a':=?_) #[true,true,true,true,true,true,true,true,false] rfl rfl (any_of HT_.out (by kernel_rfl)) (fun _ _ _ h=>h) (Or.inl ⟨by rfl,?_⟩) ?_ ?_
          rotate_left
          ·intro w'
           go_simp
           with_reducible rfl
          rotate_left
          ·simp only [Act.put,s1_,s2_,s3_,i64_w,i32_w]
           rfl
          refine one_ (i:=8) (N:=none) #[true,true,true,true,true,true,true,true,true] rfl rfl (one_of HT_.out (by kernel_rfl)) (by decide) (fun K hK=>?_)
          have hs44 : w39.cell? ⟨gb276,5,none⟩ = some (.int .i64 0):=(c_ BK276.out 5).trans rfl
          have hfs44:=f_ BK276.out 5
          have hns44_0:=NB271_276.out
          have hns44_2:=NB282_276.out
          have hns44_3:=NB287_276.out
          have hms44_0:=NB276_271.out
          have hms44_2:=NB276_282.out
          have hms44_3:=NB276_287.out
          refine skip_ (w1:=?_) (by rfl) rfl ?_ ?_
          rotate_left
          ·go_simp
           rfl
          refine hK.out _ _ ⟨((cell_far (p:=⟨gb276,_,none⟩) NB282_276.out _).trans (hHeld.1)),((cell_far (p:=⟨gb276,_,none⟩) NB282_276.out _).trans (hHeld.2.1)),((cell_far (p:=⟨gb276,_,none⟩) NB287_276.out _).trans (hHeld.2.2.1)),((cell_far (p:=⟨gb276,_,none⟩) NB287_276.out _).trans (hHeld.2.2.2))⟩ (fun hHeld=>?_)
          clear hK K
          refine done_ (done_of HT_.out (by kernel_rfl)) ?_
          go_upto_if 59 with (fail)
          go_cut [] (fun wc=>∃ (kq : Nat) (x277006_25 : ByteArray),Aside0 (impl_PktRead.j2 kq a0 t281 t286 t290 x277000_11 t279 t280 t284 t285 t289 x277006_25 = some (r1,r2,r3,r4,r5,r6,r7,r8)) ∧ Aside0 (kq ≤ kj11) ∧ Aside0 (wc.heap[gb271]? = some (.cells #[.int .i64 0,.int .i64 0,.int .i64 0,.int .i64 0,.int .i64 0,.int .i64 0,.string (⟨#[]⟩ : ByteArray)] 26 (0,0))) ∧ Aside0 (wc.heap[gb276]? = some (.cells #[.int .i64 x277000_11,.int .i64 t279,.int .i64 t280,.int .i64 t284,.int .i64 t285,.int .i64 t289,.string x277006_25] 26 (0,0))) ∧ Aside0 (wc.heap[gb282]? = some (.cells #[.int .i64 t279,.int .i64 t280] 24 (0,0))) ∧ Aside0 (wc.heap[gb287]? = some (.cells #[.int .i64 t284,.int .i64 t285] 24 (0,0))) ∧ Aside0 (Below w.heap.size w wc))
          case first =>
           have H:=HC26.out
           clear HC26
           by_cases c45 : (t272.length : Int) = 5
           ·rw [if_pos c45] at H
            have c45b0 : ((t272.length : Int) == 5) = true:=beq_iff_eq.mpr c45
            have c45b1 : ((t272.length : Int) != 5) = false:=bne_eq_false_iff_eq.mpr c45
            clear c45
            (first|rw [c45b0]|(simp only [i64_w,i32_w];rw [c45b0])|skip)
            by_cases c46 : 4 < (t272.length : Int)
            ·rw [if_pos c46] at H
             have c46b0 : decide (4 < (t272.length : Int)) = true:=decide_eq_true c46
             have c46b1 : decide (4 < t272.length) = true:=decide_eq_true (by omega)
             clear c46
             replace H:=Option.bind_eq_some_iff.mp H
             obtain ⟨t292,A470,H⟩:=H
             replace H : (impl_PktRead.j2 kj11 a0 t281 t286 t290 x277000_11 t279 t280 t284 t285 t289 t292) = some (r1,r2,r3,r4,r5,r6,r7,r8):=H
             have A47:=m_ A470
             clear A470
             have H':=m_ H
             clear H
             have p291 : 0 ≤ (4 : Int):=(by omega)
             have q291 : 4 < (t272.length : Int):=of_decide_eq_true (by first|(with_reducible assumption)|assumption)
             obtain ⟨ad291,e291,hx291_0⟩:=Kd.at_string (Kd.R_reads' HO_4.out).2.2 4 p291 q291
             obtain rfl : ad277 = ad291:=(by injection e291)
             (try simp only [show (4 : Int).toNat = 4 from rfl,Nat.reduceMul,Nat.reduceEqDiff,Go.Addr.add,↓reduceIte] at hx291_0)
             have qi291 : (4 < t272.length) = True:=eq_true (by omega)
             (try rw [show ((4 : Int)).toNat = 4 from rfl] at hx291_0)
             have hn291_0 : ad277.block ≠ gb276:=Kd.own_blk (Kd.R_ne HO_4.out BK276.out (by decide))
             have hn291_1 : ad277.block ≠ gb276:=Kd.own_blk (Kd.R_ne HO_4.out BK276.out (by decide))
             have hn291_2 : ad277.block ≠ gb276:=Kd.own_blk (Kd.R_ne HO_4.out BK276.out (by decide))
             have hn291_3 : ad277.block ≠ gb276:=Kd.own_blk (Kd.R_ne HO_4.out BK276.out (by decide))
             have hn291_4 : ad277.block ≠ gb276:=Kd.own_blk (Kd.R_ne HO_4.out BK276.out (by decide))
             replace hx291_0:=(cell_far (p:=⟨gb276,1,none⟩) (by first|(rw [add_block];exact hn291_0)|(show (Addr.add _ _).block ≠ _;rw [add_block];exact hn291_0)|exact hn291_0) (.int .i64 t279)).trans hx291_0
             replace hx291_0:=(cell_far (p:=⟨gb276,2,none⟩) (by first|(rw [add_block];exact hn291_1)|(show (Addr.add _ _).block ≠ _;rw [add_block];exact hn291_1)|exact hn291_1) (.int .i64 t280)).trans hx291_0
             replace hx291_0:=(cell_far (p:=⟨gb276,3,none⟩) (by first|(rw [add_block];exact hn291_2)|(show (Addr.add _ _).block ≠ _;rw [add_block];exact hn291_2)|exact hn291_2) (.int .i64 t284)).trans hx291_0
             replace hx291_0:=(cell_far (p:=⟨gb276,4,none⟩) (by first|(rw [add_block];exact hn291_3)|(show (Addr.add _ _).block ≠ _;rw [add_block];exact hn291_3)|exact hn291_3) (.int .i64 t285)).trans hx291_0
             replace hx291_0:=(cell_far (p:=⟨gb276,5,none⟩) (by first|(rw [add_block];exact hn291_4)|(show (Addr.add _ _).block ≠ _;rw [add_block];exact hn291_4)|exact hn291_4) (.int .i64 t289)).trans hx291_0
             clear hn291_0
             clear hn291_1
             clear hn291_2
             clear hn291_3
             clear hn291_4
             replace p291:=eq_true p291
             replace q291:=eq_true q291
             go_wp2_with (first|((with_reducible refine gate_callee (f:=27) rfl ?_);refine goesL_ (some 63) rfl rfl Tryd.func27 (by kernel_rfl) rfl #[.string (rdOf ByteArray.empty t272 4)] rfl (by (try simp only [List.map_toArray,List.map_cons,List.map_nil]);first|done|rfl|(simp only [List.length_drop,List.length_take];rfl)) ?_;(with_reducible refine (strings_Clone.calls (rdOf ByteArray.empty t272 4) t292 _ A47.out).mono ?_);rintro e w48 ⟨rfl,hb⟩;refine ⟨_,rfl,?_⟩;have n0_:=m_ (Kd.R_below (by (with_reducible repeat (first|apply Kd.R_alloc|apply Kd.R_drewN|apply Kd.R_drew));exact (Kd.R_mono (Kd.R_far (p:=⟨gb276,5,none⟩) (Kd.R_far (p:=⟨gb276,4,none⟩) (Kd.R_far (p:=⟨gb276,3,none⟩) (Kd.R_far (p:=⟨gb276,2,none⟩) (Kd.R_far (p:=⟨gb276,1,none⟩) (Kd.R_types HO_4.out BK276.out (by decide)) (fun _ hk=>hk.2) (.int .i64 t279)) (fun _ hk=>hk.2) (.int .i64 t280)) (fun _ hk=>hk.2) (.int .i64 t284)) (fun _ hk=>hk.2) (.int .i64 t285)) (fun _ hk=>hk.2) (.int .i64 t289)) (fun _ h_=>h_.1))) hb);have n1_:=m_ (blk_below (g:=gb271) (o:=.cells #[.int .i64 0,.int .i64 0,.int .i64 0,.int .i64 0,.int .i64 0,.int .i64 0,.string (⟨#[]⟩ : ByteArray)] 26 (0,0)) (by (with_reducible repeat first|apply b1_|apply b2_|apply b3_);refine b4_ ?_ NB271_276.out _;(with_reducible repeat first|apply b1_|apply b2_|apply b3_);refine b4_ ?_ NB271_276.out _;(with_reducible repeat first|apply b1_|apply b2_|apply b3_);refine b4_ ?_ NB271_276.out _;(with_reducible repeat first|apply b1_|apply b2_|apply b3_);refine b4_ ?_ NB271_276.out _;(with_reducible repeat first|apply b1_|apply b2_|apply b3_);refine b4_ ?_ NB271_276.out _;(with_reducible repeat first|apply b1_|apply b2_|apply b3_);exact BK271.out) hb);have n2_:=m_ (blk_below (g:=gb276) (o:=.cells #[.int .i64 x277000_11,.int .i64 t279,.int .i64 t280,.int .i64 t284,.int .i64 t285,.int .i64 t289,.string (⟨#[]⟩ : ByteArray)] 26 (0,0)) (by (with_reducible repeat first|apply b1_|apply b2_|apply b3_);refine blk_put (cs:=#[.int .i64 x277000_11,.int .i64 t279,.int .i64 t280,.int .i64 t284,.int .i64 t285,.int .i64 0,.string (⟨#[]⟩ : ByteArray)]) ?_ 5 _ rfl;(with_reducible repeat first|apply b1_|apply b2_|apply b3_);refine blk_put (cs:=#[.int .i64 x277000_11,.int .i64 t279,.int .i64 t280,.int .i64 t284,.int .i64 0,.int .i64 0,.string (⟨#[]⟩ : ByteArray)]) ?_ 4 _ rfl;(with_reducible repeat first|apply b1_|apply b2_|apply b3_);refine blk_put (cs:=#[.int .i64 x277000_11,.int .i64 t279,.int .i64 t280,.int .i64 0,.int .i64 0,.int .i64 0,.string (⟨#[]⟩ : ByteArray)]) ?_ 3 _ rfl;(with_reducible repeat first|apply b1_|apply b2_|apply b3_);refine blk_put (cs:=#[.int .i64 x277000_11,.int .i64 t279,.int .i64 0,.int .i64 0,.int .i64 0,.int .i64 0,.string (⟨#[]⟩ : ByteArray)]) ?_ 2 _ rfl;(with_reducible repeat first|apply b1_|apply b2_|apply b3_);refine blk_put (cs:=#[.int .i64 x277000_11,.int .i64 0,.int .i64 0,.int .i64 0,.int .i64 0,.int .i64 0,.string (⟨#[]⟩ : ByteArray)]) ?_ 1 _ rfl;(with_reducible repeat first|apply b1_|apply b2_|apply b3_);exact BK276.out) hb);have n3_:=m_ (blk_below (g:=gb282) (o:=.cells #[.int .i64 t279,.int .i64 t280] 24 (0,0)) (by (with_reducible repeat first|apply b1_|apply b2_|apply b3_);refine b4_ ?_ NB282_276.out _;(with_reducible repeat first|apply b1_|apply b2_|apply b3_);refine b4_ ?_ NB282_276.out _;(with_reducible repeat first|apply b1_|apply b2_|apply b3_);refine b4_ ?_ NB282_276.out _;(with_reducible repeat first|apply b1_|apply b2_|apply b3_);refine b4_ ?_ NB282_276.out _;(with_reducible repeat first|apply b1_|apply b2_|apply b3_);refine b4_ ?_ NB282_276.out _;(with_reducible repeat first|apply b1_|apply b2_|apply b3_);exact BK282.out) hb);have n4_:=m_ (blk_below (g:=gb287) (o:=.cells #[.int .i64 t284,.int .i64 t285] 24 (0,0)) (by (with_reducible repeat first|apply b1_|apply b2_|apply b3_);refine b4_ ?_ NB287_276.out _;(with_reducible repeat first|apply b1_|apply b2_|apply b3_);refine b4_ ?_ NB287_276.out _;(with_reducible repeat first|apply b1_|apply b2_|apply b3_);refine b4_ ?_ NB287_276.out _;(with_reducible repeat first|apply b1_|apply b2_|apply b3_);refine b4_ ?_ NB287_276.out _;(with_reducible repeat first|apply b1_|apply b2_|apply b3_);refine b4_ ?_ NB287_276.out _;(with_reducible repeat first|apply b1_|apply b2_|apply b3_);exact BK287.out) hb);have n5_:=m_ (l5_ (by repeat (first|(with_reducible first|exact HB.out|apply l1_|apply l2_|apply l3_|refine l4_ ?_ GE271.out|refine l4_ ?_ GE276.out|refine l4_ ?_ GE282.out|refine l4_ ?_ GE287.out)|exact HB.out)) hb);clear HO_4;clear BK271;clear BK276;clear BK282;clear BK287;clear HB;have HO_4:=n0_;have BK271:=n1_;have BK276:=n2_;have BK282:=n3_;have BK287:=n4_;have HB:=n5_;clear n0_ n1_ n2_ n3_ n4_ n5_;(try clear hb);(try clear hb2);(try clear hk);(try clear hi);have hnb49:=NB276_271.out;have hnc49:=NB271_276.out;have hnb50:=NB276_282.out;have hnc50:=NB282_276.out;have hnb51:=NB276_287.out;have hnc51:=NB287_276.out;have hcz52_0 : w48.cell? ⟨gb276,0,none⟩ = some (.int .i64 x277000_11):=(c_ BK276.out 0).trans rfl;have hcz52_1 : w48.cell? ⟨gb276,1,none⟩ = some (.int .i64 t279):=(c_ BK276.out 1).trans rfl;have hcz52_2 : w48.cell? ⟨gb276,2,none⟩ = some (.int .i64 t280):=(c_ BK276.out 2).trans rfl;have hcz52_3 : w48.cell? ⟨gb276,3,none⟩ = some (.int .i64 t284):=(c_ BK276.out 3).trans rfl;have hcz52_4 : w48.cell? ⟨gb276,4,none⟩ = some (.int .i64 t285):=(c_ BK276.out 4).trans rfl;have hcz52_5 : w48.cell? ⟨gb276,5,none⟩ = some (.int .i64 t289):=(c_ BK276.out 5).trans rfl;have hcz52_6 : w48.cell? ⟨gb276,6,none⟩ = some (.string (⟨#[]⟩ : ByteArray)):=(c_ BK276.out 6).trans rfl;have hfz52_0:=f_ BK276.out 0;have hfz52_1:=f_ BK276.out 1;have hfz52_2:=f_ BK276.out 2;have hfz52_3:=f_ BK276.out 3;have hfz52_4:=f_ BK276.out 4;have hfz52_5:=f_ BK276.out 5;have hfz52_6:=f_ BK276.out 6))
             go_meet
             case rel=>exact ⟨_,(t292),H',⟨by have:=HJ2.out;have:=HJ11.out;first|omega|exact Nat.le_refl _⟩,⟨by (with_reducible repeat first|apply b1_|apply b2_|apply b3_);refine b4_ ?_ NB271_276.out _;(with_reducible repeat first|apply b1_|apply b2_|apply b3_);exact BK271.out⟩,⟨by (with_reducible repeat first|apply b1_|apply b2_|apply b3_);refine blk_put (cs:=#[.int .i64 x277000_11,.int .i64 t279,.int .i64 t280,.int .i64 t284,.int .i64 t285,.int .i64 t289,.string (⟨#[]⟩ : ByteArray)]) ?_ 6 _ rfl;(with_reducible repeat first|apply b1_|apply b2_|apply b3_);exact BK276.out⟩,⟨by (with_reducible repeat first|apply b1_|apply b2_|apply b3_);refine b4_ ?_ NB282_276.out _;(with_reducible repeat first|apply b1_|apply b2_|apply b3_);exact BK282.out⟩,⟨by (with_reducible repeat first|apply b1_|apply b2_|apply b3_);refine b4_ ?_ NB287_276.out _;(with_reducible repeat first|apply b1_|apply b2_|apply b3_);exact BK287.out⟩,⟨by repeat (first|(with_reducible first|exact HB.out|apply l1_|apply l2_|apply l3_|refine l4_ ?_ GE271.out|refine l4_ ?_ GE276.out|refine l4_ ?_ GE282.out|refine l4_ ?_ GE287.out)|exact HB.out)⟩⟩
            ·rw [if_neg c46] at H
             exact absurd H (by simp)
           ·rw [if_neg c45] at H
            have c45b0 : ((t272.length : Int) == 5) = false:=beq_eq_false_iff_ne.mpr c45
            have c45b1 : ((t272.length : Int) != 5) = true:=bne_iff_ne.mpr c45
            (first|rw [c45b0]|(simp only [i64_w,i32_w];rw [c45b0])|skip)
            have H':=m_ H
            clear H
            go_wp2
            go_meet
            case rel=>exact ⟨_,((⟨#[]⟩ : ByteArray)),H',⟨by have:=HJ2.out;have:=HJ11.out;first|omega|exact Nat.le_refl _⟩,⟨by (with_reducible repeat first|apply b1_|apply b2_|apply b3_);refine b4_ ?_ NB271_276.out _;(with_reducible repeat first|apply b1_|apply b2_|apply b3_);refine b4_ ?_ NB271_276.out _;(with_reducible repeat first|apply b1_|apply b2_|apply b3_);refine b4_ ?_ NB271_276.out _;(with_reducible repeat first|apply b1_|apply b2_|apply b3_);refine b4_ ?_ NB271_276.out _;(with_reducible repeat first|apply b1_|apply b2_|apply b3_);refine b4_ ?_ NB271_276.out _;(with_reducible repeat first|apply b1_|apply b2_|apply b3_);exact BK271.out⟩,⟨by (with_reducible repeat first|apply b1_|apply b2_|apply b3_);refine blk_put (cs:=#[.int .i64 x277000_11,.int .i64 t279,.int .i64 t280,.int .i64 t284,.int .i64 t285,.int .i64 0,.string (⟨#[]⟩ : ByteArray)]) ?_ 5 _ rfl;(with_reducible repeat first|apply b1_|apply b2_|apply b3_);refine blk_put (cs:=#[.int .i64 x277000_11,.int .i64 t279,.int .i64 t280,.int .i64 t284,.int .i64 0,.int .i64 0,.string (⟨#[]⟩ : ByteArray)]) ?_ 4 _ rfl;(with_reducible repeat first|apply b1_|apply b2_|apply b3_);refine blk_put (cs:=#[.int .i64 x277000_11,.int .i64 t279,.int .i64 t280,.int .i64 0,.int .i64 0,.int .i64 0,.string (⟨#[]⟩ : ByteArray)]) ?_ 3 _ rfl;(with_reducible repeat first|apply b1_|apply b2_|apply b3_);refine blk_put (cs:=#[.int .i64 x277000_11,.int .i64 t279,.int .i64 0,.int .i64 0,.int .i64 0,.int .i64 0,.string (⟨#[]⟩ : ByteArray)]) ?_ 2 _ rfl;(with_reducible repeat first|apply b1_|apply b2_|apply b3_);refine blk_put (cs:=#[.int .i64 x277000_11,.int .i64 0,.int .i64 0,.int .i64 0,.int .i64 0,.int .i64 0,.string (⟨#[]⟩ : ByteArray)]) ?_ 1 _ rfl;(with_reducible repeat first|apply b1_|apply b2_|apply b3_);exact BK276.out⟩,⟨by (with_reducible repeat first|apply b1_|apply b2_|apply b3_);refine b4_ ?_ NB282_276.out _;(with_reducible repeat first|apply b1_|apply b2_|apply b3_);refine b4_ ?_ NB282_276.out _;(with_reducible repeat first|apply b1_|apply b2_|apply b3_);refine b4_ ?_ NB282_276.out _;(with_reducible repeat first|apply b1_|apply b2_|apply b3_);refine b4_ ?_ NB282_276.out _;(with_reducible repeat first|apply b1_|apply b2_|apply b3_);refine b4_ ?_ NB282_276.out _;(with_reducible repeat first|apply b1_|apply b2_|apply b3_);exact BK282.out⟩,⟨by (with_reducible repeat first|apply b1_|apply b2_|apply b3_);refine b4_ ?_ NB287_276.out _;(with_reducible repeat first|apply b1_|apply b2_|apply b3_);refine b4_ ?_ NB287_276.out _;(with_reducible repeat first|apply b1_|apply b2_|apply b3_);refine b4_ ?_ NB287_276.out _;(with_reducible repeat first|apply b1_|apply b2_|apply b3_);refine b4_ ?_ NB287_276.out _;(with_reducible repeat first|apply b1_|apply b2_|apply b3_);refine b4_ ?_ NB287_276.out _;(with_reducible repeat first|apply b1_|apply b2_|apply b3_);exact BK287.out⟩,⟨by repeat (first|(with_reducible first|exact HB.out|apply l1_|apply l2_|apply l3_|refine l4_ ?_ GE271.out|refine l4_ ?_ GE276.out|refine l4_ ?_ GE282.out|refine l4_ ?_ GE287.out)|exact HB.out)⟩⟩
          case rest =>
           clear HC26
           try clear c1
           try clear c2
           try clear p2
           try clear q2
           try clear hx2
           try clear qi2
           try clear c3
           try clear c4
           try clear c5
           try clear c6
           try clear c6b0
           try clear c6b1
           try clear c9
           try clear c10
           try clear c11
           try clear c11b0
           try clear c11b1
           try clear c14
           try clear c17
           try clear c17b0
           try clear c17b1
           try clear c18
           try clear c20
           try clear c20b0
           try clear c20b1
           try clear c22
           try clear c22b0
           try clear c22b1
           try clear c23
           try clear c24
           try clear c24b0
           try clear c24b1
           try clear c25
           try clear c26
           try clear c27
           try clear p27
           try clear q27
           try clear hx27
           try clear qi27
           try clear p28
           try clear q28
           try clear hx28
           try clear qi28
           try clear c29
           try clear p29
           try clear q29
           try clear hx29
           try clear qi29
           try clear c30
           try clear c34
           try clear c35
           try clear c36
           try clear c45
           try clear c45b0
           try clear c45b1
           try clear c46
           try clear c46b0
           try clear c46b1
           try clear c49
           try clear c50
           try clear c51
           try clear hcz10_0
           try clear hcz10_1
           try clear hcz10_2
           try clear hcz10_3
           try clear hcz10_4
           try clear hcz10_5
           try clear hcz10_6
           try clear hcz15_0
           try clear hcz15_1
           try clear hcz15_2
           try clear hcz15_3
           try clear hcz15_4
           try clear hcz15_5
           try clear hcz15_6
           try clear hcz19_0
           try clear hcz19_1
           try clear hcz19_2
           try clear hcz19_3
           try clear hcz19_4
           try clear hcz19_5
           try clear hcz19_6
           try clear hcz31_0
           try clear hcz31_1
           try clear hcz37_0
           try clear hcz37_1
           try clear hcz52_0
           try clear hcz52_1
           try clear hcz52_2
           try clear hcz52_3
           try clear hcz52_4
           try clear hcz52_5
           try clear hcz52_6
           try clear hfz10_0
           try clear hfz10_1
           try clear hfz10_2
           try clear hfz10_3
           try clear hfz10_4
           try clear hfz10_5
           try clear hfz10_6
           try clear hfz15_0
           try clear hfz15_1
           try clear hfz15_2
           try clear hfz15_3
           try clear hfz15_4
           try clear hfz15_5
           try clear hfz15_6
           try clear hfz19_0
           try clear hfz19_1
           try clear hfz19_2
           try clear hfz19_3
           try clear hfz19_4
           try clear hfz19_5
           try clear hfz19_6
           try clear hfz31_0
           try clear hfz31_1
           try clear hfz37_0
           try clear hfz37_1
           try clear hfz52_0
           try clear hfz52_1
           try clear hfz52_2
           try clear hfz52_3
           try clear hfz52_4
           try clear hfz52_5
           try clear hfz52_6
           try clear hx277_0
           try clear hx278_0
           try clear hx283_0
           try clear hx288_0
           try clear hx291_0
           try clear p2
           try clear p277
           try clear p278
           try clear p283
           try clear p288
           try clear p291
           try clear q2
           try clear q277
           try clear q278
           try clear q283
           try clear q288
           try clear q291
           obtain ⟨kq,x277006_25,HA,HJ25,BK271,BK276,BK282,BK287,HB⟩:=hcut
           cases kq with
           | zero => exact absurd HA.out (by simp [impl_PktRead.j2])
           | succ kj25 =>
            have H:=HA.out
            clear HA
            simp only [impl_PktRead.j2] at H
            by_cases c53 : t281 = true
            ·subst c53
             have H1 : (if t286 = true then (if t290.isNone = true then ((impl_PktOk.f x277000_11 t279 t280 t284 t285 t289 x277006_25).bind fun t294=>(if t294 = true then ((impl_PktText.f x277000_11 t279 t280 t284 t285 t289 x277006_25).bind fun t295=>(if t295.toList = a0.toList then (some (x277000_11,t279,t280,t284,t285,t289,x277006_25,true)) else (some (0,0,0,0,0,0,(⟨#[]⟩ : ByteArray),false)))) else (some (0,0,0,0,0,0,(⟨#[]⟩ : ByteArray),false)))) else (some (0,0,0,0,0,0,(⟨#[]⟩ : ByteArray),false))) else (some (0,0,0,0,0,0,(⟨#[]⟩ : ByteArray),false))) = some (r1,r2,r3,r4,r5,r6,r7,r8):=by rw [if_pos rfl] at H;exact H
             clear H
             have H:=H1
             clear H1
             by_cases c54 : t286 = true
             ·subst c54
              have H1 : (if t290.isNone = true then ((impl_PktOk.f x277000_11 t279 t280 t284 t285 t289 x277006_25).bind fun t294=>(if t294 = true then ((impl_PktText.f x277000_11 t279 t280 t284 t285 t289 x277006_25).bind fun t295=>(if t295.toList = a0.toList then (some (x277000_11,t279,t280,t284,t285,t289,x277006_25,true)) else (some (0,0,0,0,0,0,(⟨#[]⟩ : ByteArray),false)))) else (some (0,0,0,0,0,0,(⟨#[]⟩ : ByteArray),false)))) else (some (0,0,0,0,0,0,(⟨#[]⟩ : ByteArray),false))) = some (r1,r2,r3,r4,r5,r6,r7,r8):=by rw [if_pos rfl] at H;exact H
              clear H
              have H:=H1
              clear H1
              rcases t290 with _|q293
              ·have H1 : ((impl_PktOk.f x277000_11 t279 t280 t284 t285 t289 x277006_25).bind fun t294=>(if t294 = true then ((impl_PktText.f x277000_11 t279 t280 t284 t285 t289 x277006_25).bind fun t295=>(if t295.toList = a0.toList then (some (x277000_11,t279,t280,t284,t285,t289,x277006_25,true)) else (some (0,0,0,0,0,0,(⟨#[]⟩ : ByteArray),false)))) else (some (0,0,0,0,0,0,(⟨#[]⟩ : ByteArray),false)))) = some (r1,r2,r3,r4,r5,r6,r7,r8):=by rw [if_pos (show (none : Option Int).isNone = true by rfl)] at H;exact H
               clear H
               have H:=H1
               clear H1
               obtain rfl:=HE_.out
               replace H:=Option.bind_eq_some_iff.mp H
               obtain ⟨t294,A550,H⟩:=H
               replace H : (if t294 = true then ((impl_PktText.f x277000_11 t279 t280 t284 t285 t289 x277006_25).bind fun t295=>(if t295.toList = a0.toList then (some (x277000_11,t279,t280,t284,t285,t289,x277006_25,true)) else (some (0,0,0,0,0,0,(⟨#[]⟩ : ByteArray),false)))) else (some (0,0,0,0,0,0,(⟨#[]⟩ : ByteArray),false))) = some (r1,r2,r3,r4,r5,r6,r7,r8):=H
               have A55:=m_ A550
               clear A550
               by_cases c56 : t294 = true
               ·subst c56
                have H1 : ((impl_PktText.f x277000_11 t279 t280 t284 t285 t289 x277006_25).bind fun t295=>(if t295.toList = a0.toList then (some (x277000_11,t279,t280,t284,t285,t289,x277006_25,true)) else (some (0,0,0,0,0,0,(⟨#[]⟩ : ByteArray),false)))) = some (r1,r2,r3,r4,r5,r6,r7,r8):=by rw [if_pos rfl] at H;exact H
                clear H
                have H:=H1
                clear H1
                replace H:=Option.bind_eq_some_iff.mp H
                obtain ⟨t295,A570,H⟩:=H
                replace H : (if t295.toList = a0.toList then (some (x277000_11,t279,t280,t284,t285,t289,x277006_25,true)) else (some (0,0,0,0,0,0,(⟨#[]⟩ : ByteArray),false))) = some (r1,r2,r3,r4,r5,r6,r7,r8):=H
                have A57:=m_ A570
                clear A570
                by_cases c58 : t295.toList = a0.toList
                ·rw [if_pos c58] at H
                 have c58b0 : (t295.toList == a0.toList) = true:=beq_iff_eq.mpr c58
                 have c58b1 : (t295.toList != a0.toList) = false:=bne_eq_false_iff_eq.mpr c58
                 clear c58
                 simp only [Option.some.injEq,Prod.mk.injEq] at H
                 obtain ⟨rfl,rfl,rfl,rfl,rfl,rfl,rfl,rfl⟩:=H
                 have hnb59:=NB276_271.out
                 have hnc59:=NB271_276.out
                 have hnb60:=NB276_282.out
                 have hnc60:=NB282_276.out
                 have hnb61:=NB276_287.out
                 have hnc61:=NB287_276.out
                 have hcz62_0 : wc.cell? ⟨gb276,0,none⟩ = some (.int .i64 x277000_11):=(c_ BK276.out 0).trans rfl
                 have hcz62_1 : wc.cell? ⟨gb276,1,none⟩ = some (.int .i64 t279):=(c_ BK276.out 1).trans rfl
                 have hcz62_2 : wc.cell? ⟨gb276,2,none⟩ = some (.int .i64 t280):=(c_ BK276.out 2).trans rfl
                 have hcz62_3 : wc.cell? ⟨gb276,3,none⟩ = some (.int .i64 t284):=(c_ BK276.out 3).trans rfl
                 have hcz62_4 : wc.cell? ⟨gb276,4,none⟩ = some (.int .i64 t285):=(c_ BK276.out 4).trans rfl
                 have hcz62_5 : wc.cell? ⟨gb276,5,none⟩ = some (.int .i64 t289):=(c_ BK276.out 5).trans rfl
                 have hcz62_6 : wc.cell? ⟨gb276,6,none⟩ = some (.string x277006_25):=(c_ BK276.out 6).trans rfl
                 have hfz62_0:=f_ BK276.out 0
                 have hfz62_1:=f_ BK276.out 1
                 have hfz62_2:=f_ BK276.out 2
                 have hfz62_3:=f_ BK276.out 3
                 have hfz62_4:=f_ BK276.out 4
                 have hfz62_5:=f_ BK276.out 5
                 have hfz62_6:=f_ BK276.out 6
                 go_wp2_with (first|(go_at_call 11;(with_reducible refine (impl_PktOk.calls x277000_11 t279 t280 t284 t285 t289 x277006_25 true _ A55.out).mono ?_);rintro e w63 ⟨rfl,hb⟩;have n0_:=m_ (blk_below (g:=gb271) (o:=.cells #[.int .i64 0,.int .i64 0,.int .i64 0,.int .i64 0,.int .i64 0,.int .i64 0,.string (⟨#[]⟩ : ByteArray)] 26 (0,0)) (by (with_reducible repeat first|apply b1_|apply b2_|apply b3_);exact BK271.out) hb);have n1_:=m_ (blk_below (g:=gb276) (o:=.cells #[.int .i64 x277000_11,.int .i64 t279,.int .i64 t280,.int .i64 t284,.int .i64 t285,.int .i64 t289,.string x277006_25] 26 (0,0)) (by (with_reducible repeat first|apply b1_|apply b2_|apply b3_);exact BK276.out) hb);have n2_:=m_ (blk_below (g:=gb282) (o:=.cells #[.int .i64 t279,.int .i64 t280] 24 (0,0)) (by (with_reducible repeat first|apply b1_|apply b2_|apply b3_);exact BK282.out) hb);have n3_:=m_ (blk_below (g:=gb287) (o:=.cells #[.int .i64 t284,.int .i64 t285] 24 (0,0)) (by (with_reducible repeat first|apply b1_|apply b2_|apply b3_);exact BK287.out) hb);have n4_:=m_ (l5_ (by repeat (first|(with_reducible first|exact HB.out|apply l1_|apply l2_|apply l3_|refine l4_ ?_ GE271.out|refine l4_ ?_ GE276.out|refine l4_ ?_ GE282.out|refine l4_ ?_ GE287.out)|exact HB.out)) hb);clear BK271;clear BK276;clear BK282;clear BK287;clear HB;have BK271:=n0_;have BK276:=n1_;have BK282:=n2_;have BK287:=n3_;have HB:=n4_;clear n0_ n1_ n2_ n3_ n4_;(try clear hb);(try clear hb2);(try clear hk);(try clear hi);have hcz64_0 : w63.cell? ⟨gb276,0,none⟩ = some (.int .i64 x277000_11):=(c_ BK276.out 0).trans rfl;have hcz64_1 : w63.cell? ⟨gb276,1,none⟩ = some (.int .i64 t279):=(c_ BK276.out 1).trans rfl;have hcz64_2 : w63.cell? ⟨gb276,2,none⟩ = some (.int .i64 t280):=(c_ BK276.out 2).trans rfl;have hcz64_3 : w63.cell? ⟨gb276,3,none⟩ = some (.int .i64 t284):=(c_ BK276.out 3).trans rfl;have hcz64_4 : w63.cell? ⟨gb276,4,none⟩ = some (.int .i64 t285):=(c_ BK276.out 4).trans rfl;have hcz64_5 : w63.cell? ⟨gb276,5,none⟩ = some (.int .i64 t289):=(c_ BK276.out 5).trans rfl;have hcz64_6 : w63.cell? ⟨gb276,6,none⟩ = some (.string x277006_25):=(c_ BK276.out 6).trans rfl;have hfz64_0:=f_ BK276.out 0;have hfz64_1:=f_ BK276.out 1;have hfz64_2:=f_ BK276.out 2;have hfz64_3:=f_ BK276.out 3;have hfz64_4:=f_ BK276.out 4;have hfz64_5:=f_ BK276.out 5;have hfz64_6:=f_ BK276.out 6)|(go_at_call 8;(with_reducible refine (impl_PktText.calls x277000_11 t279 t280 t284 t285 t289 x277006_25 t295 _ A57.out).mono ?_);rintro e w65 ⟨rfl,hb⟩;have n0_:=m_ (blk_below (g:=gb271) (o:=.cells #[.int .i64 0,.int .i64 0,.int .i64 0,.int .i64 0,.int .i64 0,.int .i64 0,.string (⟨#[]⟩ : ByteArray)] 26 (0,0)) (by (with_reducible repeat first|apply b1_|apply b2_|apply b3_);exact BK271.out) hb);have n1_:=m_ (blk_below (g:=gb276) (o:=.cells #[.int .i64 x277000_11,.int .i64 t279,.int .i64 t280,.int .i64 t284,.int .i64 t285,.int .i64 t289,.string x277006_25] 26 (0,0)) (by (with_reducible repeat first|apply b1_|apply b2_|apply b3_);exact BK276.out) hb);have n2_:=m_ (blk_below (g:=gb282) (o:=.cells #[.int .i64 t279,.int .i64 t280] 24 (0,0)) (by (with_reducible repeat first|apply b1_|apply b2_|apply b3_);exact BK282.out) hb);have n3_:=m_ (blk_below (g:=gb287) (o:=.cells #[.int .i64 t284,.int .i64 t285] 24 (0,0)) (by (with_reducible repeat first|apply b1_|apply b2_|apply b3_);exact BK287.out) hb);have n4_:=m_ (l5_ (by repeat (first|(with_reducible first|exact HB.out|apply l1_|apply l2_|apply l3_|refine l4_ ?_ GE271.out|refine l4_ ?_ GE276.out|refine l4_ ?_ GE282.out|refine l4_ ?_ GE287.out)|exact HB.out)) hb);clear BK271;clear BK276;clear BK282;clear BK287;clear HB;have BK271:=n0_;have BK276:=n1_;have BK282:=n2_;have BK287:=n3_;have HB:=n4_;clear n0_ n1_ n2_ n3_ n4_;(try clear hb);(try clear hb2);(try clear hk);(try clear hi);have hcz66_0 : w65.cell? ⟨gb276,0,none⟩ = some (.int .i64 x277000_11):=(c_ BK276.out 0).trans rfl;have hcz66_1 : w65.cell? ⟨gb276,1,none⟩ = some (.int .i64 t279):=(c_ BK276.out 1).trans rfl;have hcz66_2 : w65.cell? ⟨gb276,2,none⟩ = some (.int .i64 t280):=(c_ BK276.out 2).trans rfl;have hcz66_3 : w65.cell? ⟨gb276,3,none⟩ = some (.int .i64 t284):=(c_ BK276.out 3).trans rfl;have hcz66_4 : w65.cell? ⟨gb276,4,none⟩ = some (.int .i64 t285):=(c_ BK276.out 4).trans rfl;have hcz66_5 : w65.cell? ⟨gb276,5,none⟩ = some (.int .i64 t289):=(c_ BK276.out 5).trans rfl;have hcz66_6 : w65.cell? ⟨gb276,6,none⟩ = some (.string x277006_25):=(c_ BK276.out 6).trans rfl;have hfz66_0:=f_ BK276.out 0;have hfz66_1:=f_ BK276.out 1;have hfz66_2:=f_ BK276.out 2;have hfz66_3:=f_ BK276.out 3;have hfz66_4:=f_ BK276.out 4;have hfz66_5:=f_ BK276.out 5;have hfz66_6:=f_ BK276.out 6;have hnb67:=NB271_282.out;have hnc67:=NB282_271.out;have hnb68:=NB271_287.out;have hnc68:=NB287_271.out;have hcz69_0 : w65.cell? ⟨gb271,0,none⟩ = some (.int .i64 0):=(c_ BK271.out 0).trans rfl;have hcz69_1 : w65.cell? ⟨gb271,1,none⟩ = some (.int .i64 0):=(c_ BK271.out 1).trans rfl;have hcz69_2 : w65.cell? ⟨gb271,2,none⟩ = some (.int .i64 0):=(c_ BK271.out 2).trans rfl;have hcz69_3 : w65.cell? ⟨gb271,3,none⟩ = some (.int .i64 0):=(c_ BK271.out 3).trans rfl;have hcz69_4 : w65.cell? ⟨gb271,4,none⟩ = some (.int .i64 0):=(c_ BK271.out 4).trans rfl;have hcz69_5 : w65.cell? ⟨gb271,5,none⟩ = some (.int .i64 0):=(c_ BK271.out 5).trans rfl;have hcz69_6 : w65.cell? ⟨gb271,6,none⟩ = some (.string (⟨#[]⟩ : ByteArray)):=(c_ BK271.out 6).trans rfl;have hfz69_0:=f_ BK271.out 0;have hfz69_1:=f_ BK271.out 1;have hfz69_2:=f_ BK271.out 2;have hfz69_3:=f_ BK271.out 3;have hfz69_4:=f_ BK271.out 4;have hfz69_5:=f_ BK271.out 5;have hfz69_6:=f_ BK271.out 6))
                 refine bodyPost_ret (results_ct rfl _ _ gb271 26 #[.int .i64 x277000_11,.int .i64 t279,.int .i64 t280,.int .i64 t284,.int .i64 t285,.int .i64 t289,.string x277006_25] (0,0) _ rfl (by (with_reducible repeat first|apply b1_|apply b2_|apply b3_);refine blk_put (cs:=#[.int .i64 x277000_11,.int .i64 t279,.int .i64 t280,.int .i64 t284,.int .i64 t285,.int .i64 t289,.string (⟨#[]⟩ : ByteArray)]) ?_ 6 _ rfl;(with_reducible repeat first|apply b1_|apply b2_|apply b3_);refine blk_put (cs:=#[.int .i64 x277000_11,.int .i64 t279,.int .i64 t280,.int .i64 t284,.int .i64 t285,.int .i64 0,.string (⟨#[]⟩ : ByteArray)]) ?_ 5 _ rfl;(with_reducible repeat first|apply b1_|apply b2_|apply b3_);refine blk_put (cs:=#[.int .i64 x277000_11,.int .i64 t279,.int .i64 t280,.int .i64 t284,.int .i64 0,.int .i64 0,.string (⟨#[]⟩ : ByteArray)]) ?_ 4 _ rfl;(with_reducible repeat first|apply b1_|apply b2_|apply b3_);refine blk_put (cs:=#[.int .i64 x277000_11,.int .i64 t279,.int .i64 t280,.int .i64 0,.int .i64 0,.int .i64 0,.string (⟨#[]⟩ : ByteArray)]) ?_ 3 _ rfl;(with_reducible repeat first|apply b1_|apply b2_|apply b3_);refine blk_put (cs:=#[.int .i64 x277000_11,.int .i64 t279,.int .i64 0,.int .i64 0,.int .i64 0,.int .i64 0,.string (⟨#[]⟩ : ByteArray)]) ?_ 2 _ rfl;(with_reducible repeat first|apply b1_|apply b2_|apply b3_);refine blk_put (cs:=#[.int .i64 x277000_11,.int .i64 0,.int .i64 0,.int .i64 0,.int .i64 0,.int .i64 0,.string (⟨#[]⟩ : ByteArray)]) ?_ 1 _ rfl;(with_reducible repeat first|apply b1_|apply b2_|apply b3_);refine blk_put (cs:=#[.int .i64 0,.int .i64 0,.int .i64 0,.int .i64 0,.int .i64 0,.int .i64 0,.string (⟨#[]⟩ : ByteArray)]) ?_ 0 _ rfl;(with_reducible repeat first|apply b1_|apply b2_|apply b3_);exact BK271.out) Tryd.underlying26 rfl (by kernel_rfl)) rfl ?_
                 exact ⟨by first|rfl|(simp [e1_,e2_] <;> rfl)|(simp [*,e1_,e2_] <;> rfl)|(simp [e1_,e2_,pk_empty1,pk_empty2];done)|(simp [*,e1_,e2_,pk_empty1,pk_empty2];done),by repeat (first|(with_reducible first|exact HB.out|apply l1_|apply l2_|apply l3_|refine l4_ ?_ GE271.out|refine l4_ ?_ GE276.out|refine l4_ ?_ GE282.out|refine l4_ ?_ GE287.out)|exact HB.out)⟩
                ·rw [if_neg c58] at H
                 have c58b0 : (t295.toList == a0.toList) = false:=beq_eq_false_iff_ne.mpr c58
                 have c58b1 : (t295.toList != a0.toList) = true:=bne_iff_ne.mpr c58
                 simp only [Option.some.injEq,Prod.mk.injEq] at H
                 obtain ⟨rfl,rfl,rfl,rfl,rfl,rfl,rfl,rfl⟩:=H
                 have hnb70:=NB276_271.out
                 have hnc70:=NB271_276.out
                 have hnb71:=NB276_282.out
                 have hnc71:=NB282_276.out
                 have hnb72:=NB276_287.out
                 have hnc72:=NB287_276.out
                 have hcz73_0 : wc.cell? ⟨gb276,0,none⟩ = some (.int .i64 x277000_11):=(c_ BK276.out 0).trans rfl
                 have hcz73_1 : wc.cell? ⟨gb276,1,none⟩ = some (.int .i64 t279):=(c_ BK276.out 1).trans rfl
                 have hcz73_2 : wc.cell? ⟨gb276,2,none⟩ = some (.int .i64 t280):=(c_ BK276.out 2).trans rfl
                 have hcz73_3 : wc.cell? ⟨gb276,3,none⟩ = some (.int .i64 t284):=(c_ BK276.out 3).trans rfl
                 have hcz73_4 : wc.cell? ⟨gb276,4,none⟩ = some (.int .i64 t285):=(c_ BK276.out 4).trans rfl
                 have hcz73_5 : wc.cell? ⟨gb276,5,none⟩ = some (.int .i64 t289):=(c_ BK276.out 5).trans rfl
                 have hcz73_6 : wc.cell? ⟨gb276,6,none⟩ = some (.string x277006_25):=(c_ BK276.out 6).trans rfl
                 have hfz73_0:=f_ BK276.out 0
                 have hfz73_1:=f_ BK276.out 1
                 have hfz73_2:=f_ BK276.out 2
                 have hfz73_3:=f_ BK276.out 3
                 have hfz73_4:=f_ BK276.out 4
                 have hfz73_5:=f_ BK276.out 5
                 have hfz73_6:=f_ BK276.out 6
                 go_wp2_with (first|(go_at_call 11;(with_reducible refine (impl_PktOk.calls x277000_11 t279 t280 t284 t285 t289 x277006_25 true _ A55.out).mono ?_);rintro e w74 ⟨rfl,hb⟩;have n0_:=m_ (blk_below (g:=gb271) (o:=.cells #[.int .i64 0,.int .i64 0,.int .i64 0,.int .i64 0,.int .i64 0,.int .i64 0,.string (⟨#[]⟩ : ByteArray)] 26 (0,0)) (by (with_reducible repeat first|apply b1_|apply b2_|apply b3_);exact BK271.out) hb);have n1_:=m_ (blk_below (g:=gb276) (o:=.cells #[.int .i64 x277000_11,.int .i64 t279,.int .i64 t280,.int .i64 t284,.int .i64 t285,.int .i64 t289,.string x277006_25] 26 (0,0)) (by (with_reducible repeat first|apply b1_|apply b2_|apply b3_);exact BK276.out) hb);have n2_:=m_ (blk_below (g:=gb282) (o:=.cells #[.int .i64 t279,.int .i64 t280] 24 (0,0)) (by (with_reducible repeat first|apply b1_|apply b2_|apply b3_);exact BK282.out) hb);have n3_:=m_ (blk_below (g:=gb287) (o:=.cells #[.int .i64 t284,.int .i64 t285] 24 (0,0)) (by (with_reducible repeat first|apply b1_|apply b2_|apply b3_);exact BK287.out) hb);have n4_:=m_ (l5_ (by repeat (first|(with_reducible first|exact HB.out|apply l1_|apply l2_|apply l3_|refine l4_ ?_ GE271.out|refine l4_ ?_ GE276.out|refine l4_ ?_ GE282.out|refine l4_ ?_ GE287.out)|exact HB.out)) hb);clear BK271;clear BK276;clear BK282;clear BK287;clear HB;have BK271:=n0_;have BK276:=n1_;have BK282:=n2_;have BK287:=n3_;have HB:=n4_;clear n0_ n1_ n2_ n3_ n4_;(try clear hb);(try clear hb2);(try clear hk);(try clear hi);have hcz75_0 : w74.cell? ⟨gb276,0,none⟩ = some (.int .i64 x277000_11):=(c_ BK276.out 0).trans rfl;have hcz75_1 : w74.cell? ⟨gb276,1,none⟩ = some (.int .i64 t279):=(c_ BK276.out 1).trans rfl;have hcz75_2 : w74.cell? ⟨gb276,2,none⟩ = some (.int .i64 t280):=(c_ BK276.out 2).trans rfl;have hcz75_3 : w74.cell? ⟨gb276,3,none⟩ = some (.int .i64 t284):=(c_ BK276.out 3).trans rfl;have hcz75_4 : w74.cell? ⟨gb276,4,none⟩ = some (.int .i64 t285):=(c_ BK276.out 4).trans rfl;have hcz75_5 : w74.cell? ⟨gb276,5,none⟩ = some (.int .i64 t289):=(c_ BK276.out 5).trans rfl;have hcz75_6 : w74.cell? ⟨gb276,6,none⟩ = some (.string x277006_25):=(c_ BK276.out 6).trans rfl;have hfz75_0:=f_ BK276.out 0;have hfz75_1:=f_ BK276.out 1;have hfz75_2:=f_ BK276.out 2;have hfz75_3:=f_ BK276.out 3;have hfz75_4:=f_ BK276.out 4;have hfz75_5:=f_ BK276.out 5;have hfz75_6:=f_ BK276.out 6)|(go_at_call 8;(with_reducible refine (impl_PktText.calls x277000_11 t279 t280 t284 t285 t289 x277006_25 t295 _ A57.out).mono ?_);rintro e w76 ⟨rfl,hb⟩;have n0_:=m_ (blk_below (g:=gb271) (o:=.cells #[.int .i64 0,.int .i64 0,.int .i64 0,.int .i64 0,.int .i64 0,.int .i64 0,.string (⟨#[]⟩ : ByteArray)] 26 (0,0)) (by (with_reducible repeat first|apply b1_|apply b2_|apply b3_);exact BK271.out) hb);have n1_:=m_ (blk_below (g:=gb276) (o:=.cells #[.int .i64 x277000_11,.int .i64 t279,.int .i64 t280,.int .i64 t284,.int .i64 t285,.int .i64 t289,.string x277006_25] 26 (0,0)) (by (with_reducible repeat first|apply b1_|apply b2_|apply b3_);exact BK276.out) hb);have n2_:=m_ (blk_below (g:=gb282) (o:=.cells #[.int .i64 t279,.int .i64 t280] 24 (0,0)) (by (with_reducible repeat first|apply b1_|apply b2_|apply b3_);exact BK282.out) hb);have n3_:=m_ (blk_below (g:=gb287) (o:=.cells #[.int .i64 t284,.int .i64 t285] 24 (0,0)) (by (with_reducible repeat first|apply b1_|apply b2_|apply b3_);exact BK287.out) hb);have n4_:=m_ (l5_ (by repeat (first|(with_reducible first|exact HB.out|apply l1_|apply l2_|apply l3_|refine l4_ ?_ GE271.out|refine l4_ ?_ GE276.out|refine l4_ ?_ GE282.out|refine l4_ ?_ GE287.out)|exact HB.out)) hb);clear BK271;clear BK276;clear BK282;clear BK287;clear HB;have BK271:=n0_;have BK276:=n1_;have BK282:=n2_;have BK287:=n3_;have HB:=n4_;clear n0_ n1_ n2_ n3_ n4_;(try clear hb);(try clear hb2);(try clear hk);(try clear hi);have hnb77:=NB271_282.out;have hnc77:=NB282_271.out;have hnb78:=NB271_287.out;have hnc78:=NB287_271.out;have hcz79_0 : w76.cell? ⟨gb271,0,none⟩ = some (.int .i64 0):=(c_ BK271.out 0).trans rfl;have hcz79_1 : w76.cell? ⟨gb271,1,none⟩ = some (.int .i64 0):=(c_ BK271.out 1).trans rfl;have hcz79_2 : w76.cell? ⟨gb271,2,none⟩ = some (.int .i64 0):=(c_ BK271.out 2).trans rfl;have hcz79_3 : w76.cell? ⟨gb271,3,none⟩ = some (.int .i64 0):=(c_ BK271.out 3).trans rfl;have hcz79_4 : w76.cell? ⟨gb271,4,none⟩ = some (.int .i64 0):=(c_ BK271.out 4).trans rfl;have hcz79_5 : w76.cell? ⟨gb271,5,none⟩ = some (.int .i64 0):=(c_ BK271.out 5).trans rfl;have hcz79_6 : w76.cell? ⟨gb271,6,none⟩ = some (.string (⟨#[]⟩ : ByteArray)):=(c_ BK271.out 6).trans rfl;have hfz79_0:=f_ BK271.out 0;have hfz79_1:=f_ BK271.out 1;have hfz79_2:=f_ BK271.out 2;have hfz79_3:=f_ BK271.out 3;have hfz79_4:=f_ BK271.out 4;have hfz79_5:=f_ BK271.out 5;have hfz79_6:=f_ BK271.out 6))
                 refine bodyPost_ret (results_ct rfl _ _ gb271 26 #[.int .i64 0,.int .i64 0,.int .i64 0,.int .i64 0,.int .i64 0,.int .i64 0,.string (⟨#[]⟩ : ByteArray)] (0,0) _ rfl (by (with_reducible repeat first|apply b1_|apply b2_|apply b3_);refine blk_put (cs:=#[.int .i64 0,.int .i64 0,.int .i64 0,.int .i64 0,.int .i64 0,.int .i64 0,.string (⟨#[]⟩ : ByteArray)]) ?_ 6 _ rfl;(with_reducible repeat first|apply b1_|apply b2_|apply b3_);refine blk_put (cs:=#[.int .i64 0,.int .i64 0,.int .i64 0,.int .i64 0,.int .i64 0,.int .i64 0,.string (⟨#[]⟩ : ByteArray)]) ?_ 5 _ rfl;(with_reducible repeat first|apply b1_|apply b2_|apply b3_);refine blk_put (cs:=#[.int .i64 0,.int .i64 0,.int .i64 0,.int .i64 0,.int .i64 0,.int .i64 0,.string (⟨#[]⟩ : ByteArray)]) ?_ 4 _ rfl;(with_reducible repeat first|apply b1_|apply b2_|apply b3_);refine blk_put (cs:=#[.int .i64 0,.int .i64 0,.int .i64 0,.int .i64 0,.int .i64 0,.int .i64 0,.string (⟨#[]⟩ : ByteArray)]) ?_ 3 _ rfl;(with_reducible repeat first|apply b1_|apply b2_|apply b3_);refine blk_put (cs:=#[.int .i64 0,.int .i64 0,.int .i64 0,.int .i64 0,.int .i64 0,.int .i64 0,.string (⟨#[]⟩ : ByteArray)]) ?_ 2 _ rfl;(with_reducible repeat first|apply b1_|apply b2_|apply b3_);refine blk_put (cs:=#[.int .i64 0,.int .i64 0,.int .i64 0,.int .i64 0,.int .i64 0,.int .i64 0,.string (⟨#[]⟩ : ByteArray)]) ?_ 1 _ rfl;(with_reducible repeat first|apply b1_|apply b2_|apply b3_);refine blk_put (cs:=#[.int .i64 0,.int .i64 0,.int .i64 0,.int .i64 0,.int .i64 0,.int .i64 0,.string (⟨#[]⟩ : ByteArray)]) ?_ 0 _ rfl;(with_reducible repeat first|apply b1_|apply b2_|apply b3_);exact BK271.out) Tryd.underlying26 rfl (by kernel_rfl)) rfl ?_
                 exact ⟨by first|rfl|(simp [e1_,e2_] <;> rfl)|(simp [*,e1_,e2_] <;> rfl)|(simp [e1_,e2_,pk_empty1,pk_empty2];done)|(simp [*,e1_,e2_,pk_empty1,pk_empty2];done),by repeat (first|(with_reducible first|exact HB.out|apply l1_|apply l2_|apply l3_|refine l4_ ?_ GE271.out|refine l4_ ?_ GE276.out|refine l4_ ?_ GE282.out|refine l4_ ?_ GE287.out)|exact HB.out)⟩
               ·replace c56:=Bool.eq_false_iff.mpr c56
                subst c56
                have H1 : (some (0,0,0,0,0,0,(⟨#[]⟩ : ByteArray),false)) = some (r1,r2,r3,r4,r5,r6,r7,r8):=by rw [if_neg (show ¬ (false = true) by decide)] at H;exact H
                clear H
                have H:=H1
                clear H1
                simp only [Option.some.injEq,Prod.mk.injEq] at H
                obtain ⟨rfl,rfl,rfl,rfl,rfl,rfl,rfl,rfl⟩:=H
                have hnb80:=NB276_271.out
                have hnc80:=NB271_276.out
                have hnb81:=NB276_282.out
                have hnc81:=NB282_276.out
                have hnb82:=NB276_287.out
                have hnc82:=NB287_276.out
                have hcz83_0 : wc.cell? ⟨gb276,0,none⟩ = some (.int .i64 x277000_11):=(c_ BK276.out 0).trans rfl
                have hcz83_1 : wc.cell? ⟨gb276,1,none⟩ = some (.int .i64 t279):=(c_ BK276.out 1).trans rfl
                have hcz83_2 : wc.cell? ⟨gb276,2,none⟩ = some (.int .i64 t280):=(c_ BK276.out 2).trans rfl
                have hcz83_3 : wc.cell? ⟨gb276,3,none⟩ = some (.int .i64 t284):=(c_ BK276.out 3).trans rfl
                have hcz83_4 : wc.cell? ⟨gb276,4,none⟩ = some (.int .i64 t285):=(c_ BK276.out 4).trans rfl
                have hcz83_5 : wc.cell? ⟨gb276,5,none⟩ = some (.int .i64 t289):=(c_ BK276.out 5).trans rfl
                have hcz83_6 : wc.cell? ⟨gb276,6,none⟩ = some (.string x277006_25):=(c_ BK276.out 6).trans rfl
                have hfz83_0:=f_ BK276.out 0
                have hfz83_1:=f_ BK276.out 1
                have hfz83_2:=f_ BK276.out 2
                have hfz83_3:=f_ BK276.out 3
                have hfz83_4:=f_ BK276.out 4
                have hfz83_5:=f_ BK276.out 5
                have hfz83_6:=f_ BK276.out 6
                go_wp2_with (first|(go_at_call 11;(with_reducible refine (impl_PktOk.calls x277000_11 t279 t280 t284 t285 t289 x277006_25 false _ A55.out).mono ?_);rintro e w84 ⟨rfl,hb⟩;have n0_:=m_ (blk_below (g:=gb271) (o:=.cells #[.int .i64 0,.int .i64 0,.int .i64 0,.int .i64 0,.int .i64 0,.int .i64 0,.string (⟨#[]⟩ : ByteArray)] 26 (0,0)) (by (with_reducible repeat first|apply b1_|apply b2_|apply b3_);exact BK271.out) hb);have n1_:=m_ (blk_below (g:=gb276) (o:=.cells #[.int .i64 x277000_11,.int .i64 t279,.int .i64 t280,.int .i64 t284,.int .i64 t285,.int .i64 t289,.string x277006_25] 26 (0,0)) (by (with_reducible repeat first|apply b1_|apply b2_|apply b3_);exact BK276.out) hb);have n2_:=m_ (blk_below (g:=gb282) (o:=.cells #[.int .i64 t279,.int .i64 t280] 24 (0,0)) (by (with_reducible repeat first|apply b1_|apply b2_|apply b3_);exact BK282.out) hb);have n3_:=m_ (blk_below (g:=gb287) (o:=.cells #[.int .i64 t284,.int .i64 t285] 24 (0,0)) (by (with_reducible repeat first|apply b1_|apply b2_|apply b3_);exact BK287.out) hb);have n4_:=m_ (l5_ (by repeat (first|(with_reducible first|exact HB.out|apply l1_|apply l2_|apply l3_|refine l4_ ?_ GE271.out|refine l4_ ?_ GE276.out|refine l4_ ?_ GE282.out|refine l4_ ?_ GE287.out)|exact HB.out)) hb);clear BK271;clear BK276;clear BK282;clear BK287;clear HB;have BK271:=n0_;have BK276:=n1_;have BK282:=n2_;have BK287:=n3_;have HB:=n4_;clear n0_ n1_ n2_ n3_ n4_;(try clear hb);(try clear hb2);(try clear hk);(try clear hi);have hnb85:=NB271_282.out;have hnc85:=NB282_271.out;have hnb86:=NB271_287.out;have hnc86:=NB287_271.out;have hcz87_0 : w84.cell? ⟨gb271,0,none⟩ = some (.int .i64 0):=(c_ BK271.out 0).trans rfl;have hcz87_1 : w84.cell? ⟨gb271,1,none⟩ = some (.int .i64 0):=(c_ BK271.out 1).trans rfl;have hcz87_2 : w84.cell? ⟨gb271,2,none⟩ = some (.int .i64 0):=(c_ BK271.out 2).trans rfl;have hcz87_3 : w84.cell? ⟨gb271,3,none⟩ = some (.int .i64 0):=(c_ BK271.out 3).trans rfl;have hcz87_4 : w84.cell? ⟨gb271,4,none⟩ = some (.int .i64 0):=(c_ BK271.out 4).trans rfl;have hcz87_5 : w84.cell? ⟨gb271,5,none⟩ = some (.int .i64 0):=(c_ BK271.out 5).trans rfl;have hcz87_6 : w84.cell? ⟨gb271,6,none⟩ = some (.string (⟨#[]⟩ : ByteArray)):=(c_ BK271.out 6).trans rfl;have hfz87_0:=f_ BK271.out 0;have hfz87_1:=f_ BK271.out 1;have hfz87_2:=f_ BK271.out 2;have hfz87_3:=f_ BK271.out 3;have hfz87_4:=f_ BK271.out 4;have hfz87_5:=f_ BK271.out 5;have hfz87_6:=f_ BK271.out 6))
                refine bodyPost_ret (results_ct rfl _ _ gb271 26 #[.int .i64 0,.int .i64 0,.int .i64 0,.int .i64 0,.int .i64 0,.int .i64 0,.string (⟨#[]⟩ : ByteArray)] (0,0) _ rfl (by (with_reducible repeat first|apply b1_|apply b2_|apply b3_);refine blk_put (cs:=#[.int .i64 0,.int .i64 0,.int .i64 0,.int .i64 0,.int .i64 0,.int .i64 0,.string (⟨#[]⟩ : ByteArray)]) ?_ 6 _ rfl;(with_reducible repeat first|apply b1_|apply b2_|apply b3_);refine blk_put (cs:=#[.int .i64 0,.int .i64 0,.int .i64 0,.int .i64 0,.int .i64 0,.int .i64 0,.string (⟨#[]⟩ : ByteArray)]) ?_ 5 _ rfl;(with_reducible repeat first|apply b1_|apply b2_|apply b3_);refine blk_put (cs:=#[.int .i64 0,.int .i64 0,.int .i64 0,.int .i64 0,.int .i64 0,.int .i64 0,.string (⟨#[]⟩ : ByteArray)]) ?_ 4 _ rfl;(with_reducible repeat first|apply b1_|apply b2_|apply b3_);refine blk_put (cs:=#[.int .i64 0,.int .i64 0,.int .i64 0,.int .i64 0,.int .i64 0,.int .i64 0,.string (⟨#[]⟩ : ByteArray)]) ?_ 3 _ rfl;(with_reducible repeat first|apply b1_|apply b2_|apply b3_);refine blk_put (cs:=#[.int .i64 0,.int .i64 0,.int .i64 0,.int .i64 0,.int .i64 0,.int .i64 0,.string (⟨#[]⟩ : ByteArray)]) ?_ 2 _ rfl;(with_reducible repeat first|apply b1_|apply b2_|apply b3_);refine blk_put (cs:=#[.int .i64 0,.int .i64 0,.int .i64 0,.int .i64 0,.int .i64 0,.int .i64 0,.string (⟨#[]⟩ : ByteArray)]) ?_ 1 _ rfl;(with_reducible repeat first|apply b1_|apply b2_|apply b3_);refine blk_put (cs:=#[.int .i64 0,.int .i64 0,.int .i64 0,.int .i64 0,.int .i64 0,.int .i64 0,.string (⟨#[]⟩ : ByteArray)]) ?_ 0 _ rfl;(with_reducible repeat first|apply b1_|apply b2_|apply b3_);exact BK271.out) Tryd.underlying26 rfl (by kernel_rfl)) rfl ?_
                exact ⟨by first|rfl|(simp [e1_,e2_] <;> rfl)|(simp [*,e1_,e2_] <;> rfl)|(simp [e1_,e2_,pk_empty1,pk_empty2];done)|(simp [*,e1_,e2_,pk_empty1,pk_empty2];done),by repeat (first|(with_reducible first|exact HB.out|apply l1_|apply l2_|apply l3_|refine l4_ ?_ GE271.out|refine l4_ ?_ GE276.out|refine l4_ ?_ GE282.out|refine l4_ ?_ GE287.out)|exact HB.out)⟩
              ·have H1 : (some (0,0,0,0,0,0,(⟨#[]⟩ : ByteArray),false)) = some (r1,r2,r3,r4,r5,r6,r7,r8):=by rw [if_neg (show ¬ (some q293).isNone = true by simp)] at H;exact H
               clear H
               have H:=H1
               clear H1
               obtain ⟨te_,pe_,rfl⟩:=HE_.out
               simp only [Option.some.injEq,Prod.mk.injEq] at H
               obtain ⟨rfl,rfl,rfl,rfl,rfl,rfl,rfl,rfl⟩:=H
               have hnb88:=NB271_276.out
               have hnc88:=NB276_271.out
               have hnb89:=NB271_282.out
               have hnc89:=NB282_271.out
               have hnb90:=NB271_287.out
               have hnc90:=NB287_271.out
               have hcz91_0 : wc.cell? ⟨gb271,0,none⟩ = some (.int .i64 0):=(c_ BK271.out 0).trans rfl
               have hcz91_1 : wc.cell? ⟨gb271,1,none⟩ = some (.int .i64 0):=(c_ BK271.out 1).trans rfl
               have hcz91_2 : wc.cell? ⟨gb271,2,none⟩ = some (.int .i64 0):=(c_ BK271.out 2).trans rfl
               have hcz91_3 : wc.cell? ⟨gb271,3,none⟩ = some (.int .i64 0):=(c_ BK271.out 3).trans rfl
               have hcz91_4 : wc.cell? ⟨gb271,4,none⟩ = some (.int .i64 0):=(c_ BK271.out 4).trans rfl
               have hcz91_5 : wc.cell? ⟨gb271,5,none⟩ = some (.int .i64 0):=(c_ BK271.out 5).trans rfl
               have hcz91_6 : wc.cell? ⟨gb271,6,none⟩ = some (.string (⟨#[]⟩ : ByteArray)):=(c_ BK271.out 6).trans rfl
               have hfz91_0:=f_ BK271.out 0
               have hfz91_1:=f_ BK271.out 1
               have hfz91_2:=f_ BK271.out 2
               have hfz91_3:=f_ BK271.out 3
               have hfz91_4:=f_ BK271.out 4
               have hfz91_5:=f_ BK271.out 5
               have hfz91_6:=f_ BK271.out 6
               go_wp2
               refine bodyPost_ret (results_ct rfl _ _ gb271 26 #[.int .i64 0,.int .i64 0,.int .i64 0,.int .i64 0,.int .i64 0,.int .i64 0,.string (⟨#[]⟩ : ByteArray)] (0,0) _ rfl (by (with_reducible repeat first|apply b1_|apply b2_|apply b3_);refine blk_put (cs:=#[.int .i64 0,.int .i64 0,.int .i64 0,.int .i64 0,.int .i64 0,.int .i64 0,.string (⟨#[]⟩ : ByteArray)]) ?_ 6 _ rfl;(with_reducible repeat first|apply b1_|apply b2_|apply b3_);refine blk_put (cs:=#[.int .i64 0,.int .i64 0,.int .i64 0,.int .i64 0,.int .i64 0,.int .i64 0,.string (⟨#[]⟩ : ByteArray)]) ?_ 5 _ rfl;(with_reducible repeat first|apply b1_|apply b2_|apply b3_);refine blk_put (cs:=#[.int .i64 0,.int .i64 0,.int .i64 0,.int .i64 0,.int .i64 0,.int .i64 0,.string (⟨#[]⟩ : ByteArray)]) ?_ 4 _ rfl;(with_reducible repeat first|apply b1_|apply b2_|apply b3_);refine blk_put (cs:=#[.int .i64 0,.int .i64 0,.int .i64 0,.int .i64 0,.int .i64 0,.int .i64 0,.string (⟨#[]⟩ : ByteArray)]) ?_ 3 _ rfl;(with_reducible repeat first|apply b1_|apply b2_|apply b3_);refine blk_put (cs:=#[.int .i64 0,.int .i64 0,.int .i64 0,.int .i64 0,.int .i64 0,.int .i64 0,.string (⟨#[]⟩ : ByteArray)]) ?_ 2 _ rfl;(with_reducible repeat first|apply b1_|apply b2_|apply b3_);refine blk_put (cs:=#[.int .i64 0,.int .i64 0,.int .i64 0,.int .i64 0,.int .i64 0,.int .i64 0,.string (⟨#[]⟩ : ByteArray)]) ?_ 1 _ rfl;(with_reducible repeat first|apply b1_|apply b2_|apply b3_);refine blk_put (cs:=#[.int .i64 0,.int .i64 0,.int .i64 0,.int .i64 0,.int .i64 0,.int .i64 0,.string (⟨#[]⟩ : ByteArray)]) ?_ 0 _ rfl;(with_reducible repeat first|apply b1_|apply b2_|apply b3_);exact BK271.out) Tryd.underlying26 rfl (by kernel_rfl)) rfl ?_
               exact ⟨by first|rfl|(simp [e1_,e2_] <;> rfl)|(simp [*,e1_,e2_] <;> rfl)|(simp [e1_,e2_,pk_empty1,pk_empty2];done)|(simp [*,e1_,e2_,pk_empty1,pk_empty2];done),by repeat (first|(with_reducible first|exact HB.out|apply l1_|apply l2_|apply l3_|refine l4_ ?_ GE271.out|refine l4_ ?_ GE276.out|refine l4_ ?_ GE282.out|refine l4_ ?_ GE287.out)|exact HB.out)⟩
             ·replace c54:=Bool.eq_false_iff.mpr c54
              subst c54
              have H1 : (some (0,0,0,0,0,0,(⟨#[]⟩ : ByteArray),false)) = some (r1,r2,r3,r4,r5,r6,r7,r8):=by rw [if_neg (show ¬ (false = true) by decide)] at H;exact H
              clear H
              have H:=H1
              clear H1
              simp only [Option.some.injEq,Prod.mk.injEq] at H
              obtain ⟨rfl,rfl,rfl,rfl,rfl,rfl,rfl,rfl⟩:=H
              have hnb92:=NB271_276.out
              have hnc92:=NB276_271.out
              have hnb93:=NB271_282.out
              have hnc93:=NB282_271.out
              have hnb94:=NB271_287.out
              have hnc94:=NB287_271.out
              have hcz95_0 : wc.cell? ⟨gb271,0,none⟩ = some (.int .i64 0):=(c_ BK271.out 0).trans rfl
              have hcz95_1 : wc.cell? ⟨gb271,1,none⟩ = some (.int .i64 0):=(c_ BK271.out 1).trans rfl
              have hcz95_2 : wc.cell? ⟨gb271,2,none⟩ = some (.int .i64 0):=(c_ BK271.out 2).trans rfl
              have hcz95_3 : wc.cell? ⟨gb271,3,none⟩ = some (.int .i64 0):=(c_ BK271.out 3).trans rfl
              have hcz95_4 : wc.cell? ⟨gb271,4,none⟩ = some (.int .i64 0):=(c_ BK271.out 4).trans rfl
              have hcz95_5 : wc.cell? ⟨gb271,5,none⟩ = some (.int .i64 0):=(c_ BK271.out 5).trans rfl
              have hcz95_6 : wc.cell? ⟨gb271,6,none⟩ = some (.string (⟨#[]⟩ : ByteArray)):=(c_ BK271.out 6).trans rfl
              have hfz95_0:=f_ BK271.out 0
              have hfz95_1:=f_ BK271.out 1
              have hfz95_2:=f_ BK271.out 2
              have hfz95_3:=f_ BK271.out 3
              have hfz95_4:=f_ BK271.out 4
              have hfz95_5:=f_ BK271.out 5
              have hfz95_6:=f_ BK271.out 6
              go_wp2
              refine bodyPost_ret (results_ct rfl _ _ gb271 26 #[.int .i64 0,.int .i64 0,.int .i64 0,.int .i64 0,.int .i64 0,.int .i64 0,.string (⟨#[]⟩ : ByteArray)] (0,0) _ rfl (by (with_reducible repeat first|apply b1_|apply b2_|apply b3_);refine blk_put (cs:=#[.int .i64 0,.int .i64 0,.int .i64 0,.int .i64 0,.int .i64 0,.int .i64 0,.string (⟨#[]⟩ : ByteArray)]) ?_ 6 _ rfl;(with_reducible repeat first|apply b1_|apply b2_|apply b3_);refine blk_put (cs:=#[.int .i64 0,.int .i64 0,.int .i64 0,.int .i64 0,.int .i64 0,.int .i64 0,.string (⟨#[]⟩ : ByteArray)]) ?_ 5 _ rfl;(with_reducible repeat first|apply b1_|apply b2_|apply b3_);refine blk_put (cs:=#[.int .i64 0,.int .i64 0,.int .i64 0,.int .i64 0,.int .i64 0,.int .i64 0,.string (⟨#[]⟩ : ByteArray)]) ?_ 4 _ rfl;(with_reducible repeat first|apply b1_|apply b2_|apply b3_);refine blk_put (cs:=#[.int .i64 0,.int .i64 0,.int .i64 0,.int .i64 0,.int .i64 0,.int .i64 0,.string (⟨#[]⟩ : ByteArray)]) ?_ 3 _ rfl;(with_reducible repeat first|apply b1_|apply b2_|apply b3_);refine blk_put (cs:=#[.int .i64 0,.int .i64 0,.int .i64 0,.int .i64 0,.int .i64 0,.int .i64 0,.string (⟨#[]⟩ : ByteArray)]) ?_ 2 _ rfl;(with_reducible repeat first|apply b1_|apply b2_|apply b3_);refine blk_put (cs:=#[.int .i64 0,.int .i64 0,.int .i64 0,.int .i64 0,.int .i64 0,.int .i64 0,.string (⟨#[]⟩ : ByteArray)]) ?_ 1 _ rfl;(with_reducible repeat first|apply b1_|apply b2_|apply b3_);refine blk_put (cs:=#[.int .i64 0,.int .i64 0,.int .i64 0,.int .i64 0,.int .i64 0,.int .i64 0,.string (⟨#[]⟩ : ByteArray)]) ?_ 0 _ rfl;(with_reducible repeat first|apply b1_|apply b2_|apply b3_);exact BK271.out) Tryd.underlying26 rfl (by kernel_rfl)) rfl ?_
              exact ⟨by first|rfl|(simp [e1_,e2_] <;> rfl)|(simp [*,e1_,e2_] <;> rfl)|(simp [e1_,e2_,pk_empty1,pk_empty2];done)|(simp [*,e1_,e2_,pk_empty1,pk_empty2];done),by repeat (first|(with_reducible first|exact HB.out|apply l1_|apply l2_|apply l3_|refine l4_ ?_ GE271.out|refine l4_ ?_ GE276.out|refine l4_ ?_ GE282.out|refine l4_ ?_ GE287.out)|exact HB.out)⟩
            ·replace c53:=Bool.eq_false_iff.mpr c53
             subst c53
             have H1 : (some (0,0,0,0,0,0,(⟨#[]⟩ : ByteArray),false)) = some (r1,r2,r3,r4,r5,r6,r7,r8):=by rw [if_neg (show ¬ (false = true) by decide)] at H;exact H
             clear H
             have H:=H1
             clear H1
             simp only [Option.some.injEq,Prod.mk.injEq] at H
             obtain ⟨rfl,rfl,rfl,rfl,rfl,rfl,rfl,rfl⟩:=H
             have hnb96:=NB271_276.out
             have hnc96:=NB276_271.out
             have hnb97:=NB271_282.out
             have hnc97:=NB282_271.out
             have hnb98:=NB271_287.out
             have hnc98:=NB287_271.out
             have hcz99_0 : wc.cell? ⟨gb271,0,none⟩ = some (.int .i64 0):=(c_ BK271.out 0).trans rfl
             have hcz99_1 : wc.cell? ⟨gb271,1,none⟩ = some (.int .i64 0):=(c_ BK271.out 1).trans rfl
             have hcz99_2 : wc.cell? ⟨gb271,2,none⟩ = some (.int .i64 0):=(c_ BK271.out 2).trans rfl
             have hcz99_3 : wc.cell? ⟨gb271,3,none⟩ = some (.int .i64 0):=(c_ BK271.out 3).trans rfl
             have hcz99_4 : wc.cell? ⟨gb271,4,none⟩ = some (.int .i64 0):=(c_ BK271.out 4).trans rfl
             have hcz99_5 : wc.cell? ⟨gb271,5,none⟩ = some (.int .i64 0):=(c_ BK271.out 5).trans rfl
             have hcz99_6 : wc.cell? ⟨gb271,6,none⟩ = some (.string (⟨#[]⟩ : ByteArray)):=(c_ BK271.out 6).trans rfl
             have hfz99_0:=f_ BK271.out 0
             have hfz99_1:=f_ BK271.out 1
             have hfz99_2:=f_ BK271.out 2
             have hfz99_3:=f_ BK271.out 3
             have hfz99_4:=f_ BK271.out 4
             have hfz99_5:=f_ BK271.out 5
             have hfz99_6:=f_ BK271.out 6
             go_wp2
             refine bodyPost_ret (results_ct rfl _ _ gb271 26 #[.int .i64 0,.int .i64 0,.int .i64 0,.int .i64 0,.int .i64 0,.int .i64 0,.string (⟨#[]⟩ : ByteArray)] (0,0) _ rfl (by (with_reducible repeat first|apply b1_|apply b2_|apply b3_);refine blk_put (cs:=#[.int .i64 0,.int .i64 0,.int .i64 0,.int .i64 0,.int .i64 0,.int .i64 0,.string (⟨#[]⟩ : ByteArray)]) ?_ 6 _ rfl;(with_reducible repeat first|apply b1_|apply b2_|apply b3_);refine blk_put (cs:=#[.int .i64 0,.int .i64 0,.int .i64 0,.int .i64 0,.int .i64 0,.int .i64 0,.string (⟨#[]⟩ : ByteArray)]) ?_ 5 _ rfl;(with_reducible repeat first|apply b1_|apply b2_|apply b3_);refine blk_put (cs:=#[.int .i64 0,.int .i64 0,.int .i64 0,.int .i64 0,.int .i64 0,.int .i64 0,.string (⟨#[]⟩ : ByteArray)]) ?_ 4 _ rfl;(with_reducible repeat first|apply b1_|apply b2_|apply b3_);refine blk_put (cs:=#[.int .i64 0,.int .i64 0,.int .i64 0,.int .i64 0,.int .i64 0,.int .i64 0,.string (⟨#[]⟩ : ByteArray)]) ?_ 3 _ rfl;(with_reducible repeat first|apply b1_|apply b2_|apply b3_);refine blk_put (cs:=#[.int .i64 0,.int .i64 0,.int .i64 0,.int .i64 0,.int .i64 0,.int .i64 0,.string (⟨#[]⟩ : ByteArray)]) ?_ 2 _ rfl;(with_reducible repeat first|apply b1_|apply b2_|apply b3_);refine blk_put (cs:=#[.int .i64 0,.int .i64 0,.int .i64 0,.int .i64 0,.int .i64 0,.int .i64 0,.string (⟨#[]⟩ : ByteArray)]) ?_ 1 _ rfl;(with_reducible repeat first|apply b1_|apply b2_|apply b3_);refine blk_put (cs:=#[.int .i64 0,.int .i64 0,.int .i64 0,.int .i64 0,.int .i64 0,.int .i64 0,.string (⟨#[]⟩ : ByteArray)]) ?_ 0 _ rfl;(with_reducible repeat first|apply b1_|apply b2_|apply b3_);exact BK271.out) Tryd.underlying26 rfl (by kernel_rfl)) rfl ?_
             exact ⟨by first|rfl|(simp [e1_,e2_] <;> rfl)|(simp [*,e1_,e2_] <;> rfl)|(simp [e1_,e2_,pk_empty1,pk_empty2];done)|(simp [*,e1_,e2_,pk_empty1,pk_empty2];done),by repeat (first|(with_reducible first|exact HB.out|apply l1_|apply l2_|apply l3_|refine l4_ ?_ GE271.out|refine l4_ ?_ GE276.out|refine l4_ ?_ GE282.out|refine l4_ ?_ GE287.out)|exact HB.out)⟩
         ·rw [if_neg c24] at H
          exact absurd H (by simp)
        ·rw [if_neg c22] at H
         exact absurd H (by simp)
       ·rw [if_neg c20] at H
        exact absurd H (by simp)
    ·rw [if_neg c11] at H
     exact absurd H (by simp)

end Go.Proofs.YtejpgpjjocbbjaaDoor.A
