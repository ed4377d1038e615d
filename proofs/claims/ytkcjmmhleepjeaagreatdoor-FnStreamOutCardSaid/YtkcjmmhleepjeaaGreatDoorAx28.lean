-- Printed by myprint.py (wip/tools) out of the translation. Not trusted: Lean checks it.
import Derived.Test.YtkcjmmhleepjeaaGreatDoorAx0
import Derived.Test.YtkcjmmhleepjeaaGreatDoorAx2
import Derived.Test.YtkcjmmhleepjeaaGreatDoorAx11
import Derived.Test.YtkcjmmhleepjeaaGreatDoorAx12
import Derived.Test.YtkcjmmhleepjeaaGreatDoorAx14
import Derived.Test.YtkcjmmhleepjeaaGreatDoorAx16
import Derived.Test.YtkcjmmhleepjeaaGreatDoorAx22
namespace Go.Proofs.YtkcjmmhleepjeaaGreatDoor.A
open Go.RowKit Go.Proofs.YtkcjmmhleepjeaaGreatDoorW.PrintWords Go.Proofs.YtkcjmmhleepjeaaGreatDoorW.PrintLast Go.Proofs.YtkcjmmhleepjeaaGreatDoorW.PrintMore
attribute [local go_sem] max2_int min2_int max_two min_two max_three min_three max_four min_four
set_option linter.unusedVariables false
set_option maxHeartbeats 8000000
set_option maxRecDepth 100000
set_option linter.unusedSimpArgs false

/-! ### spec_DrawStreamOk: function 37 -/
def spec_DrawStreamOk.f (k : Nat) (l0 : List Int) : Option (ByteArray × (List (S31))) := (spec_l6Open.f l0).bind fun bt567 => ((spec_l71Stream.f k bt567.1 bt567.2).bind fun bt570 => (some (bt570.2.1, bt570.2.2.1)))
theorem spec_DrawStreamOk.mono : ∀ a0 k, LeO (spec_DrawStreamOk.f k a0) (spec_DrawStreamOk.f (k + 1) a0) := by
 intro a0 k
 unfold spec_DrawStreamOk.f
 exact leo1 spec_l71Stream.mono
theorem spec_DrawStreamOk.calls (k : Nat) (A0 : Option Addr) (c0 : Nat) (l0 : List Int) (r1 : ByteArray) (r2 : List (S31)) (w : World) (hr0 : Kd.C (Kd.int .u8) w A0 l0.length l0) (hc0 : l0.length ≤ c0) (h : spec_DrawStreamOk.f k l0 = some (r1, r2)) :
  Calls Tryz.prog 37 #[.slice A0 l0.length c0] w fun e w'=>∃ v1_ : Value,e = .returned (.agg #[.string r1,v1_]) ∧ Kd.R k31 31 w' w.heap.size (fun _=>True) v1_ r2 ∧ Below w.heap.size w w':=by
 have hu25:=Tryz.underlying25
 have HR0:=m_ hr0
 have HC0:=m_ hc0
 clear hr0 hc0
 have HB:=m_ (Below.refl w.heap.size w)
 have H : ((spec_l6Open.f l0).bind fun bt567=>((spec_l71Stream.f k bt567.1 bt567.2).bind fun bt570=>(some (bt570.2.1,bt570.2.2.1)))) = some (r1,r2):=h
 clear h
 replace H:=Option.bind_eq_some_iff.mp H
 obtain ⟨⟨t567,t568⟩,A20,H⟩:=H
 replace H : ((spec_l71Stream.f k t567 t568).bind fun bt570=>(some (bt570.2.1,bt570.2.2.1))) = some (r1,r2):=H
 have A2:=m_ A20
 clear A20
 replace H:=Option.bind_eq_some_iff.mp H
 obtain ⟨⟨t570,t573,t574,t577⟩,A30,H⟩:=H
 replace H : (some (t573,t574)) = some (r1,r2):=H
 have A3:=m_ A30
 clear A30
 simp only [Option.some.injEq,Prod.mk.injEq] at H
 obtain ⟨rfl,rfl⟩:=H
 go_enter Tryz.func37,Tryz.ntmps37
 go_wp2_with (first|((with_reducible refine gate_dst (N:=2) rfl ?_);refine box_event ?hg (N:=2) ?hd (cs:=#[.string (⟨#[]⟩ : ByteArray),.slice none 0 0]) (t:=25) ?hr ?_;(case hd=>rfl);(case hg=>rfl);(case hr=>first|(go_simp;done)|(go_simp;rfl));intro gb566 hg w4 hbox hb;have n0_:=m_ (l5_ (puL HB.out) hb);have n1_:=m_ (hbox);have n2_:=m_ ((by rw [hg];exact (l6_ (puL HB.out)) : w.heap.size ≤ gb566));have n3_:=m_ ((by rw [hg];exact (l6_ (puL HB.out)) : w.heap.size ≤ gb566));revert n0_ n1_ n2_ n3_;clear HB;intro HB BK566 GW566 GE566;clear hb hbox hg)|((with_reducible refine gate_callee (f:=22) rfl ?_);refine goesL_ (some 7) rfl rfl Tryz.func22 (by kernel_rfl) rfl #[.slice A0 l0.length c0] rfl lens ?_;(with_reducible refine (spec_l6Open.calls _ _ l0 t567 t568 w _ ?side1 ?side2 ?side3 A2.out).mono ?_);(case side1=>exact puM HB.out GE566.out);(case side2=>exact HR0.out);(case side3=>exact HC0.out);rintro e w5 ⟨g569,rfl,hi,hb,hb2⟩;refine ⟨_,rfl,?_⟩;have n0_:=m_ (blk_below (g:=gb566) (o:=.cells #[.string (⟨#[]⟩ : ByteArray),.slice none 0 0] 25 (0,0)) (puB BK566.out) hb2);have n1_:=m_ (hb);have n2_:=m_ (hi);have n3_:=m_ (IsS56.ne_blk hi (blk_below (g:=gb566) (o:=.cells #[.string (⟨#[]⟩ : ByteArray),.slice none 0 0] 25 (0,0)) (puB BK566.out) hb2) (by decide));have n4_:=m_ (Ne.symm (IsS56.ne_blk hi (blk_below (g:=gb566) (o:=.cells #[.string (⟨#[]⟩ : ByteArray),.slice none 0 0] 25 (0,0)) (puB BK566.out) hb2) (by decide)));revert n0_ n1_ n2_ n3_ n4_;clear BK566 HB;intro BK566 HB HI569 NB569_566 NB566_569;(try clear hb);(try clear hb2);(try clear hk);(try clear hi))|((with_reducible refine gate_callee (f:=23) rfl ?_);refine goesL_ (some 8) rfl rfl Tryz.func23 (by kernel_rfl) rfl #[.pointer (some ⟨g569,0,none⟩)] rfl lens ?_;(with_reducible refine (spec_l71Stream.calls k g569 t567 t568 t570 t573 t574 t577 w _ ?side1 ?side2 A3.out).mono ?_);(case side1=>repeat (first|(with_reducible first|exact HI569.out|apply IsS56.alloc|apply IsS56.drewN|apply IsS56.drew|apply IsS56.set_1|refine IsS56.far ?_ NB569_566.out _)|exact HI569.out));(case side2=>exact puN HB.out (IsS56.ge HI569.out) GE566.out);rintro e w6 ⟨v571,v575,rfl,ho0,ho1,hi,hb,hk⟩;refine ⟨_,rfl,?_⟩;have n0_:=m_ (KeepBut.blk hk (g':=gb566) (o:=.cells #[.string (⟨#[]⟩ : ByteArray),.slice none 0 0] 25 (0,0)) (puB BK566.out) NB566_569.out (by simp));have n1_:=m_ (Kd.Q_lower ho0 (l6_ (puN HB.out (IsS56.ge HI569.out) GE566.out)));have n2_:=m_ (Kd.R_lower ho1 (l6_ (puN HB.out (IsS56.ge HI569.out) GE566.out)));have n3_:=m_ (hb);have n4_:=m_ (hi);revert n0_ n1_ n2_ n3_ n4_;clear BK566 HB HI569;intro BK566 HO572 HO576 HB HI569;(try clear hb);(try clear hb2);(try clear hk);(try clear hi);(try clear ho0);(try clear ho1))|((with_reducible refine gate_dst (N:=4) rfl ?_);refine box_event ?hg (N:=4) ?hd (cs:=#[.string (⟨#[]⟩ : ByteArray),.slice none 0 0]) (t:=25) ?hr ?_;(case hd=>rfl);(case hg=>rfl);(case hr=>first|(go_simp;done)|(go_simp;rfl));intro gb578 hg w7 hbox hb;have n0_:=m_ (Kd.Q_below (puQ HO572.out) hb);have n1_:=m_ (Kd.R_below (puR HO576.out) hb);have n2_:=m_ (blk_below (g:=gb566) (o:=.cells #[.string (⟨#[]⟩ : ByteArray),.slice none 0 0] 25 (0,0)) (puB BK566.out) hb);have n3_:=m_ (IsS56.below (by repeat (first|(with_reducible first|exact HI569.out|apply IsS56.alloc|apply IsS56.drewN|apply IsS56.drew|apply IsS56.set_1|refine IsS56.far ?_ NB569_566.out _)|exact HI569.out)) hb);have n4_:=m_ (l5_ (puN HB.out (IsS56.ge HI569.out) GE566.out) hb);have n5_:=m_ (hbox);have n6_:=m_ ((by rw [hg];exact (l6_ (puN HB.out (IsS56.ge HI569.out) GE566.out)) : w.heap.size ≤ gb578));have n7_:=n6_;have n8_:=m_ ((by rw [hg];exact Nat.ne_of_lt (blk_lt (g:=gb566) (o:=.cells #[.string (⟨#[]⟩ : ByteArray),.slice none 0 0] 25 (0,0)) (puB BK566.out)) : gb566 ≠ gb578));have n9_:=m_ n8_.out.symm;have n10_:=m_ ((by rw [hg];exact Nat.ne_of_lt (IsS56.lt (show IsS56 w _ g569 t567 t577 from by repeat (first|(with_reducible first|exact HI569.out|apply IsS56.alloc|apply IsS56.drewN|apply IsS56.drew|apply IsS56.set_1|refine IsS56.far ?_ NB569_566.out _)|exact HI569.out))) : g569 ≠ gb578));have n11_:=m_ n10_.out.symm;revert n0_ n1_ n2_ n3_ n4_ n5_ n6_ n7_ n8_ n9_ n10_ n11_;clear HO572 HO576 BK566 HI569 HB;intro HO572 HO576 BK566 HI569 HB BK578 GW578 GE578 NB566_578 NB578_566 NB569_578 NB578_569;clear hb hbox hg;have hnb8:=NB578_566.out;have hnc8:=NB566_578.out;have hnb9:=NB578_569.out;have hnc9:=NB569_578.out;have hcz10_0 : w7.cell? ⟨gb578,0,none⟩ = some (.string (⟨#[]⟩ : ByteArray)):=(c_ BK578.out 0).trans rfl;have hcz10_1 : w7.cell? ⟨gb578,1,none⟩ = some (.slice none 0 0):=(c_ BK578.out 1).trans rfl;have hfz10_0:=f_ BK578.out 0;have hfz10_1:=f_ BK578.out 1;obtain ⟨Ao11,co11,eo11⟩:=Kd.R_slice HO576.out;subst eo11;have hnb12:=NB566_569.out;have hnc12:=NB569_566.out;have hcz13_0 : w7.cell? ⟨gb566,0,none⟩ = some (.string (⟨#[]⟩ : ByteArray)):=(c_ BK566.out 0).trans rfl;have hcz13_1 : w7.cell? ⟨gb566,1,none⟩ = some (.slice none 0 0):=(c_ BK566.out 1).trans rfl;have hfz13_0:=f_ BK566.out 0;have hfz13_1:=f_ BK566.out 1))
 refine bodyPost_ret (results_cell_row rfl _ _ gb566 25 #[.string t573,.slice Ao11 t574.length co11] (0,0) _ rfl (by (with_reducible repeat first|apply b1_|apply b2_|apply b3_);refine blk_put (cs:=#[.string t573,.slice none 0 0]) ?_ 1 _ rfl;(with_reducible repeat first|apply b1_|apply b2_|apply b3_);refine blk_put (cs:=#[.string (⟨#[]⟩ : ByteArray),.slice none 0 0]) ?_ 0 _ rfl;(with_reducible repeat first|apply b1_|apply b2_|apply b3_);refine b4_ ?_ NB566_578.out _;(with_reducible repeat first|apply b1_|apply b2_|apply b3_);refine b4_ ?_ NB566_578.out _;(with_reducible repeat first|apply b1_|apply b2_|apply b3_);exact BK566.out) Tryz.underlying25 rfl (by kernel_rfl)) rfl ?_
 exact ⟨_,eqs,by (with_reducible repeat (first|apply Kd.R_alloc|apply Kd.R_drewN|apply Kd.R_drew));exact Kd.R_mono (Kd.R_far (p:=⟨gb566,1,none⟩) (Kd.R_far (p:=⟨gb566,0,none⟩) (Kd.R_far (p:=⟨gb578,1,none⟩) (Kd.R_far (p:=⟨gb578,0,none⟩) (Kd.R_types (Kd.R_types HO576.out BK578.out (by decide)) BK566.out (by decide)) (fun _ hk=>hk.1.2) (.string t573)) (fun _ hk=>hk.1.2) (.slice Ao11 t574.length co11)) (fun _ hk=>hk.2) (.string t573)) (fun _ hk=>hk.2) (.slice Ao11 t574.length co11)) (fun _ hk=>trivial),puO HB.out (IsS56.ge HI569.out) GE566.out GE578.out⟩

/-! ### spec_DrawStreamOut: function 17 -/
def spec_DrawStreamOut.f (k : Nat) (l0 : List Int) : Option (ByteArray × (List (S31))) := (spec_DrawStreamOk.f k l0).bind fun bt580 => (some (bt580.1, bt580.2))
theorem spec_DrawStreamOut.mono : ∀ a0 k, LeO (spec_DrawStreamOut.f k a0) (spec_DrawStreamOut.f (k + 1) a0) := by
 intro a0 k
 unfold spec_DrawStreamOut.f
 exact leo1 spec_DrawStreamOk.mono
theorem spec_DrawStreamOut.calls (k : Nat) (A0 : Option Addr) (c0 : Nat) (l0 : List Int) (r1 : ByteArray) (r2 : List (S31)) (w : World) (hr0 : Kd.C (Kd.int .u8) w A0 l0.length l0) (hc0 : l0.length ≤ c0) (h : spec_DrawStreamOut.f k l0 = some (r1, r2)) :
  Calls Tryz.prog 17 #[.slice A0 l0.length c0] w fun e w'=>∃ v1_ : Value,e = .returned (.agg #[.string r1,v1_]) ∧ Kd.R k31 31 w' w.heap.size (fun _=>True) v1_ r2 ∧ Below w.heap.size w w':=by
 have hu25:=Tryz.underlying25
 have HR0:=m_ hr0
 have HC0:=m_ hc0
 clear hr0 hc0
 have HB:=m_ (Below.refl w.heap.size w)
 have H : ((spec_DrawStreamOk.f k l0).bind fun bt580=>(some (bt580.1,bt580.2))) = some (r1,r2):=h
 clear h
 replace H:=Option.bind_eq_some_iff.mp H
 obtain ⟨⟨t580,t581⟩,A20,H⟩:=H
 replace H : (some (t580,t581)) = some (r1,r2):=H
 have A2:=m_ A20
 clear A20
 simp only [Option.some.injEq,Prod.mk.injEq] at H
 obtain ⟨rfl,rfl⟩:=H
 go_enter Tryz.func17,Tryz.ntmps17
 go_wp2_with (first|((with_reducible refine gate_dst (N:=2) rfl ?_);refine box_event ?hg (N:=2) ?hd (cs:=#[.string (⟨#[]⟩ : ByteArray),.slice none 0 0]) (t:=25) ?hr ?_;(case hd=>rfl);(case hg=>rfl);(case hr=>first|(go_simp;done)|(go_simp;rfl));intro gb579 hg w3 hbox hb;have n0_:=m_ (l5_ (puL HB.out) hb);have n1_:=m_ (hbox);have n2_:=m_ ((by rw [hg];exact (l6_ (puL HB.out)) : w.heap.size ≤ gb579));have n3_:=m_ ((by rw [hg];exact (l6_ (puL HB.out)) : w.heap.size ≤ gb579));revert n0_ n1_ n2_ n3_;clear HB;intro HB BK579 GW579 GE579;clear hb hbox hg)|((with_reducible refine gate_callee (f:=37) rfl ?_);refine goesL_ (some 4) rfl rfl Tryz.func37 (by kernel_rfl) rfl #[.slice A0 l0.length c0] rfl lens ?_;(with_reducible refine (spec_DrawStreamOk.calls k _ _ l0 t580 t581 _ ?side1 ?side2 A2.out).mono ?_);(case side1=>exact puC (Kd.C_below HR0.out HB.out));(case side2=>exact HC0.out);rintro e w4 ⟨v582,rfl,ho0,hb⟩;refine ⟨_,rfl,?_⟩;have n0_:=m_ (Kd.R_lower ho0 (l6_ (puM HB.out GE579.out)));have n1_:=m_ (blk_below (g:=gb579) (o:=.cells #[.string (⟨#[]⟩ : ByteArray),.slice none 0 0] 25 (0,0)) (puB BK579.out) hb);have n2_:=m_ (l5_ (puM HB.out GE579.out) hb);revert n0_ n1_ n2_;clear BK579 HB;intro HO583 BK579 HB;(try clear hb);(try clear hb2);(try clear hk);(try clear hi);(try clear ho0);have hcz5_0 : w4.cell? ⟨gb579,0,none⟩ = some (.string (⟨#[]⟩ : ByteArray)):=(c_ BK579.out 0).trans rfl;have hcz5_1 : w4.cell? ⟨gb579,1,none⟩ = some (.slice none 0 0):=(c_ BK579.out 1).trans rfl;have hfz5_0:=f_ BK579.out 0;have hfz5_1:=f_ BK579.out 1;obtain ⟨Ao6,co6,eo6⟩:=Kd.R_slice HO583.out;subst eo6))
 refine bodyPost_ret (results_cell_row rfl _ _ gb579 25 #[.string t580,.slice Ao6 t581.length co6] (0,0) _ rfl (by (with_reducible repeat first|apply b1_|apply b2_|apply b3_);refine blk_put (cs:=#[.string t580,.slice none 0 0]) ?_ 1 _ rfl;(with_reducible repeat first|apply b1_|apply b2_|apply b3_);refine blk_put (cs:=#[.string (⟨#[]⟩ : ByteArray),.slice none 0 0]) ?_ 0 _ rfl;(with_reducible repeat first|apply b1_|apply b2_|apply b3_);exact BK579.out) Tryz.underlying25 rfl (by kernel_rfl)) rfl ?_
 exact ⟨_,eqs,by (with_reducible repeat (first|apply Kd.R_alloc|apply Kd.R_drewN|apply Kd.R_drew));exact Kd.R_mono (Kd.R_far (p:=⟨gb579,1,none⟩) (Kd.R_far (p:=⟨gb579,0,none⟩) (Kd.R_types HO583.out BK579.out (by decide)) (fun _ hk=>hk.2) (.string t580)) (fun _ hk=>hk.2) (.slice Ao6 t581.length co6)) (fun _ hk=>trivial),puM HB.out GE579.out⟩

/-! ### spec_StreamOut: function 18 -/
def spec_StreamOut.f (k : Nat) (a0_0 : ByteArray) (l0_1 : List (S31)) : Option (ByteArray) := (spec_StreamOk.f k a0_0 l0_1).bind fun t585 => (if t585 = true then ((spec_l11Out.f k a0_0 l0_1).bind fun t586 => (some t586)) else (some (⟨#[]⟩ : ByteArray)))
theorem spec_StreamOut.mono : ∀ a0 a1 k, LeO (spec_StreamOut.f k a0 a1) (spec_StreamOut.f (k + 1) a0 a1) := by
 intro a0 a1 k
 unfold spec_StreamOut.f
 exact leo2 spec_StreamOk.mono spec_l11Out.mono
theorem spec_StreamOut.calls (k : Nat) (a0_0 : ByteArray) (A0_1 : Option Addr) (c0_1 : Nat) (l0_1 : List (S31)) (r : ByteArray) (w : World) (hr0_1 : Kd.C k31 w A0_1 l0_1.length l0_1) (hc0_1 : l0_1.length ≤ c0_1) (h : spec_StreamOut.f k a0_0 l0_1 = some r) :
  Calls Tryz.prog 18 #[.agg #[.string a0_0,.slice A0_1 l0_1.length c0_1]] w fun e w'=>e = .returned (.string r) ∧ Below w.heap.size w w':=by
 have hu25:=Tryz.underlying25
 have HR0_1:=m_ hr0_1
 have HC0_1:=m_ hc0_1
 clear hr0_1 hc0_1
 have HB:=m_ (Below.refl w.heap.size w)
 have H : ((spec_StreamOk.f k a0_0 l0_1).bind fun t585=>(if t585 = true then ((spec_l11Out.f k a0_0 l0_1).bind fun t586=>(some t586)) else (some (⟨#[]⟩ : ByteArray)))) = some r:=h
 clear h
 replace H:=Option.bind_eq_some_iff.mp H
 obtain ⟨t585,A20,H⟩:=H
 have A2:=m_ A20
 clear A20
 by_cases c3 : t585 = true
 ·subst c3
  replace H:=ifp H rfl
  replace H:=Option.bind_eq_some_iff.mp H
  obtain ⟨t586,A40,H⟩:=H
  have A4:=m_ A40
  clear A40
  obtain rfl:=Option.some.inj H
  go_enter Tryz.func18,Tryz.ntmps18
  go_wp2_with (first|((with_reducible refine gate_dst (N:=1) rfl ?_);refine box_event ?hg (N:=1) ?hd (cs:=#[.string a0_0,.slice A0_1 l0_1.length c0_1]) (t:=25) ?hr ?_;(case hd=>rfl);(case hg=>rfl);(case hr=>first|(go_simp;done)|(go_simp;rfl));intro gb584 hg w5 hbox hb;have n0_:=m_ (l5_ (puL HB.out) hb);have n1_:=m_ (hbox);have n2_:=m_ ((by rw [hg];exact (l6_ (puL HB.out)) : w.heap.size ≤ gb584));have n3_:=m_ ((by rw [hg];exact (l6_ (puL HB.out)) : w.heap.size ≤ gb584));revert n0_ n1_ n2_ n3_;clear HB;intro HB BK584 GW584 GE584;clear hb hbox hg;have hcz6_0 : w5.cell? ⟨gb584,0,none⟩ = some (.string a0_0):=(c_ BK584.out 0).trans rfl;have hcz6_1 : w5.cell? ⟨gb584,1,none⟩ = some (.slice A0_1 l0_1.length c0_1):=(c_ BK584.out 1).trans rfl)|((with_reducible refine gate_callee (f:=11) rfl ?_);refine goesL_ (some 4) rfl rfl Tryz.func11 (by kernel_rfl) rfl #[.agg #[.string a0_0,.slice A0_1 l0_1.length c0_1]] rfl lens ?_;(with_reducible refine (spec_StreamOk.calls k a0_0 _ _ l0_1 true _ ?side1 ?side2 A2.out).mono ?_);(case side1=>exact puC (Kd.C_below HR0_1.out HB.out));(case side2=>exact HC0_1.out);rintro e w7 ⟨rfl,hb⟩;refine ⟨_,rfl,?_⟩;have n0_:=m_ (blk_below (g:=gb584) (o:=.cells #[.string a0_0,.slice A0_1 l0_1.length c0_1] 25 (0,0)) (puB BK584.out) hb);have n1_:=m_ (l5_ (puM HB.out GE584.out) hb);revert n0_ n1_;clear BK584 HB;intro BK584 HB;(try clear hb);(try clear hb2);(try clear hk);(try clear hi);have hcz8_0 : w7.cell? ⟨gb584,0,none⟩ = some (.string a0_0):=(c_ BK584.out 0).trans rfl;have hcz8_1 : w7.cell? ⟨gb584,1,none⟩ = some (.slice A0_1 l0_1.length c0_1):=(c_ BK584.out 1).trans rfl)|((with_reducible refine gate_callee (f:=33) rfl ?_);refine goesL_ (some 7) rfl rfl Tryz.func33 (by kernel_rfl) rfl #[.agg #[.string a0_0,.slice A0_1 l0_1.length c0_1]] rfl lens ?_;(with_reducible refine (spec_l11Out.calls k a0_0 _ _ l0_1 t586 _ ?side1 ?side2 A4.out).mono ?_);(case side1=>exact puC (Kd.C_below HR0_1.out HB.out));(case side2=>exact HC0_1.out);rintro e w9 ⟨rfl,hb⟩;refine ⟨_,rfl,?_⟩;have n0_:=m_ (blk_below (g:=gb584) (o:=.cells #[.string a0_0,.slice A0_1 l0_1.length c0_1] 25 (0,0)) (puB BK584.out) hb);have n1_:=m_ (l5_ (puM HB.out GE584.out) hb);revert n0_ n1_;clear BK584 HB;intro BK584 HB;(try clear hb);(try clear hb2);(try clear hk);(try clear hi)))
  go_ret
  exact ⟨eqs,puM HB.out GE584.out⟩
 ·replace c3:=Bool.eq_false_iff.mpr c3
  subst c3
  replace H:=ifn H
  obtain rfl:=Option.some.inj H
  go_enter Tryz.func18,Tryz.ntmps18
  go_wp2_with (first|((with_reducible refine gate_dst (N:=1) rfl ?_);refine box_event ?hg (N:=1) ?hd (cs:=#[.string a0_0,.slice A0_1 l0_1.length c0_1]) (t:=25) ?hr ?_;(case hd=>rfl);(case hg=>rfl);(case hr=>first|(go_simp;done)|(go_simp;rfl));intro gb584 hg w10 hbox hb;have n0_:=m_ (l5_ (puL HB.out) hb);have n1_:=m_ (hbox);have n2_:=m_ ((by rw [hg];exact (l6_ (puL HB.out)) : w.heap.size ≤ gb584));have n3_:=m_ ((by rw [hg];exact (l6_ (puL HB.out)) : w.heap.size ≤ gb584));revert n0_ n1_ n2_ n3_;clear HB;intro HB BK584 GW584 GE584;clear hb hbox hg;have hcz11_0 : w10.cell? ⟨gb584,0,none⟩ = some (.string a0_0):=(c_ BK584.out 0).trans rfl;have hcz11_1 : w10.cell? ⟨gb584,1,none⟩ = some (.slice A0_1 l0_1.length c0_1):=(c_ BK584.out 1).trans rfl)|((with_reducible refine gate_callee (f:=11) rfl ?_);refine goesL_ (some 4) rfl rfl Tryz.func11 (by kernel_rfl) rfl #[.agg #[.string a0_0,.slice A0_1 l0_1.length c0_1]] rfl lens ?_;(with_reducible refine (spec_StreamOk.calls k a0_0 _ _ l0_1 false _ ?side1 ?side2 A2.out).mono ?_);(case side1=>exact puC (Kd.C_below HR0_1.out HB.out));(case side2=>exact HC0_1.out);rintro e w12 ⟨rfl,hb⟩;refine ⟨_,rfl,?_⟩;have n0_:=m_ (blk_below (g:=gb584) (o:=.cells #[.string a0_0,.slice A0_1 l0_1.length c0_1] 25 (0,0)) (puB BK584.out) hb);have n1_:=m_ (l5_ (puM HB.out GE584.out) hb);revert n0_ n1_;clear BK584 HB;intro BK584 HB;(try clear hb);(try clear hb2);(try clear hk);(try clear hi)))
  go_ret
  exact ⟨eqs,puM HB.out GE584.out⟩

/-! ### impl_TextPieces: function 19 -/
def impl_TextPieces.f (k : Nat) (a0 : ByteArray) : Option ((List (S51))) := (impl_TextOk.f a0).bind fun t587 => (if t587 = true then ((impl_pieces.f k a0).bind fun t588 => (some t588)) else (some ([] : List (S51))))
theorem impl_TextPieces.mono : ∀ a0 k, LeO (impl_TextPieces.f k a0) (impl_TextPieces.f (k + 1) a0) := by
 intro a0 k
 unfold impl_TextPieces.f
 exact leo1 impl_pieces.mono
theorem impl_TextPieces.calls (k : Nat) (a0 : ByteArray) (r : List (S51)) (w : World) (hG : GV w) (h : impl_TextPieces.f k a0 = some r) :
  Calls Tryz.prog 19 #[.string a0] w fun e w'=>∃ v0_ : Value,e = .returned (v0_) ∧ Kd.R k51 51 w' w.heap.size (fun _=>True) v0_ r ∧ Below w.heap.size w w':=by
 have HG:=m_ hG
 clear hG
 have HB:=m_ (Below.refl w.heap.size w)
 have H : ((impl_TextOk.f a0).bind fun t587=>(if t587 = true then ((impl_pieces.f k a0).bind fun t588=>(some t588)) else (some ([] : List (S51))))) = some r:=h
 clear h
 replace H:=Option.bind_eq_some_iff.mp H
 obtain ⟨t587,A20,H⟩:=H
 have A2:=m_ A20
 clear A20
 by_cases c3 : t587 = true
 ·subst c3
  replace H:=ifp H rfl
  replace H:=Option.bind_eq_some_iff.mp H
  obtain ⟨t588,A40,H⟩:=H
  have A4:=m_ A40
  clear A40
  obtain rfl:=Option.some.inj H
  go_enter Tryz.func19,Tryz.ntmps19
  go_wp2_with (first|((with_reducible refine gate_callee (f:=35) rfl ?_);refine goesL_ (some 4) rfl rfl Tryz.func35 (by kernel_rfl) rfl #[.string a0] rfl lens ?_;(with_reducible refine (impl_TextOk.calls a0 true _ A2.out).mono ?_);rintro e w5 ⟨rfl,hb⟩;refine ⟨_,rfl,?_⟩;have n0_:=m_ (l5_ (puL HB.out) hb);revert n0_;clear HB;intro HB;(try clear hb);(try clear hb2);(try clear hk);(try clear hi))|((with_reducible refine gate_callee (f:=38) rfl ?_);refine goesL_ (some 7) rfl rfl Tryz.func38 (by kernel_rfl) rfl #[.string a0] rfl lens ?_;(with_reducible refine (impl_pieces.calls k a0 t588 _ ?side1 A4.out).mono ?_);(case side1=>first|(with_reducible exact HG.out)|exact GV_below HG.out (puL HB.out));rintro e w6 ⟨v589,rfl,ho0,hb⟩;refine ⟨_,rfl,?_⟩;have n0_:=m_ (Kd.R_lower ho0 (l6_ (puL HB.out)));have n1_:=m_ (l5_ (puL HB.out) hb);revert n0_ n1_;clear HB;intro HO590 HB;(try clear hb);(try clear hb2);(try clear hk);(try clear hi);(try clear ho0)))
  go_ret
  exact ⟨_,eqs,puR HO590.out,puL HB.out⟩
 ·replace c3:=Bool.eq_false_iff.mpr c3
  subst c3
  replace H:=ifn H
  obtain rfl:=Option.some.inj H
  go_enter Tryz.func19,Tryz.ntmps19
  go_wp2_with (first|((with_reducible refine gate_callee (f:=35) rfl ?_);refine goesL_ (some 4) rfl rfl Tryz.func35 (by kernel_rfl) rfl #[.string a0] rfl lens ?_;(with_reducible refine (impl_TextOk.calls a0 false _ A2.out).mono ?_);rintro e w7 ⟨rfl,hb⟩;refine ⟨_,rfl,?_⟩;have n0_:=m_ (l5_ (puL HB.out) hb);revert n0_;clear HB;intro HB;(try clear hb);(try clear hb2);(try clear hk);(try clear hi)))
  go_ret
  exact ⟨_,eqs,by first|exact Kd.R_nil _ _ _ _ _|exact Kd.N_nil _ _ _ _ _|exact Kd.V_nil _ _ _ _ _|exact Kd.Q_nil _ _ _ _ _|exact Kd.S_nil _ _ _ _ _,puL HB.out⟩

/-! ### laws_lzBegins: function 20 -/
def laws_lzBegins.f (a0 : ByteArray) (a1 : ByteArray) : Option (Bool) := if (a0.size : Int) ≤ (a1.size : Int) then (if 0 ≤ (a0.size : Int) then (some ((a1.extract 0 ((a0.size : Int) : Int).toNat).toList == a0.toList)) else (none)) else (some false)
theorem laws_lzBegins.calls (a0 : ByteArray) (a1 : ByteArray) (r : Bool) (w : World) (h : laws_lzBegins.f a0 a1 = some r) :
  Calls Tryz.prog 20 #[.string a0,.string a1] w fun e w'=>e = .returned (.bool r) ∧ Drawn0 w w':=by
 have H : (if (a0.size : Int) ≤ (a1.size : Int) then (if 0 ≤ (a0.size : Int) then (some ((a1.extract 0 ((a0.size : Int) : Int).toNat).toList == a0.toList)) else (none)) else (some false)) = some r:=h
 clear h
 by_cases c3 : (a0.size : Int) ≤ (a1.size : Int)
 ·rw [if_pos c3] at H
  have c3b0 : decide ((a0.size : Int) ≤ (a1.size : Int)) = true:=decide_eq_true c3
  have c3b1 : decide (a0.size ≤ a1.size) = true:=decide_eq_true (Int.ofNat_le.mp c3)
  clear c3
  by_cases c4 : 0 ≤ (a0.size : Int)
  ·rw [if_pos c4] at H
   have c4b0:=eq_true c4
   have c4b1:=decide_eq_true c4
   clear c4
   have c5b0:=eq_true (of_decide_eq_true asm : (a0.size : Int) ≤ (a1.size : Int))
   obtain rfl:=Option.some.inj H
   go_enter Tryz.func20,Tryz.ntmps20
   go_wp2
   go_ret
   exact ⟨by first|rfl|(simp;done)|(simp [*];done),drn⟩
  ·rw [if_neg c4] at H
   exact absurd H (by simp)
 ·rw [if_neg c3] at H
  have c3b0 : decide ((a0.size : Int) ≤ (a1.size : Int)) = false:=decide_eq_false c3
  have c3b1 : decide (a0.size ≤ a1.size) = false:=decide_eq_false (fun h=>c3 (Int.ofNat_le.mpr h))
  clear c3
  obtain rfl:=Option.some.inj H
  go_enter Tryz.func20,Tryz.ntmps20
  go_wp2
  go_ret
  exact ⟨by first|rfl|(simp;done)|(simp [*];done),drn⟩

end Go.Proofs.YtkcjmmhleepjeaaGreatDoor.A
