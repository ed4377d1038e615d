/- What the printed functions that draw texts come to: some text, short enough. -/
import Derived.Test.YtdphdheodloofaaDoorAx3
import Derived.Test.YtdphdheodloofaaDoorAx6
import Derived.Test.YtdphdheodloofaaDoorAx10
import Derived.Test.YtdphdheodloofaaDoorEvDraw
import Derived.Test.YtdphdheodloofaaDoorEvEnds
import Derived.Test.YtdphdheodloofaaDoorEvText
import Derived.Test.YtdphdheodloofaaDoorEvPkt
namespace Go.Proofs.YtdphdheodloofaaDoor.Pure
open Go.RowKit Go.Proofs.YtdphdheodloofaaDoorW.PrintWords Go.Proofs.YtdphdheodloofaaDoorW.PrintMore Go.Proofs.YtdphdheodloofaaDoor.Plain Go.Proofs.YtdphdheodloofaaDoor.A
set_option linter.unusedVariables false
set_option linter.unusedSimpArgs false

theorem of_ev (b : List Int) (hb : Code b) (p : Int) (h0 : 0 ≤ p) (hp : p ≤ 1099511627776) (hl : b.length ≤ 1000000) (l : List ByteArray) (hn : 1 ≤ l.length) :
    ∃ s, s ∈ l ∧ Ev (fun k => spec_l6Rd_of.f k b p l) (s, p + 1) := by
  obtain ⟨r, hr, r0, r1, _⟩ := pick_ev b hb p (l.length : Int) h0 hp hl
  have r2 := r1 (by omega)
  refine ⟨rdOf ByteArray.empty l r, ?_, ?_⟩
  · unfold rdOf
    rw [List.getD_eq_getElem?_getD, List.getElem?_eq_getElem (by omega)]
    exact List.getElem_mem _
  · unfold spec_l6Rd_of.f
    exact Ev.bind hr (Ev.pos r0 (Ev.pos r2 (Ev.now _)))
theorem end_ev (b : List Int) (hb : Code b) (p : Int) (h0 : 0 ≤ p) (hp : p ≤ 1099511000000) (hl : b.length ≤ 1000000) :
    ∃ a q p', Ev (fun k => spec_l71End.f k b p) (a, q, p') ∧ p ≤ p' ∧ p' ≤ p + 3 := by
  obtain ⟨r, hr, r0, _⟩ := pick_ev b hb p 12 h0 (by omega) hl
  have one : ∀ m : Int, ∃ x, Ev (fun k => spec_l6Rd_pick.f k b (p + 1) m) (x, p + 1 + 1) := fun m => by
    obtain ⟨x, hx, _⟩ := pick_ev b hb (p + 1) m (by omega) (by omega) hl
    exact ⟨x, hx⟩
  have two : ∀ m : Int, ∃ x, Ev (fun k => spec_l6Rd_pick.f k b (p + 1 + 1) m) (x, p + 1 + 1 + 1) := fun m => by
    obtain ⟨x, hx, _⟩ := pick_ev b hb (p + 1 + 1) m (by omega) (by omega) hl
    exact ⟨x, hx⟩
  have j2 : ∀ x : Bool, ∃ a q p', Ev (fun k => spec_l71End.j2 k x b (p + 1)) (a, q, p') ∧ p ≤ p' ∧ p' ≤ p + 3 := fun x => by
    cases x with
    | true =>
      obtain ⟨x, hx⟩ := one 8
      refine ⟨_, _, _, Ev.step (f := fun k => (spec_l6Rd_pick.f k b (p + 1) 8).bind fun bt => some (9, wrap64 (10 + bt.1), bt.2)) (fun k => by simp only [spec_l71End.j2]; rw [if_pos trivial]) (Ev.bind hx (Ev.now _)), ?_⟩
      simp only; omega
    | false =>
      obtain ⟨x, hx⟩ := one 12
      obtain ⟨y, hy⟩ := two 20
      refine ⟨_, _, _, Ev.step (f := fun k => (spec_l6Rd_pick.f k b (p + 1) 12).bind fun bt => ((spec_l6Rd_pick.f k b bt.2 20).bind fun ct => (some (bt.1, ct.1, ct.2)))) (fun k => by simp only [spec_l71End.j2]; rw [if_neg (by decide)]) (Ev.bind hx (Ev.bind hy (Ev.now _))), ?_⟩
      simp only; omega
  have j1 : ∀ (v : Int) (x : Bool), ∃ a q p', Ev (fun k => spec_l71End.j1 k v x b (p + 1)) (a, q, p') ∧ p ≤ p' ∧ p' ≤ p + 3 := fun v x => by
    cases x with
    | true =>
      obtain ⟨x, hx⟩ := one 3
      obtain ⟨y, hy⟩ := two 9
      refine ⟨_, _, _, Ev.step (f := fun k => (spec_l6Rd_pick.f k b (p + 1) 3).bind fun bt => ((spec_l6Rd_pick.f k b bt.2 9).bind fun ct => (some (wrap64 (4 + bt.1), wrap64 (1 + ct.1), ct.2)))) (fun k => by simp only [spec_l71End.j1]; rw [if_pos trivial]) (Ev.bind hx (Ev.bind hy (Ev.now _))), ?_⟩
      simp only; omega
    | false =>
      have s : ∀ k, spec_l71End.j1 (k + 1) v false b (p + 1) = if v = 7 then (spec_l71End.j2 k (v == 7) b (p + 1)) else (if v = 8 then (spec_l71End.j2 k (v == 8) b (p + 1)) else (if v = 9 then (spec_l71End.j2 k (v == 9) b (p + 1)) else (spec_l71End.j2 k (v == 10) b (p + 1)))) := fun k => by simp only [spec_l71End.j1]; rw [if_neg (by decide)]
      by_cases h7 : v = 7
      · obtain ⟨a, q, p', h, h'⟩ := j2 (v == 7)
        exact ⟨a, q, p', Ev.step s (Ev.pos h7 h), h'⟩
      · by_cases h8 : v = 8
        · obtain ⟨a, q, p', h, h'⟩ := j2 (v == 8)
          exact ⟨a, q, p', Ev.step s (Ev.neg h7 (Ev.pos h8 h)), h'⟩
        · by_cases h9 : v = 9
          · obtain ⟨a, q, p', h, h'⟩ := j2 (v == 9)
            exact ⟨a, q, p', Ev.step s (Ev.neg h7 (Ev.neg h8 (Ev.pos h9 h))), h'⟩
          · obtain ⟨a, q, p', h, h'⟩ := j2 (v == 10)
            exact ⟨a, q, p', Ev.step s (Ev.neg h7 (Ev.neg h8 (Ev.neg h9 h))), h'⟩
  have j0 : ∀ (v : Int) (x : Bool), ∃ a q p', Ev (fun k => spec_l71End.j0 k v x b (p + 1)) (a, q, p') ∧ p ≤ p' ∧ p' ≤ p + 3 := fun v x => by
    cases x with
    | true =>
      obtain ⟨x, hx⟩ := one 3
      obtain ⟨y, hy⟩ := two 9
      refine ⟨_, _, _, Ev.step (f := fun k => (spec_l6Rd_pick.f k b (p + 1) 3).bind fun bt => ((spec_l6Rd_pick.f k b bt.2 9).bind fun ct => (some (wrap64 (1 + bt.1), wrap64 (1 + ct.1), ct.2)))) (fun k => by simp only [spec_l71End.j0]; rw [if_pos trivial]) (Ev.bind hx (Ev.bind hy (Ev.now _))), ?_⟩
      simp only; omega
    | false =>
      have s : ∀ k, spec_l71End.j0 (k + 1) v false b (p + 1) = if v = 4 then (spec_l71End.j1 k v (v == 4) b (p + 1)) else (if v = 5 then (spec_l71End.j1 k v (v == 5) b (p + 1)) else (spec_l71End.j1 k v (v == 6) b (p + 1))) := fun k => by simp only [spec_l71End.j0]; rw [if_neg (by decide)]
      by_cases h7 : v = 4
      · obtain ⟨a, q, p', h, h'⟩ := j1 v (v == 4)
        exact ⟨a, q, p', Ev.step s (Ev.pos h7 h), h'⟩
      · by_cases h8 : v = 5
        · obtain ⟨a, q, p', h, h'⟩ := j1 v (v == 5)
          exact ⟨a, q, p', Ev.step s (Ev.neg h7 (Ev.pos h8 h)), h'⟩
        · obtain ⟨a, q, p', h, h'⟩ := j1 v (v == 6)
          exact ⟨a, q, p', Ev.step s (Ev.neg h7 (Ev.neg h8 h)), h'⟩
  unfold spec_l71End.f
  by_cases c0 : r = 0
  · obtain ⟨a, q, p', h, h'⟩ := j0 r (r == 0)
    exact ⟨a, q, p', Ev.bind hr (Ev.pos c0 h), h'⟩
  · by_cases c1 : r = 1
    · obtain ⟨a, q, p', h, h'⟩ := j0 r (r == 1)
      exact ⟨a, q, p', Ev.bind hr (Ev.neg c0 (Ev.pos c1 h)), h'⟩
    · by_cases c2 : r = 2
      · obtain ⟨a, q, p', h, h'⟩ := j0 r (r == 2)
        exact ⟨a, q, p', Ev.bind hr (Ev.neg c0 (Ev.neg c1 (Ev.pos c2 h))), h'⟩
      · obtain ⟨a, q, p', h, h'⟩ := j0 r (r == 3)
        exact ⟨a, q, p', Ev.bind hr (Ev.neg c0 (Ev.neg c1 (Ev.neg c2 h))), h'⟩
theorem bytesOf_nums (l : List Int) (h : Code l) : bytesOf (strOfNums l) = l := by
  unfold bytesOf
  rw [strOfNums_data, List.map_map]
  conv => rhs; rw [← List.map_id l]
  apply List.map_congr_left
  intro x hx
  have := h x hx
  show ((UInt8.ofNat x.toNat).toNat : Int) = x
  rw [UInt8.toNat_ofNat']
  omega
theorem dec_ev (n : Int) (h0 : 0 ≤ n) (h1 : n ≤ 99) : ∃ s, Ev (fun k => spec_l6Dec.f k n) s ∧ bytesOf s = dec n := by
  have base : ∀ m : Int, 0 ≤ m → m < 10 → Ev (fun k => spec_l6Dec.f k m) (strOfNums [48 + m]) := fun m m0 m1 => by
    refine Ev.step (f := fun _ => some (strOfNums [48 + m])) (fun k => ?_) (Ev.now _)
    simp only [spec_l6Dec.f]
    rw [if_neg (by omega), if_neg (by omega), if_pos m1, wrap_id (by omega) (by omega), Int.emod_eq_of_lt (by omega) (by omega)]
  by_cases h : n < 10
  · refine ⟨_, base n h0 h, ?_⟩
    rw [bytesOf_nums _ (by intro x hx; simp at hx; omega)]
    unfold dec; rw [if_pos h]
  · have e1 : Int.tdiv n 10 = n / 10 := Int.tdiv_eq_ediv_of_nonneg h0
    have e2 : Int.tmod n 10 = n % 10 := Int.tmod_eq_emod_of_nonneg h0
    refine ⟨strOfNums [48 + n / 10] ++ strOfNums [48 + n % 10], ?_, ?_⟩
    · refine Ev.step (f := fun k => (spec_l6Dec.f k (n / 10)).bind fun t => ((some (([48 + n % 10] : List Int) : List Int)).bind fun y => (if t.size + (strOfNums y).size ≤ 9223372036854775807 then (some (t ++ (strOfNums y))) else (none)))) (fun k => ?_) ?_
      · simp only [spec_l6Dec.f]
        rw [if_neg (by omega), if_neg (by omega), if_neg h, e1, e2, wrap_id (n := n / 10) (by omega) (by omega), wrap_id (n := 48 + n % 10) (by omega) (by omega), Int.emod_eq_of_lt (a := 48 + n % 10) (by omega) (by omega)]
      · refine Ev.bind (base (n / 10) (by omega) (by omega)) (Ev.call rfl (Ev.pos ?_ (Ev.now _)))
        rw [strOfNums_size, strOfNums_size]; simp
    · rw [bytesOf_append, bytesOf_nums _ (by intro x hx; simp at hx; omega), bytesOf_nums _ (by intro x hx; simp at hx; omega)]
      unfold dec; rw [if_neg h]; rfl
theorem dec_len (n : Int) : (dec n).length ≤ 2 := by unfold dec; split <;> simp
/-- The reference's text of an end. -/
theorem sEndText (a p : Int) : ∃ s, Ev (fun k => spec_EndText.f k a p) s ∧ bytesOf s = endText a p := by
  unfold spec_EndText.f
  cases h : anyE a p with
  | false =>
    refine ⟨⟨#[]⟩, Ev.call (sAny_eq a p) (Ev.neg (by rw [h]; decide) (Ev.now _)), ?_⟩
    rw [endText_none a p h]; rfl
  | true =>
    have hr : (1 ≤ a ∧ a ≤ 9) ∧ 1 ≤ p ∧ p ≤ 17 := by rcases (anyE_iff a p).1 h with h | h <;> omega
    obtain ⟨s, hs, es⟩ := dec_ev a (by omega) (by omega)
    obtain ⟨t, ht, et⟩ := dec_ev p (by omega) (by omega)
    have l1 : s.size ≤ 2 := by rw [← bytesOf_size, es]; exact dec_len a
    have l2 : t.size ≤ 2 := by rw [← bytesOf_size, et]; exact dec_len p
    refine ⟨(s ++ (⟨#[58]⟩ : ByteArray)) ++ t, Ev.call (sAny_eq a p) (Ev.pos h (Ev.bind hs (Ev.pos (by omega) (Ev.bind ht (Ev.pos (by omega) (Ev.now _)))))), ?_⟩
    rw [bytesOf_append, bytesOf_append, es, et]
    unfold endText
    rw [if_pos h, List.append_assoc]; rfl
theorem endText_len (a p : Int) : (endText a p).length ≤ 4 := by
  cases h : anyE a p with
  | false => rw [endText_none a p h]; simp
  | true =>
    rcases (anyE_iff a p).1 h with h2 | ⟨rfl, h2⟩
    · rw [endText_host a p h2]; simp
    · rw [endText_door p h2]; simp
theorem lit_size (l : List UInt8) : (⟨l.toArray⟩ : ByteArray).size = l.length := by simp [ByteArray.size]
theorem text_loop (b : List Int) (hb : Code b) (hl : b.length ≤ 1000000) (most : Int) (hm : 0 ≤ most) (hm2 : most ≤ 1000) : ∀ (n : Nat) (s : ByteArray) (p : Int), 0 ≤ p → p + 5 * n ≤ 1099511000000 → (s.size : Int) ≤ most →
    ∃ t p', Ev (fun k => spec_l71Text.l0 k most s (n : Int) b p) (t, p') ∧ (t.size : Int) ≤ most ∧ p ≤ p' ∧ p' ≤ p + 5 * n
  | 0, s, p, h0, hp, hs => ⟨s, p, Ev.step (f := fun _ => some (s, p)) (fun k => by simp only [spec_l71Text.l0]; rw [if_neg (by omega)]) (Ev.now _), hs, by omega, by omega⟩
  | n + 1, s, p, h0, hp, hs => by
    have hw : wrap64 (((n + 1 : Nat) : Int) - 1) = (n : Int) := by rw [wrap_id (by omega) (by omega)]; omega
    obtain ⟨x, hx, ex⟩ := of_ev b hb p h0 (by omega) hl [(⟨#[97]⟩ : ByteArray), (⟨#[98, 99]⟩ : ByteArray), (⟨#[64]⟩ : ByteArray), (⟨#[64, 49]⟩ : ByteArray), (⟨#[59]⟩ : ByteArray), (⟨#[58, 53]⟩ : ByteArray), (⟨#[120, 49]⟩ : ByteArray), (⟨#[64, 64]⟩ : ByteArray), (⟨#[64, 49, 58]⟩ : ByteArray), (⟨#[55]⟩ : ByteArray)] (by simp)
    have hxs : x.size ≤ 3 := by
      simp only [List.mem_cons, List.not_mem_nil, or_false] at hx
      rcases hx with rfl | rfl | rfl | rfl | rfl | rfl | rfl | rfl | rfl | rfl <;> decide
    obtain ⟨r, er, r0, _⟩ := pick_ev b hb (p + 1) 5 (by omega) (by omega) hl
    by_cases hr : r < 3
    · obtain ⟨a, q, p1, he, hp1, hp2⟩ := end_ev b hb (p + 1 + 1) (by omega) (by omega) hl
      obtain ⟨u, hu, eu⟩ := sEndText a q
      have lu : u.size ≤ 4 := by rw [← bytesOf_size, eu]; exact endText_len a q
      by_cases hc : wrap64 ((s.size : Int) + (1 + (u.size : Int) + 1)) ≤ most
      · have hc2 : (s.size : Int) + (1 + (u.size : Int) + 1) ≤ most := by rwa [wrap_id (by omega) (by omega)] at hc
        obtain ⟨t, p', ht, h1, h2, h3⟩ := text_loop b hb hl most hm hm2 n (s ++ (((⟨#[64]⟩ : ByteArray) ++ u) ++ (⟨#[59]⟩ : ByteArray))) p1 (by omega) (by omega) (by
          have e1 : (⟨#[64]⟩ : ByteArray).size = 1 := rfl
          have e2 : (⟨#[59]⟩ : ByteArray).size = 1 := rfl
          rw [ByteArray.size_append, ByteArray.size_append, ByteArray.size_append, e1, e2]; omega)
        refine ⟨t, p', Ev.step (f := fun k => _) (fun k => by simp only [spec_l71Text.l0]; rw [if_pos (by omega), hw]) ?_, h1, by omega, by omega⟩
        refine Ev.bind ex ?_
        refine Ev.bind er ?_
        refine Ev.pos hr ?_
        refine Ev.bind he ?_
        refine Ev.bind hu ?_
        refine Ev.pos (by omega) ?_
        refine Ev.pos (by omega) ?_
        refine Ev.pos hc ?_
        refine Ev.pos (by omega) ?_
        exact ht
      · obtain ⟨t, p', ht, h1, h2, h3⟩ := text_loop b hb hl most hm hm2 n s p1 (by omega) (by omega) hs
        refine ⟨t, p', Ev.step (f := fun k => _) (fun k => by simp only [spec_l71Text.l0]; rw [if_pos (by omega), hw]) ?_, h1, by omega, by omega⟩
        refine Ev.bind ex ?_
        refine Ev.bind er ?_
        refine Ev.pos hr ?_
        refine Ev.bind he ?_
        refine Ev.bind hu ?_
        refine Ev.pos (by omega) ?_
        refine Ev.pos (by omega) ?_
        refine Ev.neg hc ?_
        exact ht
    · by_cases hc : wrap64 ((s.size : Int) + (x.size : Int)) ≤ most
      · have hc2 : (s.size : Int) + (x.size : Int) ≤ most := by rwa [wrap_id (by omega) (by omega)] at hc
        obtain ⟨t, p', ht, h1, h2, h3⟩ := text_loop b hb hl most hm hm2 n (s ++ x) (p + 1 + 1) (by omega) (by omega) (by rw [ByteArray.size_append]; omega)
        refine ⟨t, p', Ev.step (f := fun k => _) (fun k => by simp only [spec_l71Text.l0]; rw [if_pos (by omega), hw]) ?_, h1, by omega, by omega⟩
        refine Ev.bind ex ?_
        refine Ev.bind er ?_
        refine Ev.neg hr ?_
        refine Ev.pos hc ?_
        refine Ev.pos (show s.size + x.size ≤ 9223372036854775807 from by omega) ?_
        exact ht
      · obtain ⟨t, p', ht, h1, h2, h3⟩ := text_loop b hb hl most hm hm2 n s (p + 1 + 1) (by omega) (by omega) hs
        refine ⟨t, p', Ev.step (f := fun k => _) (fun k => by simp only [spec_l71Text.l0]; rw [if_pos (by omega), hw]) ?_, h1, by omega, by omega⟩
        refine Ev.bind ex ?_
        refine Ev.bind er ?_
        refine Ev.neg hr ?_
        refine Ev.neg hc ?_
        exact ht
theorem text_ev (b : List Int) (hb : Code b) (p : Int) (h0 : 0 ≤ p) (hp : p ≤ 1099510000000) (hl : b.length ≤ 1000000) (most : Int) (hm : 0 ≤ most) (hm2 : most ≤ 1000) :
    ∃ t p', Ev (fun k => spec_l71Text.f k b p most) (t, p') ∧ (t.size : Int) ≤ most ∧ p ≤ p' ∧ p' ≤ p + 31 := by
  obtain ⟨r, hr, r0, r1, _⟩ := pick_ev b hb p 7 h0 (by omega) hl
  have r2 := r1 (by omega)
  obtain ⟨n, rfl⟩ := Int.eq_ofNat_of_zero_le r0
  obtain ⟨t, p', ht, h1, h2, h3⟩ := text_loop b hb hl most hm hm2 n ⟨#[]⟩ (p + 1) (by omega) (by omega) (by show ((0 : Nat) : Int) ≤ most; omega)
  exact ⟨t, p', Ev.bind hr ht, h1, by omega, by omega⟩

end Go.Proofs.YtdphdheodloofaaDoor.Pure
