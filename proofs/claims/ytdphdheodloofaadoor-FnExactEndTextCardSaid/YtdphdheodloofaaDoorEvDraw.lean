/- What the printed functions that draw come to: they answer, with what is asked of them in bounds. -/
import Derived.Test.YtdphdheodloofaaDoorAx3
import Derived.Test.YtdphdheodloofaaDoorAx10
import Derived.Test.YtdphdheodloofaaDoorBytes
import Derived.Laws.Bits64
namespace Go.Proofs.YtdphdheodloofaaDoor.Pure
open Go.RowKit Go.Proofs.YtdphdheodloofaaDoorW.PrintWords Go.Proofs.YtdphdheodloofaaDoorW.PrintMore Go.Proofs.YtdphdheodloofaaDoor.Plain Go.Proofs.YtdphdheodloofaaDoor.A
set_option linter.unusedVariables false
set_option linter.unusedSimpArgs false

theorem bits_xor_i64_nat (a b : Nat) (ha : a < 9223372036854775808) (hb : b < 9223372036854775808) :
    Go.bits .xor .i64 (a : Int) (b : Int) = ((a ^^^ b : Nat) : Int) := by
  have hx : a ^^^ b < 2 ^ 63 := Nat.xor_lt_two_pow (by omega) (by omega)
  have h1 : (BitVec.ofInt 64 (a : Int)).toNat = a := by
    rw [BitVec.toNat_ofInt]; omega
  have h2 : (BitVec.ofInt 64 (b : Int)).toNat = b := by
    rw [BitVec.toNat_ofInt]; omega
  show IntKind.wrap .i64 ((BitVec.ofInt 64 (a : Int) ^^^ BitVec.ofInt 64 (b : Int)).toNat : Int) = _
  rw [BitVec.toNat_xor, h1, h2, IntWalk.i64_left, IntWalk.wrap64_in _ (by omega)]
theorem xor_nonneg (x y : Int) (h1 : 0 ≤ x) (h2 : x ≤ 9223372036854775807) (h3 : 0 ≤ y) (h4 : y ≤ 9223372036854775807) : 0 ≤ Go.bits .xor .i64 x y := by
  obtain ⟨a, rfl⟩ := Int.eq_ofNat_of_zero_le h1
  obtain ⟨b, rfl⟩ := Int.eq_ofNat_of_zero_le h3
  rw [bits_xor_i64_nat a b (by omega) (by omega)]
  omega
/-- A code: bytes. -/
def Code (b : List Int) : Prop := ∀ x ∈ b, 0 ≤ x ∧ x ≤ 255
theorem code_of {l : List Int} (h : ∀ x ∈ l, (Lit.int .u8 x).wf = true) : Code l := by
  intro x hx
  have := h x hx
  simp [Lit.wf, IntKind.min, IntKind.max, IntKind.bits, IntKind.signed] at this
  omega
theorem rd_code {b : List Int} (h : Code b) (i : Int) : 0 ≤ rd b i ∧ rd b i ≤ 255 := by
  unfold rd
  rw [List.getD_eq_getElem?_getD]
  cases e : b[i.toNat]? with
  | none => simp
  | some x => simpa using h x (List.mem_of_getElem? e)
theorem pick_val (b : List Int) (hb : Code b) (p : Int) (h0 : 0 ≤ p) (hp : p ≤ 1099511627776) (L : Int) (hL : 1 ≤ L) :
    0 ≤ Go.bits .xor .i64 (wrap64 ((wrap64 ((wrap64 ((wrap64 ((wrap64 (rd b (Int.tmod p L))) * 131)) + (wrap64 ((wrap64 (rd b (Int.tmod (wrap64 ((wrap64 (p * 7)) + 3)) L))) * 1117)))) + (wrap64 (p * 29)))) + (wrap64 ((wrap64 (Int.tdiv p L)) * 53)))) (wrap64 (Int.tdiv (wrap64 ((wrap64 ((wrap64 ((wrap64 ((wrap64 (rd b (Int.tmod p L))) * 131)) + (wrap64 ((wrap64 (rd b (Int.tmod (wrap64 ((wrap64 (p * 7)) + 3)) L))) * 1117)))) + (wrap64 (p * 29)))) + (wrap64 ((wrap64 (Int.tdiv p L)) * 53)))) 64)) := by
  have hA := rd_code hb (Int.tmod p L)
  have hB := rd_code hb (Int.tmod (wrap64 ((wrap64 (p * 7)) + 3)) L)
  generalize rd b (Int.tmod p L) = A at hA ⊢
  generalize rd b (Int.tmod (wrap64 ((wrap64 (p * 7)) + 3)) L) = B at hB ⊢
  have hq : 0 ≤ Int.tdiv p L ∧ Int.tdiv p L ≤ p := by
    rw [Int.tdiv_eq_ediv_of_nonneg h0]
    exact ⟨Int.ediv_nonneg h0 (by omega), Int.ediv_le_self _ h0⟩
  generalize Int.tdiv p L = q at hq ⊢
  have e : wrap64 ((wrap64 ((wrap64 ((wrap64 ((wrap64 A) * 131)) + (wrap64 ((wrap64 B) * 1117)))) + (wrap64 (p * 29)))) + (wrap64 ((wrap64 q) * 53))) = A * 131 + B * 1117 + p * 29 + q * 53 := by
    simp (disch := omega) only [wrap_id]
  rw [e]
  have hx : 0 ≤ A * 131 + B * 1117 + p * 29 + q * 53 ∧ A * 131 + B * 1117 + p * 29 + q * 53 ≤ 140737488355328 := by omega
  generalize A * 131 + B * 1117 + p * 29 + q * 53 = x at hx ⊢
  have hd : 0 ≤ Int.tdiv x 64 ∧ Int.tdiv x 64 ≤ x := by
    rw [Int.tdiv_eq_ediv_of_nonneg hx.1]; omega
  rw [wrap_id (by omega) (by omega)]
  exact xor_nonneg x _ hx.1 (by omega) hd.1 (by omega)
theorem tmod_in (x n : Int) (hx : 0 ≤ x) (hn : 1 ≤ n) : 0 ≤ Int.tmod x n ∧ Int.tmod x n < n := ⟨Int.tmod_nonneg n hx, Int.tmod_lt_of_pos x (by omega)⟩
/-- A pick: its number is below what is asked, and the place is one on. -/
theorem pick_ev (b : List Int) (hb : Code b) (p n : Int) (h0 : 0 ≤ p) (hp : p ≤ 1099511627776) (hl : b.length ≤ 1000000) :
    ∃ r, Ev (fun k => spec_l6Rd_pick.f k b p n) (r, p + 1) ∧ 0 ≤ r ∧ (1 ≤ n → r < n) ∧ (n < 1 → r = 0) := by
  unfold spec_l6Rd_pick.f
  rw [wrap_id (n := p + 1) (by omega) (by omega)]
  have hz : ∀ x : Bool, x = true → Ev (fun k => spec_l6Rd_pick.j0 k n x b (p + 1)) (0, p + 1) := fun x hx => Ev.step (f := fun _ => some (0, p + 1)) (fun k => by simp only [spec_l6Rd_pick.j0]; rw [if_pos hx]) (Ev.now _)
  by_cases hn : n < 1
  · exact ⟨0, Ev.pos hn (hz true rfl), by omega, by omega, fun _ => rfl⟩
  · by_cases he : (b.length : Int) = 0
    · exact ⟨0, Ev.neg hn (hz _ (beq_iff_eq.2 he)), by omega, by omega, fun _ => rfl⟩
    · have hw : wrap64 (p + 1 - 1) = p := by rw [wrap_id (by omega) (by omega)]; omega
      have hw7 : wrap64 (wrap64 (p * 7) + 3) = p * 7 + 3 := by rw [wrap_id (n := p * 7) (by omega) (by omega), wrap_id (by omega) (by omega)]
      by_cases hlt : p < (b.length : Int)
      · have hA := rd_code hb p
        refine ⟨Int.tmod (rd b p) n, Ev.neg hn (Ev.step (f := fun _ => some (Int.tmod (rd b p) n, p + 1)) (fun k => ?_) (Ev.now _)), (tmod_in _ _ hA.1 (by omega)).1, fun _ => (tmod_in _ _ hA.1 (by omega)).2, fun h => absurd h hn⟩
        simp only [spec_l6Rd_pick.j0, hw]
        rw [if_neg (by rw [beq_iff_eq]; exact he), if_pos hlt, if_pos h0, if_neg (by omega), wrap_id (by omega) (by omega)]
      · have hx := pick_val b hb p h0 hp (b.length : Int) (by omega)
        have t1 := tmod_in p (b.length : Int) h0 (by omega)
        have t2 := tmod_in (p * 7 + 3) (b.length : Int) (by omega) (by omega)
        refine ⟨_, Ev.neg hn (Ev.step (f := fun _ => some (_, p + 1)) (fun k => ?_) (Ev.now _)), (tmod_in _ n hx (by omega)).1, fun _ => (tmod_in _ n hx (by omega)).2, fun h => absurd h hn⟩
        simp only [spec_l6Rd_pick.j0, hw]
        rw [if_neg (by rw [beq_iff_eq]; exact he), if_neg hlt, if_neg he, if_pos t1.1, if_pos t1.2, hw7, if_pos t2.1, if_pos t2.2, if_neg (by omega)]
theorem open_eq (l : List Int) (hl : Code l) : ∃ b, spec_l6Open.f l = some (b, 0) ∧ Code b ∧ b.length ≤ 2000 := by
  unfold spec_l6Open.f
  by_cases h : (l.length : Int) > 2000
  · rw [if_pos h, if_pos (by omega)]
    exact ⟨_, rfl, fun x hx => hl x (List.mem_of_mem_take hx), by rw [List.length_take]; omega⟩
  · rw [if_neg h]; exact ⟨_, rfl, hl, by omega⟩

end Go.Proofs.YtdphdheodloofaaDoor.Pure
