-- Written by wip/xprint.py (this repo's program) over the kit's print; functions named in wip/hand are proved by hand.
import Derived.Test.YtopoiinmhajhmaaDoorXx0
import Derived.Test.YtopoiinmhajhmaaDoorXxf58
import Derived.Test.YtopoiinmhajhmaaDoorXxf59
namespace Go.Proofs.YtopoiinmhajhmaaDoor.X
open Go.RowKit Go.Proofs.YtopoiinmhajhmaaDoor.H Go.Proofs.YtopoiinmhajhmaaDoorW.PrintWords Go.Proofs.YtopoiinmhajhmaaDoorW.PrintLast Go.Proofs.YtopoiinmhajhmaaDoorW.PrintMore
attribute [local go_sem] max2_int min2_int max_two min_two max_three min_three max_four min_four   -- for this text's walks alone
set_option linter.unusedVariables false
set_option linter.unusedSimpArgs false

/-! ### PLAIN draw -/
theorem xor_nonneg (a b : Int) (h1 : 0 ≤ a) (h2 : a < 9223372036854775808) (h3 : 0 ≤ b) (h4 : b < 9223372036854775808) : 0 ≤ Go.bits .xor .i64 a b := by
  obtain ⟨A, rfl⟩ := Int.eq_ofNat_of_zero_le h1
  obtain ⟨B, rfl⟩ := Int.eq_ofNat_of_zero_le h3
  have hx : A ^^^ B < 2 ^ 63 := Nat.xor_lt_two_pow (by omega) (by omega)
  show 0 ≤ IntKind.i64.wrap ((BitVec.ofInt 64 (A : Int) ^^^ BitVec.ofInt 64 (B : Int)).toNat : Int)
  have e : ∀ n : Nat, n < 9223372036854775808 → (BitVec.ofInt 64 (n : Int)).toNat = n := by
    intro n hn
    rw [BitVec.toNat_ofInt]
    omega
  rw [BitVec.toNat_xor, e A (by omega), e B (by omega), i64_w]
  unfold wrap64
  omega
/-- A reader of draws, as it comes. -/
def OkRd (b : List Int) (p : Int) : Prop := (∀ x ∈ b, 0 ≤ x ∧ x ≤ 255) ∧ 0 ≤ p ∧ p ≤ 1000000000 ∧ b.length ≤ 2000
theorem rd_byte {b : List Int} (h : ∀ x ∈ b, 0 ≤ x ∧ x ≤ 255) (i : Int) : 0 ≤ rd b i ∧ rd b i ≤ 255 := by
  unfold rd
  rw [List.getD_eq_getElem?_getD]
  cases e : b[i.toNat]? with
  | none => simp
  | some x => exact h x (List.mem_of_getElem? e)
theorem w64 {x : Int} (h1 : -9223372036854775808 ≤ x) (h2 : x ≤ 9223372036854775807) : wrap64 x = x := by unfold wrap64; omega
theorem tmod_in (a n : Int) (ha : 0 ≤ a) (hn : 1 ≤ n) : 0 ≤ Int.tmod a n ∧ Int.tmod a n < n := by
  rw [Int.tmod_eq_emod_of_nonneg ha]
  exact ⟨Int.emod_nonneg _ (by omega), Int.emod_lt_of_pos _ (by omega)⟩
theorem pick_f (b : List Int) (p n : Int) (h : OkRd b p) : ∃ v, (∀ k, 1 ≤ k → spec_l20Rd_pick.f k b p n = some (v, p + 1)) ∧ 0 ≤ v ∧ (1 ≤ n → v < n) ∧ (n < 1 → v = 0) := by
  obtain ⟨hb, hp0, hp1, hl⟩ := h
  have e1 : wrap64 (p + 1) = p + 1 := w64 (by omega) (by omega)
  by_cases hn : n < 1
  · refine ⟨0, fun k hk => ?_, Int.le_refl _, fun h => by omega, fun _ => rfl⟩
    obtain ⟨k, rfl⟩ : ∃ m, k = m + 1 := ⟨k - 1, by omega⟩
    unfold spec_l20Rd_pick.f
    rw [if_pos hn, e1]
    simp only [spec_l20Rd_pick.j0, if_true]
  · by_cases hz : b.length = 0
    · refine ⟨0, fun k hk => ?_, Int.le_refl _, fun h => by omega, fun _ => rfl⟩
      obtain ⟨k, rfl⟩ : ∃ m, k = m + 1 := ⟨k - 1, by omega⟩
      unfold spec_l20Rd_pick.f
      rw [if_neg hn, e1, hz]
      simp only [spec_l20Rd_pick.j0]
      rw [if_pos (by rfl)]
    · have e2 : wrap64 (p + 1 - 1) = p := by rw [show p + 1 - 1 = p by omega]; exact w64 (by omega) (by omega)
      have hne : ((b.length : Int) == 0) = false := by rw [beq_eq_false_iff_ne]; omega
      have hn0 : ¬ n = 0 := by omega
      by_cases hlt : p < (b.length : Int)
      · have hr := rd_byte hb p
        refine ⟨Int.tmod (rd b p) n, fun k hk => ?_, (tmod_in _ _ hr.1 (by omega)).1, fun _ => (tmod_in _ _ hr.1 (by omega)).2, fun h => absurd h hn⟩
        obtain ⟨k, rfl⟩ : ∃ m, k = m + 1 := ⟨k - 1, by omega⟩
        unfold spec_l20Rd_pick.f
        rw [if_neg hn, e1, hne]
        simp only [spec_l20Rd_pick.j0]
        rw [if_neg (by decide), e2, if_pos hlt, if_pos hp0, if_neg hn0, w64 (by omega) (by omega)]
      · have hL : (1 : Int) ≤ (b.length : Int) := by omega
        have t1 := tmod_in p _ hp0 hL
        have t2 := tmod_in (p * 7 + 3) (b.length : Int) (by omega) hL
        have r1 := rd_byte hb (Int.tmod p (b.length : Int))
        have r2 := rd_byte hb (Int.tmod (p * 7 + 3) (b.length : Int))
        have d1 : 0 ≤ Int.tdiv p (b.length : Int) ∧ Int.tdiv p (b.length : Int) ≤ p := by
          rw [Int.tdiv_eq_ediv_of_nonneg hp0]
          exact ⟨Int.ediv_nonneg hp0 (by omega), Int.ediv_le_self _ hp0⟩
        generalize hR1 : rd b (Int.tmod p (b.length : Int)) = R1 at r1
        generalize hR2 : rd b (Int.tmod (p * 7 + 3) (b.length : Int)) = R2 at r2
        generalize hD : Int.tdiv p (b.length : Int) = D at d1
        have e3 : wrap64 (p * 7) = p * 7 := w64 (by omega) (by omega)
        have e4 : wrap64 (p * 7 + 3) = p * 7 + 3 := w64 (by omega) (by omega)
        have hX : 0 ≤ R1 * 131 + R2 * 1117 + p * 29 + D * 53 ∧ R1 * 131 + R2 * 1117 + p * 29 + D * 53 < 1000000000000 := by omega
        have hq : 0 ≤ Int.tdiv (R1 * 131 + R2 * 1117 + p * 29 + D * 53) 64 ∧ Int.tdiv (R1 * 131 + R2 * 1117 + p * 29 + D * 53) 64 < 1000000000000 := by
          rw [Int.tdiv_eq_ediv_of_nonneg hX.1]; omega
        have hv := xor_nonneg (R1 * 131 + R2 * 1117 + p * 29 + D * 53) (Int.tdiv (R1 * 131 + R2 * 1117 + p * 29 + D * 53) 64) hX.1 (by omega) hq.1 (by omega)
        refine ⟨Int.tmod (Go.bits .xor .i64 (R1 * 131 + R2 * 1117 + p * 29 + D * 53) (Int.tdiv (R1 * 131 + R2 * 1117 + p * 29 + D * 53) 64)) n, fun k hk => ?_, (tmod_in _ _ hv (by omega)).1, fun _ => (tmod_in _ _ hv (by omega)).2, fun h => absurd h hn⟩
        obtain ⟨k, rfl⟩ : ∃ m, k = m + 1 := ⟨k - 1, by omega⟩
        unfold spec_l20Rd_pick.f
        rw [if_neg hn, e1, hne]
        simp only [spec_l20Rd_pick.j0]
        rw [if_neg (by decide), e2, if_neg hlt, if_neg (by omega)]
        rw [e3, e4, if_pos t1.1, if_pos t1.2, if_pos t2.1, if_pos t2.2, if_neg hn0, hR1, hR2, hD]
        rw [w64 (x := R1) (by omega) (by omega), w64 (x := R2) (by omega) (by omega), w64 (x := D) (by omega) (by omega), w64 (x := R1 * 131) (by omega) (by omega), w64 (x := R2 * 1117) (by omega) (by omega), w64 (x := p * 29) (by omega) (by omega), w64 (x := D * 53) (by omega) (by omega)]
        rw [w64 (x := R1 * 131 + R2 * 1117) (by omega) (by omega), w64 (x := R1 * 131 + R2 * 1117 + p * 29) (by omega) (by omega), w64 (x := R1 * 131 + R2 * 1117 + p * 29 + D * 53) (by omega) (by omega), w64 (x := Int.tdiv _ 64) (by omega) (by omega)]
theorem OkRd.next {b : List Int} {p : Int} (h : OkRd b p) (q : Int) (h1 : p ≤ q) (h2 : q ≤ 1000000000) : OkRd b q := ⟨h.1, by have := h.2.1; omega, h2, h.2.2.2⟩
theorem open_f (l : List Int) (h : ∀ x ∈ l, (Lit.int .u8 x).wf = true) : ∃ b, spec_l20Open.f l = some (b, 0) ∧ OkRd b 0 := by
  have hb : ∀ x ∈ l, 0 ≤ x ∧ x ≤ 255 := by
    intro x hx
    have := h x hx
    simp [Lit.wf, IntKind.min, IntKind.max, IntKind.signed, IntKind.bits] at this
    exact this
  unfold spec_l20Open.f
  by_cases h1 : (l.length : Int) > 2000
  · rw [if_pos h1, if_pos (by omega)]
    exact ⟨_, rfl, fun x hx => hb x (List.mem_of_mem_take hx), by omega, by omega, by rw [List.length_take]; omega⟩
  · rw [if_neg h1]
    exact ⟨_, rfl, hb, by omega, by omega, by omega⟩

end Go.Proofs.YtopoiinmhajhmaaDoor.X
