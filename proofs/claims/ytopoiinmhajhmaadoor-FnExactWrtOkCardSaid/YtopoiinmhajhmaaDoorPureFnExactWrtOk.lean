/- FnExactWrtOk returns true: the program's WrtOk is the reference's, and leaves its argument as it is. No conditions. -/
import Derived.Test.YtopoiinmhajhmaaDoorXxf19
import Derived.Test.YtopoiinmhajhmaaDoorXxf21
import Derived.Test.YtopoiinmhajhmaaDoorXxf22
import Derived.Test.YtopoiinmhajhmaaDoorXxf23
import Derived.Test.YtopoiinmhajhmaaDoorXxf4
import Derived.Test.YtopoiinmhajhmaaDoorXxf62
import Derived.Test.YtopoiinmhajhmaaDoorXxf65
import Derived.Test.YtopoiinmhajhmaaDoorXxf66
import Derived.Test.YtopoiinmhajhmaaDoorXxf67
import Derived.Test.YtopoiinmhajhmaaDoorXxf68
import Derived.Test.YtopoiinmhajhmaaDoorXxpl1
namespace Go.Proofs.YtopoiinmhajhmaaDoor.Pure
open Go.RowKit Go.Proofs.YtopoiinmhajhmaaDoor.H Go.Proofs.YtopoiinmhajhmaaDoor.X Go.Proofs.YtopoiinmhajhmaaDoorW.PrintWords Go.Proofs.YtopoiinmhajhmaaDoorW.PrintLast Go.Proofs.YtopoiinmhajhmaaDoorW.PrintMore
set_option linter.unusedVariables false
theorem wr64 {x : Int} (h1 : -9223372036854775808 ≤ x) (h2 : x ≤ 9223372036854775807) : wrap64 x = x := by unfold wrap64; omega
theorem toIntS_l (x0 : List Int) (h : x0.length ≤ 4611686018427387904) : ∀ (n i : Nat) (x3 : List Int) (k : Nat), i + n = x0.length → x3.length = x0.length → (∀ j, j < i → x3[j]? = x0[j]?) → n + 1 ≤ k → laws_toIntS.l0 k x0 x3 i = some x0
  | _, _, _, 0, _, _, _, hk => by omega
  | 0, i, x3, k + 1, hi, h3, hj, _ => by
    rw [laws_toIntS.l0, if_neg (by omega)]
    exact congrArg some (List.ext_getElem? fun j => by
      by_cases e : j < i
      · exact hj j e
      · rw [List.getElem?_eq_none (by omega), List.getElem?_eq_none (by omega)])
  | n + 1, i, x3, k + 1, hi, h3, hj, hk => by
    have e : wrap64 ((i : Int) + 1) = ((i + 1 : Nat) : Int) := by rw [wr64 (by omega) (by omega)]; omega
    have ei : ((i : Int)).toNat = i := by omega
    rw [laws_toIntS.l0, if_pos (by omega), if_pos (by omega), if_pos (by omega), e, ei]
    refine toIntS_l x0 h n (i + 1) _ k (by omega) (by simpa using h3) (fun j hj' => ?_) (by omega)
    by_cases e2 : i = j
    · subst e2
      rw [List.getElem?_set_self (by omega), List.getElem?_eq_getElem (by omega), rd_get x0 i (by omega)]
    · rw [List.getElem?_set_ne e2]
      exact hj j (by omega)
theorem toIntS_f (l : List Int) (h : l.length ≤ 1048576) (k : Nat) (hk : l.length + 1 ≤ k) : laws_toIntS.f k l = some l := by
  unfold laws_toIntS.f
  rw [if_pos (by omega), if_pos (by omega)]
  exact toIntS_l l (by omega) l.length 0 _ k (by omega) (by simp) (fun j hj => by omega) hk
theorem eqIntS_l (a b : List Int) (hl : a.length = b.length) (h : a.length ≤ 4611686018427387904) : ∀ (n i : Nat) (k : Nat), i + n = a.length → (∀ j, j < i → a[j]? = b[j]?) → n + 1 ≤ k → laws_eqIntS.l0 k a b i = some (decide (a = b))
  | _, _, 0, _, _, hk => by omega
  | 0, i, k + 1, hi, hj, _ => by
    rw [laws_eqIntS.l0, if_neg (by omega)]
    have : a = b := List.ext_getElem? fun j => by
      by_cases e : j < i
      · exact hj j e
      · rw [List.getElem?_eq_none (by omega), List.getElem?_eq_none (by omega)]
    rw [decide_eq_true this]
  | n + 1, i, k + 1, hi, hj, hk => by
    have e : wrap64 ((i : Int) + 1) = ((i + 1 : Nat) : Int) := by rw [wr64 (by omega) (by omega)]; omega
    rw [laws_eqIntS.l0, if_pos (by omega), if_pos (by omega), if_pos (by omega), e, rd_get a i (by omega), rd_get b i (by omega)]
    by_cases e2 : a[i]'(by omega) = b[i]'(by omega)
    · rw [if_pos e2]
      refine eqIntS_l a b hl h n (i + 1) k (by omega) (fun j hj' => ?_) (by omega)
      by_cases e3 : j = i
      · subst e3
        rw [List.getElem?_eq_getElem (by omega), List.getElem?_eq_getElem (by omega), e2]
      · exact hj j (by omega)
    · rw [if_neg e2, decide_eq_false (by rintro rfl; exact e2 rfl)]
theorem eqIntS_f (a b : List Int) (h : a.length ≤ 4611686018427387904) (k : Nat) (hk : a.length + 1 ≤ k) : laws_eqIntS.f k a b = some (decide (a = b)) := by
  unfold laws_eqIntS.f
  by_cases hl : a.length = b.length
  · rw [if_pos (by omega)]
    exact eqIntS_l a b hl h a.length 0 k (by omega) (fun j hj => by omega) hk
  · rw [if_neg (by omega), decide_eq_false (by rintro rfl; exact hl rfl)]

theorem szIntS_f (l : List Int) (hl : l.length ≤ 9223372036854775807) (x : Int) (h0 : 0 ≤ x) (h1 : x ≤ 1048576) : ∃ t, laws_szIntS.f l x = some t ∧ t ≤ x ∧ (0 ≤ t → (l.length : Int) + t = x) := by
  unfold laws_szIntS.f
  rw [wr64 (x := x - (l.length : Int)) (by omega) (by omega)]
  by_cases e : x - (l.length : Int) < 0
  · rw [if_pos e]; exact ⟨_, rfl, by omega, fun h => by omega⟩
  · rw [if_neg e]; exact ⟨_, rfl, by omega, fun h => by omega⟩

theorem szStoWrite_f (s : ByteArray) (d : Bool) (l : List Int) (hs : s.size ≤ 9223372036854775807) (hl : l.length ≤ 9223372036854775807) (x : Int) (h0 : 0 ≤ x) (h1 : x ≤ 1048576) :
    ∃ t, laws_szStoWrite.f s d l x = some t ∧ t ≤ x ∧ (0 ≤ t → (s.size : Int) + l.length + t = x) := by
  unfold laws_szStoWrite.f
  rw [wr64 (x := x - (s.size : Int)) (by omega) (by omega)]
  by_cases e : x - (s.size : Int) < 0
  · rw [if_pos e]; exact ⟨_, rfl, by omega, fun h => by omega⟩
  · rw [if_neg e]
    obtain ⟨t, ht, h2, h3⟩ := szIntS_f l hl (x - (s.size : Int)) (by omega) (by omega)
    rw [ht]
    simp only [Option.bind_some]
    by_cases e2 : t < 0
    · rw [if_pos e2]; exact ⟨_, rfl, by omega, fun h => by omega⟩
    · rw [if_neg e2]; exact ⟨_, rfl, by omega, fun h => by have := h3 h; omega⟩
theorem toStoWrite_f (s : ByteArray) (d : Bool) (l : List Int) (h : l.length ≤ 1048576) (k : Nat) (hk : l.length + 1 ≤ k) : laws_toStoWrite.f k s d l = some (s, d, l) := by
  unfold laws_toStoWrite.f
  rw [toIntS_f l h k hk]
  rfl
theorem eqStoWrite_self (s : ByteArray) (d : Bool) (l : List Int) (h : l.length ≤ 1048576) (k : Nat) (hk : l.length + 1 ≤ k) : laws_eqStoWrite.f k s d l s d l = some true := by
  unfold laws_eqStoWrite.f
  rw [if_pos rfl, if_neg (by simp), eqIntS_f l l (by omega) k hk]
  simp

theorem implWrtOk (s : ByteArray) (d : Bool) (l : List Int) : impl_WrtOk.f s d l = some (wrtOk s d l) := by
  unfold impl_WrtOk.f impl_keyOk.f impl_valOk.f wrtOk
  simp only [Option.bind_some]
  cases d
  · rw [if_neg (by simp)]
    cases keyOk s <;> simp
  · rw [if_pos rfl]
    cases keyOk s <;> cases l <;> simp
    omega
theorem FnExactWrtOk (x0_0 : ByteArray) (x0_1 : Bool) (x0_2 : List Int) (ok0 : x0_0.size ≤ maxLen ∧ True ∧ (x0_2.length ≤ maxLen ∧ ∀ x0_2_ ∈ x0_2, (Lit.int .i64 x0_2_).wf = true)) : ∃ k, laws_FnExactWrtOk.f k x0_0 x0_1 x0_2 = some true := by
  have hm : maxLen ≤ 9223372036854775807 := by decide
  obtain ⟨h1, _, h2, _⟩ := ok0
  obtain ⟨t, ht, h3, h4⟩ := szStoWrite_f x0_0 x0_1 x0_2 (by omega) (by omega) 1048576 (by decide) (by decide)
  refine ⟨x0_2.length + 20, ?_⟩
  unfold laws_FnExactWrtOk.f
  rw [ht]
  simp only [Option.bind_some]
  by_cases e : t < 0
  · rw [if_pos e]
  · rw [if_neg e]
    have h5 := h4 (by omega)
    rw [toStoWrite_f x0_0 x0_1 x0_2 (by omega) _ (by omega)]
    simp only [Option.bind_some]
    rw [specWrtOk_f _ _ _ (by omega) _ (by omega), implWrtOk]
    simp only [Option.bind_some]
    rw [eqStoWrite_self _ _ _ (by omega) _ (by omega)]
    simp
end Go.Proofs.YtopoiinmhajhmaaDoor.Pure
