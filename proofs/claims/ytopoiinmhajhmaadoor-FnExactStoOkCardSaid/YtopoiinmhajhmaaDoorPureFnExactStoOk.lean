/- FnExactStoOk returns true: the program's StoOk is the reference's, and leaves its argument as it is. No conditions. -/
import Derived.Test.YtopoiinmhajhmaaDoorXx0
import Derived.Test.YtopoiinmhajhmaaDoorXxf105
import Derived.Test.YtopoiinmhajhmaaDoorXxf106
import Derived.Test.YtopoiinmhajhmaaDoorXxf107
import Derived.Test.YtopoiinmhajhmaaDoorXxf33
import Derived.Test.YtopoiinmhajhmaaDoorXxf34
import Derived.Test.YtopoiinmhajhmaaDoorXxf35
import Derived.Test.YtopoiinmhajhmaaDoorXxf36
import Derived.Test.YtopoiinmhajhmaaDoorXxf37
import Derived.Test.YtopoiinmhajhmaaDoorXxf62
import Derived.Test.YtopoiinmhajhmaaDoorXxf65
import Derived.Test.YtopoiinmhajhmaaDoorXxf68
import Derived.Test.YtopoiinmhajhmaaDoorXxf73
import Derived.Test.YtopoiinmhajhmaaDoorXxf74
import Derived.Test.YtopoiinmhajhmaaDoorXxf75
import Derived.Test.YtopoiinmhajhmaaDoorXxf8
import Derived.Test.YtopoiinmhajhmaaDoorXxpsto
namespace Go.Proofs.YtopoiinmhajhmaaDoor.Pure
open Go.RowKit Go.Proofs.YtopoiinmhajhmaaDoor.H Go.Proofs.YtopoiinmhajhmaaDoor.X Go.Proofs.YtopoiinmhajhmaaDoorW.PrintWords Go.Proofs.YtopoiinmhajhmaaDoorW.PrintLast Go.Proofs.YtopoiinmhajhmaaDoorW.PrintMore
set_option linter.unusedVariables false
end Go.Proofs.YtopoiinmhajhmaaDoor.Pure
namespace Go.Proofs.YtopoiinmhajhmaaDoor.X
open Go.RowKit Go.Proofs.YtopoiinmhajhmaaDoor.H Go.Proofs.YtopoiinmhajhmaaDoorW.PrintWords Go.Proofs.YtopoiinmhajhmaaDoorW.PrintLast Go.Proofs.YtopoiinmhajhmaaDoorW.PrintMore
theorem wr64 {x : Int} (h1 : -9223372036854775808 ≤ x) (h2 : x ≤ 9223372036854775807) : wrap64 x = x := by unfold wrap64; omega
theorem toIntS_l (x0 : List Int) (h : x0.length ≤ 4611686018427387904) : ∀ (n i : Nat) (x3 : List Int) (k : Nat), i + n = x0.length → x3.length = x0.length → (∀ j, j < i → x3[j]? = x0[j]?) → n + 1 ≤ k → laws_toIntS.l0 k x0 x3 i = some x0
  | _, _, _, 0, _, _, _, hk => by omega
  | 0, i, x3, k + 1, hi, h3, hj, _ => by
    rw [laws_toIntS.l0, if_neg (by omega)]
    exact congrArg some (List.ext_getElem? fun j => by
      by_cases e : j < i
      · exact hj j e
      · rw [List.getElem?_eq_none (by omega), List.getElem?_eq_none (by omega)])
  | n + 1, i, x3, k + 1, hi, h3, hj, hk => by
    have e : wrap64 ((i : Int) + 1) = ((i + 1 : Nat) : Int) := by rw [wr64 (by omega) (by omega)]; omega
    have ei : ((i : Int)).toNat = i := by omega
    rw [laws_toIntS.l0, if_pos (by omega), if_pos (by omega), if_pos (by omega), e, ei]
    refine toIntS_l x0 h n (i + 1) _ k (by omega) (by simpa using h3) (fun j hj' => ?_) (by omega)
    by_cases e2 : i = j
    · subst e2
      rw [List.getElem?_set_self (by omega), List.getElem?_eq_getElem (by omega), rd_get x0 i (by omega)]
    · rw [List.getElem?_set_ne e2]
      exact hj j (by omega)
theorem toIntS_f (l : List Int) (h : l.length ≤ 1048576) (k : Nat) (hk : l.length + 1 ≤ k) : laws_toIntS.f k l = some l := by
  unfold laws_toIntS.f
  rw [if_pos (by omega), if_pos (by omega)]
  exact toIntS_l l (by omega) l.length 0 _ k (by omega) (by simp) (fun j hj => by omega) hk
theorem eqIntS_l (a b : List Int) (hl : a.length = b.length) (h : a.length ≤ 4611686018427387904) : ∀ (n i : Nat) (k : Nat), i + n = a.length → (∀ j, j < i → a[j]? = b[j]?) → n + 1 ≤ k → laws_eqIntS.l0 k a b i = some (decide (a = b))
  | _, _, 0, _, _, hk => by omega
  | 0, i, k + 1, hi, hj, _ => by
    rw [laws_eqIntS.l0, if_neg (by omega)]
    have : a = b := List.ext_getElem? fun j => by
      by_cases e : j < i
      · exact hj j e
      · rw [List.getElem?_eq_none (by omega), List.getElem?_eq_none (by omega)]
    rw [decide_eq_true this]
  | n + 1, i, k + 1, hi, hj, hk => by
    have e : wrap64 ((i : Int) + 1) = ((i + 1 : Nat) : Int) := by rw [wr64 (by omega) (by omega)]; omega
    rw [laws_eqIntS.l0, if_pos (by omega), if_pos (by omega), if_pos (by omega), e, rd_get a i (by omega), rd_get b i (by omega)]
    by_cases e2 : a[i]'(by omega) = b[i]'(by omega)
    · rw [if_pos e2]
      refine eqIntS_l a b hl h n (i + 1) k (by omega) (fun j hj' => ?_) (by omega)
      by_cases e3 : j = i
      · subst e3
        rw [List.getElem?_eq_getElem (by omega), List.getElem?_eq_getElem (by omega), e2]
      · exact hj j (by omega)
    · rw [if_neg e2, decide_eq_false (by rintro rfl; exact e2 rfl)]
theorem eqIntS_f (a b : List Int) (h : a.length ≤ 4611686018427387904) (k : Nat) (hk : a.length + 1 ≤ k) : laws_eqIntS.f k a b = some (decide (a = b)) := by
  unfold laws_eqIntS.f
  by_cases hl : a.length = b.length
  · rw [if_pos (by omega)]
    exact eqIntS_l a b hl h a.length 0 k (by omega) (fun j hj => by omega) hk
  · rw [if_neg (by omega), decide_eq_false (by rintro rfl; exact hl rfl)]

theorem szIntS_f (l : List Int) (hl : l.length ≤ 9223372036854775807) (x : Int) (h0 : 0 ≤ x) (h1 : x ≤ 1048576) : ∃ t, laws_szIntS.f l x = some t ∧ t ≤ x ∧ (0 ≤ t → (l.length : Int) + t = x) := by
  unfold laws_szIntS.f
  rw [wr64 (x := x - (l.length : Int)) (by omega) (by omega)]
  by_cases e : x - (l.length : Int) < 0
  · rw [if_pos e]; exact ⟨_, rfl, by omega, fun h => by omega⟩
  · rw [if_neg e]; exact ⟨_, rfl, by omega, fun h => by omega⟩

abbrev LItem := S124
def itemOfL (x : LItem) : Item := ⟨x.f0, x.f1⟩
theorem rdL_get (l : List LItem) (j : Nat) (h : j < l.length) : rd_T124 l (j : Int) = l[j] := by simp [rd_T124, h]
theorem rdI_get (l : List Item) (j : Nat) (h : j < l.length) : rd_T88 l (j : Int) = l[j] := by simp [rd_T88, h]
theorem toStoItemS_l (x0 : List LItem) (h : x0.length ≤ 1048576) (hv : ∀ x ∈ x0, x.f1.length ≤ 1048576) : ∀ (n i : Nat) (x3 : List Item) (k : Nat), i + n = x0.length → x3.length = x0.length → (∀ j, j < i → x3[j]? = (x0.map itemOfL)[j]?) → n + 1048578 ≤ k → laws_toStoItemS.l0 k x0 x3 i = some (x0.map itemOfL)
  | _, _, _, 0, _, _, _, hk => by omega
  | 0, i, x3, k + 1, hi, h3, hj, _ => by
    rw [laws_toStoItemS.l0, if_neg (by omega)]
    exact congrArg some (List.ext_getElem? fun j => by
      by_cases e : j < i
      · exact hj j e
      · rw [List.getElem?_eq_none (by omega), List.getElem?_eq_none (by simp; omega)])
  | n + 1, i, x3, k + 1, hi, h3, hj, hk => by
    have e : wrap64 ((i : Int) + 1) = ((i + 1 : Nat) : Int) := by rw [wr64 (by omega) (by omega)]; omega
    have ei : ((i : Int)).toNat = i := by omega
    have hil : i < x0.length := by omega
    have hx : laws_toStoItem.f k (x0[i]).f0 (x0[i]).f1 = some ((x0[i]).f0, (x0[i]).f1) := by
      unfold laws_toStoItem.f
      have := hv _ (List.getElem_mem hil)
      rw [toIntS_f _ this k (by omega)]
      rfl
    rw [laws_toStoItemS.l0, if_pos (by omega), if_pos (by omega), rdL_get x0 i hil, hx]
    simp only [Option.bind_some]
    rw [if_pos (by omega), e, ei]
    refine toStoItemS_l x0 h hv n (i + 1) _ k (by omega) (by simpa using h3) (fun j hj' => ?_) (by omega)
    by_cases e2 : i = j
    · subst e2
      rw [List.getElem?_set_self (by omega), List.getElem?_map, List.getElem?_eq_getElem hil]
      rfl
    · rw [List.getElem?_set_ne e2]
      exact hj j (by omega)
theorem toStoItemS_f (l : List LItem) (h : l.length ≤ 1048576) (hv : ∀ x ∈ l, x.f1.length ≤ 1048576) (k : Nat) (hk : l.length + 1048578 ≤ k) : laws_toStoItemS.f k l = some (l.map itemOfL) := by
  unfold laws_toStoItemS.f
  rw [if_pos (by omega), if_pos (by omega)]
  exact toStoItemS_l l h hv l.length 0 _ k (by omega) (by simp) (fun j hj => by omega) (by omega)
theorem eqStoItemS_l (a : List Item) (h : a.length ≤ 1048576) (hv : ∀ x ∈ a, x.f1.length ≤ 1048576) : ∀ (n i : Nat) (k : Nat), i + n = a.length → n + 1048578 ≤ k → laws_eqStoItemS.l0 k a a i = some true
  | _, _, 0, _, hk => by omega
  | 0, i, k + 1, hi, _ => by rw [laws_eqStoItemS.l0, if_neg (by omega)]
  | n + 1, i, k + 1, hi, hk => by
    have e : wrap64 ((i : Int) + 1) = ((i + 1 : Nat) : Int) := by rw [wr64 (by omega) (by omega)]; omega
    have hil : i < a.length := by omega
    have hx : laws_eqStoItem.f k (a[i]).f0 (a[i]).f1 (a[i]).f0 (a[i]).f1 = some true := by
      unfold laws_eqStoItem.f
      have := hv _ (List.getElem_mem hil)
      rw [if_pos rfl, eqIntS_f _ _ (by omega) k (by omega), decide_eq_true rfl]
      rfl
    rw [laws_eqStoItemS.l0, if_pos (by omega), if_pos (by omega), if_pos (by omega), rdI_get a i hil, hx]
    simp only [Option.bind_some, if_pos]
    rw [e]
    exact eqStoItemS_l a h hv n (i + 1) k (by omega) (by omega)
theorem eqStoItemS_f (l : List Item) (h : l.length ≤ 1048576) (hv : ∀ x ∈ l, x.f1.length ≤ 1048576) (k : Nat) (hk : l.length + 1048578 ≤ k) : laws_eqStoItemS.f k l l = some true := by
  unfold laws_eqStoItemS.f
  rw [if_pos rfl]
  exact eqStoItemS_l l h hv l.length 0 k (by omega) (by omega)
theorem szStoItem_f (s : ByteArray) (l : List Int) (hs : s.size ≤ 9223372036854775807) (hl : l.length ≤ 9223372036854775807) (x : Int) (h0 : 0 ≤ x) (h1 : x ≤ 1048576) :
    ∃ t, laws_szStoItem.f s l x = some t ∧ t ≤ x ∧ (0 ≤ t → (s.size : Int) + l.length + t = x) := by
  unfold laws_szStoItem.f
  rw [wr64 (x := x - (s.size : Int)) (by omega) (by omega)]
  by_cases e : x - (s.size : Int) < 0
  · rw [if_pos e]; exact ⟨_, rfl, by omega, fun h => by omega⟩
  · rw [if_neg e]
    obtain ⟨t, ht, h2, h3⟩ := szIntS_f l hl (x - (s.size : Int)) (by omega) (by omega)
    rw [ht]
    simp only [Option.bind_some]
    by_cases e2 : t < 0
    · rw [if_pos e2]; exact ⟨_, rfl, by omega, fun h => by omega⟩
    · rw [if_neg e2]; exact ⟨_, rfl, by omega, fun h => by have := h3 h; omega⟩
theorem szStoItemS_l (x0 : List LItem) (h : x0.length ≤ 1048576) (hv : ∀ x ∈ x0, x.f0.size ≤ 9223372036854775807 ∧ x.f1.length ≤ 9223372036854775807) : ∀ (n i : Nat) (x : Int) (k : Nat), i + n = x0.length → 0 ≤ x → x ≤ 1048576 → n + 1 ≤ k →
    ∃ t, laws_szStoItemS.l0 k x0 x i = some t ∧ t ≤ x ∧ (0 ≤ t → ∀ (j : Nat) (hj : j < x0.length), i ≤ j → (x0[j]).f1.length ≤ 1048576)
  | _, _, _, 0, _, _, _, hk => by omega
  | 0, i, x, k + 1, hi, _, _, _ => ⟨x, by rw [laws_szStoItemS.l0, if_neg (by omega)], by omega, fun _ j hj hij => by omega⟩
  | n + 1, i, x, k + 1, hi, hx0, hx1, hk => by
    have e : wrap64 ((i : Int) + 1) = ((i + 1 : Nat) : Int) := by rw [wr64 (by omega) (by omega)]; omega
    have hil : i < x0.length := by omega
    obtain ⟨hs, hl⟩ := hv _ (List.getElem_mem hil)
    obtain ⟨t, ht, h2, h3⟩ := szStoItem_f _ _ hs hl x hx0 hx1
    rw [laws_szStoItemS.l0, if_pos (by omega), if_pos (by omega), rdL_get x0 i hil, ht]
    simp only [Option.bind_some]
    by_cases e2 : t < 0
    · rw [if_pos e2]
      exact ⟨-1, rfl, by omega, fun h => by omega⟩
    · rw [if_neg e2, e]
      have h4 := h3 (by omega)
      obtain ⟨u, hu, h5, h6⟩ := szStoItemS_l x0 h hv n (i + 1) t k (by omega) (by omega) (by omega) (by omega)
      refine ⟨u, hu, by omega, fun hu0 j hj hij => ?_⟩
      by_cases e3 : i = j
      · subst e3; omega
      · exact h6 hu0 j hj (by omega)
theorem szStoItemS_f (l : List LItem) (hl : l.length ≤ 9223372036854775807) (hv : ∀ x ∈ l, x.f0.size ≤ 9223372036854775807 ∧ x.f1.length ≤ 9223372036854775807) (x : Int) (h0 : 0 ≤ x) (h1 : x ≤ 1048576) (k : Nat) (hk : 1048578 ≤ k) :
    ∃ t, laws_szStoItemS.f k l x = some t ∧ t ≤ x ∧ (0 ≤ t → l.length ≤ 1048576 ∧ ∀ y ∈ l, y.f1.length ≤ 1048576) := by
  unfold laws_szStoItemS.f
  rw [wr64 (x := x - (l.length : Int)) (by omega) (by omega)]
  by_cases e : x - (l.length : Int) < 0
  · rw [if_pos e]; exact ⟨_, rfl, by omega, fun h => by omega⟩
  · rw [if_neg e]
    obtain ⟨t, ht, h2, h3⟩ := szStoItemS_l l (by omega) hv l.length 0 (x - (l.length : Int)) k (by omega) (by omega) (by omega) (by omega)
    refine ⟨t, ht, by omega, fun h => ⟨by omega, fun y hy => ?_⟩⟩
    obtain ⟨j, hj, rfl⟩ := List.getElem_of_mem hy
    exact h3 h j hj (by omega)

end Go.Proofs.YtopoiinmhajhmaaDoor.X
namespace Go.Proofs.YtopoiinmhajhmaaDoor.Pure
open Go.RowKit Go.Proofs.YtopoiinmhajhmaaDoor.H Go.Proofs.YtopoiinmhajhmaaDoor.X Go.Proofs.YtopoiinmhajhmaaDoorW.PrintWords
set_option linter.unusedVariables false
def ok124 (x : LItem) : Prop := (x.f0.size ≤ maxLen ∧ (x.f1.length ≤ maxLen ∧ ∀ xf1_ ∈ x.f1, (Lit.int .i64 xf1_).wf = true))
theorem FnExactStoOk (x0_0 : List LItem) (ok0 : x0_0.length ≤ maxLen ∧ ∀ x0_0_ ∈ x0_0, ok124 x0_0_) : ∃ k, laws_FnExactStoOk.f k x0_0 = some true := by
  have hm : maxLen ≤ 9223372036854775807 := by decide
  obtain ⟨h1, h2⟩ := ok0
  obtain ⟨k, hk⟩ : ∃ k, k = 2 * 1048576 + 10 := ⟨_, rfl⟩
  refine ⟨k, ?_⟩
  obtain ⟨t, ht, h3, h4⟩ := szStoItemS_f x0_0 (by omega) (fun x hx => ⟨by have := (h2 x hx).1; omega, by have := (h2 x hx).2.1; omega⟩) 1048576 (by decide) (by decide) k (by omega)
  unfold laws_FnExactStoOk.f laws_szStoStore.f laws_toStoStore.f laws_eqStoStore.f spec_StoOk.f impl_StoOk.f
  rw [ht]
  simp only [Option.bind_some]
  by_cases e : t < 0
  · rw [if_pos e]; rfl
  · obtain ⟨h5, h6⟩ := h4 (by omega)
    rw [if_neg e]
    simp only [Option.bind_some]
    rw [if_neg e, toStoItemS_f x0_0 h5 h6 k (by omega)]
    simp only [Option.bind_some]
    rw [eqStoItemS_f (x0_0.map itemOfL) (by simpa using h5) (by
      intro x hx
      obtain ⟨y, hy, rfl⟩ := List.mem_map.1 hx
      exact h6 y hy) k (by simp; omega)]
    simp
end Go.Proofs.YtopoiinmhajhmaaDoor.Pure
