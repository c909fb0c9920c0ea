/- What these values are, in plain words: for the proof (laws.FnExactGloOk): part 1. No conditions. -/
import Derived.Test.YtopoiinmhajhmaaDoorGb
import Derived.Lib.SlTrimSet
set_option linter.all false
section
namespace Go.Proofs.YtopoiinmhajhmaaDoor.E
open Go
theorem wrap64 {x : Int} (h : -9223372036854775808 ≤ x ∧ x < 9223372036854775808) : IntKind.wrap .i64 x = x := by
  simp only [IntKind.wrap, IntKind.bits, IntKind.signed]
  simp
  omega
def forR {α ρ : Type} (f : Nat → α → α ⊕ ρ) (fin : α → ρ) : Nat → Nat → α → ρ
  | 0, _, a => fin a
  | k + 1, i, a => match f i a with
    | .inl a' => forR f fin k (i + 1) a'
    | .inr r => r
section
variable {σ ρ α β : Type} {step : σ → RT σ ρ}
theorem loop_for (mk : Nat → α → σ) (f : Nat → α → α ⊕ ρ) (fin : α → ρ) (n : Nat) (J : Nat → α → Prop)
    (h1 : ∀ i a, i < n → J i a → (step (mk i a)).sel = (match f i a with | .inl a' => .go (mk (i + 1) a') | .inr r => .out r) ∧ ∀ a', f i a = .inl a' → J (i + 1) a')
    (h2 : ∀ a, J n a → (step (mk n a)).sel = .out (fin a)) : ∀ (k i : Nat) (a : α), i + k = n → J i a → loopO step (mk i a) = some (forR f fin k i a) := by
  intro k
  induction k with
  | zero =>
    intro i a hi hJ
    have hi : i = n := by omega
    subst hi
    rw [loopO_eq, h2 a hJ]
    rfl
  | succ k ih =>
    intro i a hi hJ
    obtain ⟨h3, h4⟩ := h1 i a (by omega) hJ
    rw [loopO_eq, h3]
    unfold forR
    cases hf : f i a with
    | inl a' => simp only; exact ih (i + 1) a' (by omega) (h4 a' hf)
    | inr r => rfl
/-- A loop that looks whether something is so of all. -/
theorem loop_all (mk : Nat → σ) (p : Nat → Bool) (e fin : ρ) (n : Nat) (h1 : ∀ i, i < n → (step (mk i)).sel = bif p i then .go (mk (i + 1)) else .out e) (h2 : (step (mk n)).sel = .out fin) :
    loopO step (mk 0) = some (bif (List.range n).all p then fin else e) := by
  have key : ∀ k i, i + k = n → loopO step (mk i) = some (bif (List.range' i k).all p then fin else e) := by
    intro k
    induction k with
    | zero =>
      intro i hi
      have hi : i = n := by omega
      subst hi
      rw [loopO_eq, h2]
      rfl
    | succ k ih =>
      intro i hi
      rw [loopO_eq, h1 i (by omega), List.range'_succ, List.all_cons]
      cases p i with
      | true => simp only [cond_true, Bool.true_and]; exact ih (i + 1) (by omega)
      | false => rfl
  rw [key n 0 (by omega), List.range_eq_range']
theorem range_all {e : Ty} (l : List e.den) (p : e.den → Bool) : (List.range l.length).all (fun i => p (at_ e l i)) = l.all p := by
  rw [Bool.eq_iff_iff, List.all_eq_true, List.all_eq_true]
  constructor
  · intro h x hx
    obtain ⟨i, hi, rfl⟩ := List.getElem_of_mem hx
    have := h i (List.mem_range.2 hi)
    simpa [at_, hi] using this
  · intro h i hi
    have hi := List.mem_range.1 hi
    have := h l[i] (List.getElem_mem hi)
    simpa [at_, hi] using this
theorem at_mem {e : Ty} {l : List e.den} {i : Nat} (h : i < l.length) : at_ e l i ∈ l := by
  have : at_ e l i = l[i] := by simp [at_, h]
  rw [this]
  exact List.getElem_mem h
theorem at_eq {e : Ty} {l : List e.den} {i : Nat} (h : i < l.length) : at_ e l i = l[i] := by simp [at_, h]
/-- The same, over the elements of a list. -/
theorem loop_list {e : Ty} (l : List e.den) (mk : Nat → σ) (p : e.den → Bool) (x fin : ρ) (h1 : ∀ i, i < l.length → (step (mk i)).sel = bif p (at_ e l i) then .go (mk (i + 1)) else .out x) (h2 : (step (mk l.length)).sel = .out fin) :
    loopO step (mk 0) = some (bif l.all p then fin else x) := by
  rw [loop_all mk (fun i => p (at_ e l i)) x fin l.length h1 h2, range_all]
/-- A loop that makes a list out of a list. -/
theorem loop_map {e : Ty} (l : List e.den) {ρ : Type} {step : List β × Int → RT (List β × Int) ρ} (g : e.den → β) (out : List β → ρ)
    (h1 : ∀ (i : Nat) (r : List β), i < l.length → r.length = l.length → (step (r, (i : Int))).sel = .go (r.set i (g (at_ e l i)), ((i + 1 : Nat) : Int)))
    (h2 : ∀ r : List β, r.length = l.length → (step (r, (l.length : Int))).sel = .out (out r)) (r0 : List β) (h0 : r0.length = l.length) : loopO step (r0, 0) = some (out (l.map g)) := by
  have key : ∀ (k i : Nat) (r : List β), i + k = l.length → r.length = l.length → r.take i = (l.map g).take i → loopO step (r, (i : Int)) = some (out (l.map g)) := by
    intro k
    induction k with
    | zero =>
      intro i r hi hr ht
      have hi : i = l.length := by omega
      subst hi
      rw [loopO_eq, h2 r hr]
      have e1 : r.take l.length = r := by rw [← hr, List.take_length]
      have e2 : (l.map g).take l.length = l.map g := by rw [List.take_of_length_le (by simp)]
      rw [e1, e2] at ht
      rw [ht]
    | succ k ih =>
      intro i r hi hr ht
      rw [loopO_eq, h1 i r (by omega) hr]
      simp only
      refine ih (i + 1) _ (by omega) (by simp [hr]) ?_
      have hil : i < l.length := by omega
      rw [List.take_succ, List.take_succ, List.take_set_of_le (by omega), ht]
      congr 1
      simp [hr, hil, at_]
  exact key l.length 0 r0 (by omega) h0 (by simp)
/-- The sum of the sizes from i on. -/
def sumF (t : Nat → Nat) : Nat → Nat → Nat
  | 0, _ => 0
  | k + 1, i => t i + sumF t k (i + 1)
theorem sumF_le {t : Nat → Nat} : ∀ {k i j : Nat}, i ≤ j → j < i + k → t j ≤ sumF t k i
  | 0, i, j, h1, h2 => absurd h2 (by omega)
  | k + 1, i, j, h1, h2 => by
    unfold sumF
    by_cases e : i = j
    · subst e; omega
    · have := sumF_le (t := t) (k := k) (i := i + 1) (j := j) (by omega) (by omega)
      omega
/-- What is left of a number. -/
def left_ (t : Nat) (left : Int) : Int := if (t : Int) ≤ left then left - t else -1
theorem left_pos {t : Nat} {left : Int} (h : ¬ left_ t left < 0) : (t : Int) ≤ left := by
  unfold left_ at h
  split at h
  · assumption
  · exact absurd (by decide : (-1 : Int) < 0) h
/-- A loop that counts what is left. -/
theorem loop_sz {step : Int × Int → RT (Int × Int) ((Int × Int) ⊕ Int)} (t : Nat → Nat) (n : Nat) (h1 : ∀ (i : Nat) (left : Int), i < n → 0 ≤ left → left ≤ 1048576 → (step (left, (i : Int))).sel = bif decide ((t i : Int) ≤ left) then .go (left - t i, ((i + 1 : Nat) : Int)) else .out (.inl (-1, -1)))
    (h2 : ∀ left : Int, (step (left, (n : Int))).sel = .out (.inr left)) (left : Int) (h0 : 0 ≤ left) (hl : left ≤ 1048576) :
    ∃ r, loopO step (left, 0) = some r ∧ (bif isL r then (getL r).2 else getR r) = left_ (sumF t n 0) left := by
  have key : ∀ (k i : Nat) (left : Int), i + k = n → 0 ≤ left → left ≤ 1048576 → ∃ r, loopO step (left, (i : Int)) = some r ∧ (bif isL r then (getL r).2 else getR r) = left_ (sumF t k i) left := by
    intro k
    induction k with
    | zero =>
      intro i left hi h0 hl
      have hi : i = n := by omega
      subst hi
      refine ⟨.inr left, by rw [loopO_eq, h2], ?_⟩
      simp [isL, getR, left_, sumF, h0]
    | succ k ih =>
      intro i left hi h0 hl
      rw [loopO_eq, h1 i left (by omega) h0 hl]
      by_cases hc : (t i : Int) ≤ left
      · simp only [hc, decide_true, cond_true]
        obtain ⟨r, e1, e2⟩ := ih (i + 1) (left - t i) (by omega) (by omega) (by omega)
        refine ⟨r, e1, ?_⟩
        rw [e2]
        unfold left_
        have e3 : sumF t (k + 1) i = t i + sumF t k (i + 1) := rfl
        rw [e3]
        by_cases hc2 : (sumF t k (i + 1) : Int) ≤ left - t i
        · rw [if_pos hc2, if_pos (by omega)]; omega
        · rw [if_neg hc2, if_neg (by omega)]
      · simp only [hc, decide_false, cond_false]
        refine ⟨_, rfl, ?_⟩
        have e3 : sumF t (k + 1) i = t i + sumF t k (i + 1) := rfl
        simp only [isL, getL, cond_true, left_]
        rw [e3, if_neg (by omega)]
  exact key n 0 left (by omega) h0 hl
/-- A loop that looks for the first of which something is so. -/
theorem loop_idx {e : Ty} (l : List e.den) {step : Int → RT Int (Int ⊕ Unit)} (q : e.den → Bool) (h1 : ∀ i : Nat, i < l.length → (step (i : Int)).sel = bif q (at_ e l i) then .out (.inl (i : Int)) else .go ((i + 1 : Nat) : Int))
    (h2 : (step (l.length : Int)).sel = .out (.inr ())) : ∃ r, loopO step 0 = some r ∧ decide ((bif isL r then getL r else (-1 : Int)) ≥ 0) = l.any q := by
  have key : ∀ (k i : Nat), i + k = l.length → ∃ r, loopO step (i : Int) = some r ∧ decide ((bif isL r then getL r else (-1 : Int)) ≥ 0) = (l.drop i).any q := by
    intro k
    induction k with
    | zero =>
      intro i hi
      have hi : i = l.length := by omega
      subst hi
      refine ⟨_, by rw [loopO_eq, h2], ?_⟩
      simp [isL]
    | succ k ih =>
      intro i hi
      rw [loopO_eq, h1 i (by omega)]
      have hil : i < l.length := by omega
      rw [List.drop_eq_getElem_cons hil, List.any_cons, at_eq hil]
      cases hq : q l[i] with
      | true => exact ⟨_, rfl, by simp [isL, getL]⟩
      | false => simp only [cond_false, Bool.false_or]; exact ih (i + 1) (by omega)
  exact key l.length 0 (by omega)
end
theorem dropWhile_nil {α : Type} (p : α → Bool) (l : List α) : l.dropWhile p = [] ↔ ∀ x ∈ l, p x = true := by
  induction l with
  | nil => simp
  | cons a l ih =>
    by_cases h : p a = true
    · rw [List.dropWhile_cons_of_pos h, ih]; simp [h]
    · rw [List.dropWhile_cons_of_neg h]; simp [h]
theorem trimS_nil (l cs : List UInt8) : (Lib.trimS l cs = []) ↔ l.all (cs.contains ·) = true := by
  unfold Lib.trimS Lib.trimLeftS Lib.trimRightS
  constructor
  · intro h
    rw [dropWhile_nil] at h
    rw [List.all_eq_true]
    intro x hx
    have h2 : ∀ (m : List UInt8), (∀ y ∈ (m.dropWhile (cs.contains ·)).reverse, cs.contains y = true) → ∀ y ∈ m, cs.contains y = true := by
      intro m
      induction m with
      | nil => intro _ y hy; cases hy
      | cons a m ih =>
        intro hm y hy
        by_cases ha : cs.contains a = true
        · rw [List.dropWhile_cons_of_pos ha] at hm
          rcases List.mem_cons.1 hy with rfl | hy
          · exact ha
          · exact ih hm y hy
        · rw [List.dropWhile_cons_of_neg ha] at hm
          exact hm y (List.mem_reverse.2 hy)
    exact h2 l.reverse (fun y hy => h y hy) x (by simpa using hx)
  · intro h
    rw [List.all_eq_true] at h
    rw [dropWhile_nil]
    intro x hx
    have : x ∈ l := by
      have h3 := List.mem_reverse.1 hx
      have := (List.dropWhile_sublist (fun x => cs.contains x) (l := l.reverse)).subset h3
      simpa using this
    exact h x this
/-- The first place where p holds, or -1. -/
def idxF {α : Type} (p : α → Bool) (l : List α) : Int := match l.findIdx? p with | some i => (i : Int) | none => -1
def numOk (n : Int) : Bool := decide (0 ≤ n) && decide (n ≤ 9999)
def valOk (l : List Int) : Bool := decide (1 ≤ l.length) && decide (l.length ≤ 3) && l.all numOk
end Go.Proofs.YtopoiinmhajhmaaDoor.E
end
section
namespace Go.Proofs.YtopoiinmhajhmaaDoor.E
open Go
theorem byte_range (s : ByteArray) (i : Nat) : 0 ≤ byteAt s i ∧ byteAt s i < 256 := by
  unfold byteAt
  have := (s.data[i]?.getD 0).toNat_lt
  omega
theorem i_in_f (a b c : Int) : g_Ai_in a b c = true ∧ g_Vi_in_0 a b c = decide (b ≤ a ∧ a ≤ c) := by
  constructor
  · simp [g_Ai_in]
  · unfold g_Vi_in_0
    by_cases h : a ≥ b
    · simp [h]
    · simp [h]
theorem s_l1In_f (a b c : Int) : g_As_l1In a b c = true ∧ g_Vs_l1In_0 a b c = decide (b ≤ a ∧ a ≤ c) := by
  constructor
  · simp [g_As_l1In]
  · unfold g_Vs_l1In_0
    by_cases h : a ≥ b
    · simp [h]
    · simp [h]
def dig (b : UInt8) : Bool := decide (48 ≤ b.toNat ∧ b.toNat ≤ 57)
/-- A name: a small letter, and one or two digits. -/
def keyP (s : ByteArray) : Bool := decide (2 ≤ s.size ∧ s.size ≤ 3) && (decide (97 ≤ byteAt s 0 ∧ byteAt s 0 ≤ 122) && (s.data.toList.drop 1).all dig)
def valP (l : List Int) : Bool := decide (1 ≤ l.length ∧ l.length ≤ 3) && l.all fun n => decide (0 ≤ n ∧ n ≤ 9999)
def wrtP (k : ByteArray) (d : Bool) (l : List Int) : Bool := keyP k && bif d then l.isEmpty else valP l
theorem dig_mem (b : UInt8) : [48, 49, 50, 51, 52, 53, 54, 55, 56, 57].contains b = dig b := by
  have h : ∀ b : Fin 256, [48, 49, 50, 51, 52, 53, 54, 55, 56, 57].contains (UInt8.ofNat b.val) = dig (UInt8.ofNat b.val) := by decide +kernel
  have := h ⟨b.toNat, b.toNat_lt⟩
  simpa using this
theorem i_keyOk_f (s : ByteArray) : g_Ai_keyOk s = true ∧ g_Vi_keyOk_0 s = keyP s := by
  have hb := byte_range s 0
  have hw : IntKind.wrap .i64 (byteAt s 0) = byteAt s 0 := wrap64 (by omega)
  have e1 : ∀ n : Nat, decide ((2 : Int) ≤ (n : Int) ∧ (n : Int) ≤ 3) = decide (2 ≤ n ∧ n ≤ 3) := fun n => decide_eq_decide.2 (by omega)
  constructor
  · simp only [g_Ai_keyOk, (i_in_f _ _ _).1, (i_in_f _ _ _).2, hw, e1]
    by_cases h : 2 ≤ s.size ∧ s.size ≤ 3
    · have h1 : (0 : Int) < s.size := by omega
      have h2 : (1 : Int) ≤ s.size := by omega
      have h3 : (s.extract 1 s.size).size ≤ 9223372036854775807 := by rw [ByteArray.size_extract]; omega
      have h4 : g_ascii (lit [48, 49, 50, 51, 52, 53, 54, 55, 56, 57]) = true := by decide +kernel
      simp only [h, h1, h2, h3, h4, and_self, decide_true, Bool.true_and, Bool.and_true, Bool.not_true, Bool.false_or, Int.le_refl, Bool.or_true, show (0 : Int) ≤ 1 from by decide]
    · simp [h]
  · simp only [g_Vi_keyOk_0, (i_in_f _ _ _).2, hw, e1, keyP]
    have e2 : (ByteArray.toList (g_trim (s.extract 1 s.size) (lit [48, 49, 50, 51, 52, 53, 54, 55, 56, 57])) == []) = (s.data.toList.drop 1).all dig := by
      rw [ByteArray.toList_eq]
      show ((Lib.trimS (s.extract 1 s.size).data.toList [48, 49, 50, 51, 52, 53, 54, 55, 56, 57]) == []) = _
      have e3 : (s.extract 1 s.size).data.toList = s.data.toList.drop 1 := by
        simp only [ByteArray.data_extract, Array.toList_extract, List.extract_eq_take_drop]
        rw [List.take_of_length_le (by rw [List.length_drop, Array.length_toList]; exact Nat.le_refl _)]
      rw [e3, Bool.eq_iff_iff, beq_iff_eq]
      refine (trimS_nil (List.drop 1 s.data.toList) [48, 49, 50, 51, 52, 53, 54, 55, 56, 57]).trans ?_
      simp only [dig_mem]
    rw [e2]
    cases decide (2 ≤ s.size ∧ s.size ≤ 3) <;> cases decide (97 ≤ byteAt s 0 ∧ byteAt s 0 ≤ 122) <;> rfl
theorem s_l1Key_loop (s : ByteArray) (hs : s.size < 1000) (h1 : 1 ≤ s.size) : g_Ls_l1Key_0 s 1 = some (bif (s.data.toList.drop 1).all dig then .inr () else .inl false) := by
  have h := loop_all (step := g_Ss_l1Key_0 s) (fun i : Nat => ((i + 1 : Nat) : Int)) (fun i => dig ((s.data[i + 1]?).getD 0)) (Sum.inl false) (Sum.inr ()) (s.size - 1) (fun i hi => by
      have h1 : ((i + 1 : Nat) : Int) < s.size := by omega
      have h2 : (0 : Int) ≤ ((i + 1 : Nat) : Int) := by omega
      have hw : IntKind.wrap .i64 (((i + 1 : Nat) : Int) + 1) = ((i + 1 + 1 : Nat) : Int) := by rw [wrap64 (by omega)]; omega
      simp only [g_Ss_l1Key_0, RT.sel, cond_true, h1, h2, hw, decide_true, and_self, Int.toNat_natCast]
      have hb : byteAt s (i + 1) = (((s.data[i + 1]?).getD 0).toNat : Int) := rfl
      simp only [hb]
      generalize (s.data[i + 1]?).getD 0 = b
      unfold dig
      by_cases k1 : b.toNat < 48
      · have k2 : ¬ 48 ≤ b.toNat := by omega
        have k3 : (b.toNat : Int) < 48 := by omega
        simp [k2, k3]
      · have k2 : 48 ≤ b.toNat := by omega
        have k3 : ¬ (b.toNat : Int) < 48 := by omega
        by_cases k4 : b.toNat ≤ 57
        · have k5 : ¬ (b.toNat : Int) > 57 := by omega
          simp [k2, k3, k4, k5, RT.sel]
        · have k5 : (b.toNat : Int) > 57 := by omega
          simp [k2, k3, k4, k5, RT.sel]) (by
      have hn : ((s.size - 1 + 1 : Nat) : Int) = (s.size : Int) := by omega
      simp only [g_Ss_l1Key_0, RT.sel, hn, cond_true, Int.lt_irrefl, decide_false, cond_false])
  unfold g_Ls_l1Key_0
  refine Eq.trans h ?_
  congr 2
  rw [Bool.eq_iff_iff, List.all_eq_true, List.all_eq_true]
  have hsz : s.size = s.data.toList.length := Array.length_toList.symm
  constructor
  · intro h x hx
    obtain ⟨i, hi, rfl⟩ := List.getElem_of_mem hx
    have hi' : i + 1 < s.data.toList.length := by simp at hi ⊢; omega
    have := h i (List.mem_range.2 (by omega))
    have e : (s.data[i + 1]?).getD 0 = s.data.toList[i + 1] := by rw [Array.getElem?_eq_getElem (by simpa using hi')]; simp
    rw [e] at this
    simpa [Nat.add_comm] using this
  · intro h i hi
    have hi := List.mem_range.1 hi
    have hi' : i + 1 < s.data.toList.length := by omega
    have e : (s.data[i + 1]?).getD 0 = s.data.toList[i + 1] := by rw [Array.getElem?_eq_getElem (by simpa using hi')]; simp
    rw [e]
    refine h _ ?_
    rw [List.mem_iff_getElem]
    exact ⟨i, by simp at hi' ⊢; omega, by simp [Nat.add_comm]⟩
theorem s_l1Key_f (s : ByteArray) : g_As_l1Key s = true ∧ g_Vs_l1Key_0 s = keyP s := by
  have e1 : ∀ n : Nat, decide ((2 : Int) ≤ (n : Int) ∧ (n : Int) ≤ 3) = decide (2 ≤ n ∧ n ≤ 3) := fun n => decide_eq_decide.2 (by omega)
  by_cases h : 2 ≤ s.size ∧ s.size ≤ 3
  · have h0 : (0 : Int) < s.size := by omega
    have hl := s_l1Key_loop s (by omega) (by omega)
    constructor
    · simp only [g_As_l1Key, (s_l1In_f _ _ _).1, (s_l1In_f _ _ _).2, e1, hl, okO, h, h0, Option.isSome_some, and_self, decide_true, Bool.true_and, Bool.or_true, Int.le_refl]
    · simp only [g_Vs_l1Key_0, (s_l1In_f _ _ _).2, e1, hl, okO, valO, keyP, Option.getD_some]
      by_cases k1 : byteAt s 0 < 97
      · simp [h, k1, show ¬ (97 ≤ byteAt s 0) by omega]
      · by_cases k2 : byteAt s 0 > 122
        · simp [h, k1, k2, show ¬ (byteAt s 0 ≤ 122) by omega]
        · simp only [h, k1, k2, show 97 ≤ byteAt s 0 by omega, show byteAt s 0 ≤ 122 by omega]
          cases (s.data.toList.drop 1).all dig <;> rfl
  · constructor
    · simp only [g_As_l1Key, (s_l1In_f _ _ _).1, (s_l1In_f _ _ _).2, e1]
      simp [h]
    · simp only [g_Vs_l1Key_0, (s_l1In_f _ _ _).2, e1, keyP]
      simp [h]
theorem s_l1Val_loop (l : List Int) (hl : l.length ≤ 1048576) : g_Ls_l1Val_0 l 0 = some (bif l.all (fun n => decide (0 ≤ n ∧ n ≤ 9999)) then .inr () else .inl false) := by
  refine loop_list (ρ := Bool ⊕ Unit) (e := .int .i64) l (fun i : Nat => (i : Int)) (fun n => decide (0 ≤ n ∧ n ≤ 9999)) (Sum.inl false) (Sum.inr ()) (fun i hi => ?_) ?_
  · have h1 : (i : Int) < l.length := by omega
    have h2 : (0 : Int) ≤ (i : Int) := by omega
    have hw : IntKind.wrap .i64 ((i : Int) + 1) = ((i + 1 : Nat) : Int) := by rw [wrap64 (by omega)]; omega
    simp only [g_Ss_l1Val_0, RT.sel, cond_true, h1, h2, hw, decide_true, and_self, Int.toNat_natCast, (s_l1In_f _ _ _).1, (s_l1In_f _ _ _).2]
    cases decide (0 ≤ at_ (.int .i64) l i ∧ at_ (.int .i64) l i ≤ 9999) <;> rfl
  · simp [g_Ss_l1Val_0, RT.sel]
theorem s_l1Val_f (l : List Int) (hl : l.length ≤ 1048576) : g_As_l1Val l = true ∧ g_Vs_l1Val_0 l = valP l := by
  have hk := s_l1Val_loop l hl
  have e1 : decide ((1 : Int) ≤ (l.length : Int) ∧ (l.length : Int) ≤ 3) = decide (1 ≤ l.length ∧ l.length ≤ 3) := decide_eq_decide.2 (by omega)
  constructor
  · simp only [g_As_l1Val, hk, okO, valO, (s_l1In_f _ _ _).1]; simp
  · simp only [g_Vs_l1Val_0, hk, valO, (s_l1In_f _ _ _).2, e1, valP, Option.getD_some]
    cases l.all (fun n => decide (0 ≤ n ∧ n ≤ 9999)) <;> cases decide (1 ≤ l.length ∧ l.length ≤ 3) <;> rfl
theorem i_valOk_1_f (n : Int) : g_Ai_valOk_1 n = true ∧ g_Vi_valOk_1_0 n = !decide (0 ≤ n ∧ n ≤ 9999) := ⟨(i_in_f _ _ _).1, congrArg not (i_in_f _ _ _).2⟩
theorem i_valOk_f (l : List Int) (hl : l.length ≤ 1048576) : g_Ai_valOk l = true ∧ g_Vi_valOk_0 l = valP l := by
  obtain ⟨r, h1, h2⟩ := loop_idx (e := .int .i64) l (step := g_Sslices_IndexFunc_int_int__i_valOk_1_0 l (l.length : Int)) (fun n => !decide (0 ≤ n ∧ n ≤ 9999)) (fun i hi => by
    have h1 : (i : Int) < l.length := by omega
    have h2 : (0 : Int) ≤ (i : Int) := by omega
    have hw : IntKind.wrap .i64 ((i : Int) + 1) = ((i + 1 : Nat) : Int) := by rw [wrap64 (by omega)]; omega
    simp only [g_Sslices_IndexFunc_int_int__i_valOk_1_0, RT.sel, cond_true, h1, h2, hw, decide_true, and_self, Int.toNat_natCast, (i_valOk_1_f _).1, (i_valOk_1_f _).2]) (by simp [g_Sslices_IndexFunc_int_int__i_valOk_1_0, RT.sel])
  have h1 : g_Lslices_IndexFunc_int_int__i_valOk_1_0 l (l.length : Int) 0 = some r := h1
  have e1 : decide ((1 : Int) ≤ (l.length : Int) ∧ (l.length : Int) ≤ 3) = decide (1 ≤ l.length ∧ l.length ≤ 3) := decide_eq_decide.2 (by omega)
  constructor
  · simp [g_Ai_valOk, (i_in_f _ _ _).1, g_Aslices_ContainsFunc_int_int__i_valOk_1, g_Aslices_IndexFunc_int_int__i_valOk_1, h1, okO]
  · simp only [g_Vi_valOk_0, (i_in_f _ _ _).2, e1, g_Vslices_ContainsFunc_int_int__i_valOk_1_0, g_Vslices_IndexFunc_int_int__i_valOk_1_0, h1, valO, Option.getD_some, h2, valP]
    rw [show (l.any fun n => !decide (0 ≤ n ∧ n ≤ 9999)) = !(l.all fun n => decide (0 ≤ n ∧ n ≤ 9999)) by rw [List.not_all_eq_any_not], Bool.not_not]
    cases decide (1 ≤ l.length ∧ l.length ≤ 3) <;> rfl
theorem i_WrtOk_f (k : ByteArray) (d : Bool) (l : List Int) (hl : l.length ≤ 1048576) : g_Ai_WrtOk k d l = true ∧ g_Vi_WrtOk_0 k d l = wrtP k d l := by
  constructor
  · simp [g_Ai_WrtOk, (i_keyOk_f _).1, (i_valOk_f _ hl).1]
  · simp only [g_Vi_WrtOk_0, (i_keyOk_f _).2, (i_valOk_f _ hl).2, wrtP]
    cases d <;> cases keyP k <;> cases l <;> simp <;> omega
theorem s_WrtOk_f (k : ByteArray) (d : Bool) (l : List Int) (hl : l.length ≤ 1048576) : g_As_WrtOk k d l = true ∧ g_Vs_WrtOk_0 k d l = wrtP k d l := by
  constructor
  · simp [g_As_WrtOk, (s_l1Key_f _).1, (s_l1Val_f _ hl).1]
  · simp only [g_Vs_WrtOk_0, (s_l1Key_f _).2, (s_l1Val_f _ hl).2, wrtP]
    cases d <;> cases keyP k <;> cases l <;> simp <;> omega
end Go.Proofs.YtopoiinmhajhmaaDoor.E
end
section
namespace Go.Proofs.YtopoiinmhajhmaaDoor.E
open Go
theorem maxLen_lt {n : Nat} (h : n ≤ maxLen) : (n : Int) < 9223372036854775808 := by
  have : maxLen = 9223372036854775807 := by decide
  omega
/-- What is left, by steps. -/
theorem left_step {n : Nat} {left : Int} (h : (n : Int) < 9223372036854775808) (h0 : 0 ≤ left) (hl : left ≤ 1048576) : IntKind.wrap .i64 (left - (n : Int)) = left - n := wrap64 (by omega)
theorem left_two {a b : Nat} {left : Int} : (bif decide (left - (a : Int) < 0) then (-1 : Int) else left_ b (left - a)) = left_ (a + b) left := by
  unfold left_
  by_cases h : left - (a : Int) < 0
  · rw [decide_eq_true h, cond_true, if_neg (by omega)]
  · rw [decide_eq_false h, cond_false]
    by_cases h2 : (b : Int) ≤ left - a
    · rw [if_pos h2, if_pos (by omega)]; omega
    · rw [if_neg h2, if_neg (by omega)]
theorem left_neg (a : Nat) (left : Int) (h0 : 0 ≤ left) : (bif decide (left_ a left < 0) then (-1 : Int) else left_ a left) = left_ a left := by
  unfold left_
  split
  · rw [decide_eq_false (by omega), cond_false]
  · rfl
theorem left_dec (a : Nat) (left : Int) (h0 : 0 ≤ left) : decide (left_ a left < 0) = !decide ((a : Int) ≤ left) := by
  unfold left_
  by_cases h : (a : Int) ≤ left
  · rw [if_pos h, decide_eq_true h, decide_eq_false (by omega)]; rfl
  · rw [if_neg h, decide_eq_false h]; rfl
theorem left_val {a : Nat} {left : Int} (h : (a : Int) ≤ left) : left_ a left = left - a := if_pos h
theorem szIntS_f (l : List Int) (hl : l.length ≤ maxLen) (left : Int) (h0 : 0 ≤ left) (h1 : left ≤ 1048576) : g_Vw_szIntS_0 l left = left_ l.length left := by
  have := maxLen_lt hl
  unfold g_Vw_szIntS_0 left_
  rw [left_step this h0 h1]
  by_cases h : left - (l.length : Int) < 0
  · rw [decide_eq_true h, cond_true, if_neg (by omega)]
  · rw [decide_eq_false h, cond_false, if_pos (by omega)]
def szW (w : ByteArray × Bool × List Int) : Nat := w.1.size + w.2.2.length
def okW (w : ByteArray × Bool × List Int) : Prop := w.1.size ≤ maxLen ∧ True ∧ (w.2.2.length ≤ maxLen ∧ ∀ n ∈ w.2.2, (Lit.int .i64 n).wf = true)
theorem szStoWrite_f (k : ByteArray) (d : Bool) (l : List Int) (hk : k.size ≤ maxLen) (hl : l.length ≤ maxLen) (left : Int) (h0 : 0 ≤ left) (h1 : left ≤ 1048576) : g_Aw_szStoWrite k d l left = true ∧ g_Vw_szStoWrite_0 k d l left = left_ (k.size + l.length) left := by
  have := maxLen_lt hk
  constructor
  · simp [g_Aw_szStoWrite]
  · unfold g_Vw_szStoWrite_0
    rw [left_step this h0 h1]
    by_cases h : left - (k.size : Int) < 0
    · rw [decide_eq_true h, cond_true]
      unfold left_
      rw [if_neg (by omega)]
    · rw [szIntS_f l hl _ (by omega) (by omega), left_neg _ _ (by omega), left_two]
/-- A list whose sizes are counted. -/
def szL {α : Type} (z : α → Nat) (l : List α) : Nat := l.length + (l.map z).sum
theorem sumF_sum {e : Ty} (l : List e.den) (z : e.den → Nat) : sumF (fun i => z (at_ e l i)) l.length 0 = (l.map z).sum := by
  have key : ∀ (k i : Nat), i + k = l.length → sumF (fun i => z (at_ e l i)) k i = ((l.drop i).map z).sum := by
    intro k
    induction k with
    | zero => intro i hi; rw [List.drop_eq_nil_of_le (by omega)]; rfl
    | succ k ih =>
      intro i hi
      have hil : i < l.length := by omega
      unfold sumF
      rw [ih (i + 1) (by omega), List.drop_eq_getElem_cons hil, List.map_cons, List.sum_cons, at_eq hil]
  exact key l.length 0 (by omega)
theorem szStoWriteS_f (l : List (ByteArray × Bool × List Int)) (hl : l.length ≤ maxLen) (hok : ∀ w ∈ l, okW w) (left : Int) (h0 : 0 ≤ left) (h1 : left ≤ 1048576) : g_Aw_szStoWriteS l left = true ∧ g_Vw_szStoWriteS_0 l left = left_ (szL szW l) left := by
  have hm := maxLen_lt hl
  unfold g_Aw_szStoWriteS g_Vw_szStoWriteS_0
  rw [left_step hm h0 h1]
  by_cases h : left - (l.length : Int) < 0
  · rw [decide_eq_true h]
    refine ⟨rfl, ?_⟩
    unfold left_ szL
    rw [cond_true, if_neg (by omega)]
  · rw [decide_eq_false h]
    obtain ⟨r, e1, e2⟩ := loop_sz (step := g_Sw_szStoWriteS_0 l) (fun i => szW (at_ (.pair .str (.pair .bool (.sl 3 (.int .i64)))) l i)) l.length (fun i left hi h0 h1 => by
      have k1 : (i : Int) < l.length := by omega
      have k2 : (0 : Int) ≤ (i : Int) := by omega
      have hw : IntKind.wrap .i64 ((i : Int) + 1) = ((i + 1 : Nat) : Int) := by rw [wrap64 (by omega)]; omega
      have hit := hok _ (at_mem (e := .pair .str (.pair .bool (.sl 3 (.int .i64)))) hi)
      obtain ⟨q1, q2⟩ := szStoWrite_f (at_ (.pair .str (.pair .bool (.sl 3 (.int .i64)))) l i).1 (at_ (.pair .str (.pair .bool (.sl 3 (.int .i64)))) l i).2.1 (at_ (.pair .str (.pair .bool (.sl 3 (.int .i64)))) l i).2.2 hit.1 hit.2.2.1 left h0 h1
      have q2 : g_Vw_szStoWrite_0 (at_ (.pair .str (.pair .bool (.sl 3 (.int .i64)))) l i).1 (at_ (.pair .str (.pair .bool (.sl 3 (.int .i64)))) l i).2.1 (at_ (.pair .str (.pair .bool (.sl 3 (.int .i64)))) l i).2.2 left = left_ (szW (at_ (.pair .str (.pair .bool (.sl 3 (.int .i64)))) l i)) left := q2
      simp only [g_Sw_szStoWriteS_0, RT.sel, cond_true, k1, k2, hw, decide_true, and_self, Int.toNat_natCast, q1, q2, left_dec _ _ h0]
      by_cases hc : ((szW (at_ (.pair .str (.pair .bool (.sl 3 (.int .i64)))) l i) : Nat) : Int) ≤ left
      · simp only [decide_eq_true hc, Bool.not_true, cond_false, cond_true, left_val hc]
      · simp only [decide_eq_false hc, Bool.not_false, cond_true, cond_false]
        simp only [left_, if_neg hc]) (fun left => by simp [g_Sw_szStoWriteS_0, RT.sel]) (left - l.length) (by omega) (by omega)
    have e1 : g_Lw_szStoWriteS_0 l (left - l.length, 0) = some r := e1
    rw [e1]
    refine ⟨rfl, ?_⟩
    simp only [valO, Option.getD_some, cond_false]
    rw [e2, sumF_sum (e := .pair .str (.pair .bool (.sl 3 (.int .i64))))]
    show _ = left_ (l.length + (l.map szW).sum) left
    rw [← left_two, decide_eq_false h, cond_false]
theorem szStringS_f (l : List ByteArray) (hl : l.length ≤ maxLen) (hok : ∀ w ∈ l, w.size ≤ maxLen) (left : Int) (h0 : 0 ≤ left) (h1 : left ≤ 1048576) : g_Aw_szStringS l left = true ∧ g_Vw_szStringS_0 l left = left_ (szL ByteArray.size l) left := by
  have hm := maxLen_lt hl
  unfold g_Aw_szStringS g_Vw_szStringS_0
  rw [left_step hm h0 h1]
  by_cases h : left - (l.length : Int) < 0
  · rw [decide_eq_true h]
    refine ⟨rfl, ?_⟩
    unfold left_ szL
    rw [cond_true, if_neg (by omega)]
  · rw [decide_eq_false h]
    have key : ∃ r, loopO (g_Sw_szStringS_0 l) (left - l.length, 0) = some r ∧ (bif isL r then (getL r).2 else getR r) = left_ (l.map ByteArray.size).sum (left - l.length) := by
      have hfor := loop_for (step := g_Sw_szStringS_0 l) (fun (i : Nat) (a : Int) => (a, (i : Int))) (fun i a => if ((at_ .str l i).size : Int) ≤ a then .inl (a - (at_ .str l i).size) else .inr (.inl (a - (at_ .str l i).size, -1))) (fun a => .inr a) l.length (fun _ a => 0 ≤ a ∧ a ≤ 1048576) (fun i a hi ha => by
        have k1 : (i : Int) < l.length := by omega
        have k2 : (0 : Int) ≤ (i : Int) := by omega
        have hw : IntKind.wrap .i64 ((i : Int) + 1) = ((i + 1 : Nat) : Int) := by rw [wrap64 (by omega)]; omega
        have hit := maxLen_lt (hok _ (at_mem (e := .str) hi))
        have q1 := left_step hit ha.1 ha.2
        simp only [g_Sw_szStringS_0, RT.sel, cond_true, k1, k2, hw, decide_true, and_self, Int.toNat_natCast, q1]
        by_cases hc : ((at_ .str l i).size : Int) ≤ a
        · rw [if_pos hc, decide_eq_false (by omega)]
          exact ⟨rfl, fun a' e => by cases e; omega⟩
        · rw [if_neg hc, decide_eq_true (by omega)]
          exact ⟨rfl, fun a' e => by cases e⟩) (fun a _ => by simp [g_Sw_szStringS_0, RT.sel]) l.length 0 (left - l.length) (by omega) ⟨by omega, by omega⟩
      refine ⟨_, hfor, ?_⟩
      have hs : ∀ (k i : Nat) (a : Int), i + k = l.length → 0 ≤ a → (bif isL (forR (fun i a => if ((at_ .str l i).size : Int) ≤ a then .inl (a - (at_ .str l i).size) else .inr (.inl (a - (at_ .str l i).size, -1))) (fun a => (.inr a : (Int × Int) ⊕ Int)) k i a) then (getL (forR (fun i a => if ((at_ .str l i).size : Int) ≤ a then .inl (a - (at_ .str l i).size) else .inr (.inl (a - (at_ .str l i).size, -1))) (fun a => (.inr a : (Int × Int) ⊕ Int)) k i a)).2 else getR (forR (fun i a => if ((at_ .str l i).size : Int) ≤ a then .inl (a - (at_ .str l i).size) else .inr (.inl (a - (at_ .str l i).size, -1))) (fun a => (.inr a : (Int × Int) ⊕ Int)) k i a)) = left_ (sumF (fun i => (at_ .str l i).size) k i) a := by
        intro k
        induction k with
        | zero => intro i a _ h0; simp [forR, isL, getR, sumF, left_, h0]
        | succ k ih =>
          intro i a hi h0
          unfold forR sumF
          by_cases hc : ((at_ .str l i).size : Int) ≤ a
          · simp only [if_pos hc]
            rw [ih (i + 1) _ (by omega) (by omega), ← left_two, decide_eq_false (by omega), cond_false]
          · simp only [if_neg hc, isL, getL, cond_true]
            unfold left_
            rw [if_neg (by omega)]
      rw [hs l.length 0 _ (by omega) (by omega), sumF_sum (e := .str)]
    obtain ⟨r, e1, e2⟩ := key
    have e1 : g_Lw_szStringS_0 l (left - l.length, 0) = some r := e1
    rw [e1]
    refine ⟨rfl, ?_⟩
    simp only [valO, Option.getD_some, cond_false]
    rw [e2]
    show _ = left_ (l.length + (l.map ByteArray.size).sum) left
    rw [← left_two, decide_eq_false h, cond_false]
theorem szLogNote_f (k t : Int) (ls : List ByteArray) (ws : List (ByteArray × Bool × List Int)) (h2 : ls.length ≤ maxLen) (h3 : ∀ s ∈ ls, s.size ≤ maxLen) (h4 : ws.length ≤ maxLen) (h5 : ∀ w ∈ ws, okW w) (left : Int) (h0 : 0 ≤ left) (h1 : left ≤ 1048576) :
    g_Aw_szLogNote k t ls ws left = true ∧ g_Vw_szLogNote_0 k t ls ws left = left_ (szL ByteArray.size ls + szL szW ws) left := by
  obtain ⟨a1, a2⟩ := szStringS_f ls h2 h3 left h0 h1
  unfold g_Aw_szLogNote g_Vw_szLogNote_0
  rw [a1, a2, left_dec _ _ h0]
  by_cases hc : ((szL ByteArray.size ls : Nat) : Int) ≤ left
  · rw [decide_eq_true hc, left_val hc]
    obtain ⟨b1, b2⟩ := szStoWriteS_f ws h4 h5 (left - (szL ByteArray.size ls : Nat)) (by omega) (by omega)
    rw [b1, b2, left_neg _ _ (by omega), Bool.not_true, cond_false]
    refine ⟨rfl, ?_⟩
    rw [← left_two, decide_eq_false (by omega), cond_false]
  · rw [decide_eq_false hc]
    refine ⟨rfl, ?_⟩
    rw [Bool.not_false, cond_true]
    unfold left_
    rw [if_neg (by omega)]
/-! the same again -/
theorem toIntS_f (l : List Int) (hl : l.length ≤ 1048576) : g_Aw_toIntS l = true ∧ g_Vw_toIntS_0 l = l := by
  have h : g_Lw_toIntS_0 l (List.replicate (Int.toNat (l.length : Int)) 0, 0) = some (l.map id) := by
    refine loop_map (e := .int .i64) l id id (fun i r hi hr => ?_) (fun r hr => ?_) _ (by simp)
    · have k1 : (i : Int) < l.length := by omega
      have k2 : (0 : Int) ≤ (i : Int) := by omega
      have k3 : (i : Int) < r.length := by omega
      have k4 : i < r.length := by omega
      have hw : IntKind.wrap .i64 ((i : Int) + 1) = ((i + 1 : Nat) : Int) := by rw [wrap64 (by omega)]; omega
      simp only [g_Sw_toIntS_0, RT.sel, cond_true, k1, k2, k3, k4, hw, decide_true, and_self, Int.toNat_natCast, id]
    · simp [g_Sw_toIntS_0, RT.sel]
  rw [List.map_id] at h
  constructor
  · rw [Int.toNat_natCast] at h; simp [g_Aw_toIntS, h, okO]; omega
  · simp only [g_Vw_toIntS_0, h, valO, Option.getD_some]
theorem toStringS_f (l : List ByteArray) (hl : l.length ≤ 1048576) : g_Aw_toStringS l = true ∧ g_Vw_toStringS_0 l = l := by
  have h : g_Lw_toStringS_0 l (List.replicate (Int.toNat (l.length : Int)) (lit []), 0) = some (l.map id) := by
    refine loop_map (e := .str) l id id (fun i r hi hr => ?_) (fun r hr => ?_) _ (by simp)
    · have k1 : (i : Int) < l.length := by omega
      have k2 : (0 : Int) ≤ (i : Int) := by omega
      have k3 : (i : Int) < r.length := by omega
      have k4 : i < r.length := by omega
      have hw : IntKind.wrap .i64 ((i : Int) + 1) = ((i + 1 : Nat) : Int) := by rw [wrap64 (by omega)]; omega
      simp only [g_Sw_toStringS_0, RT.sel, cond_true, k1, k2, k3, k4, hw, decide_true, and_self, Int.toNat_natCast, id]
    · simp [g_Sw_toStringS_0, RT.sel]
  rw [List.map_id] at h
  constructor
  · rw [Int.toNat_natCast] at h; simp [g_Aw_toStringS, h, okO]; omega
  · simp only [g_Vw_toStringS_0, h, valO, Option.getD_some]
theorem toStoWriteS_f (l : List (ByteArray × Bool × List Int)) (hl : l.length ≤ 1048576) (hit : ∀ w ∈ l, w.2.2.length ≤ 1048576) : g_Aw_toStoWriteS l = true ∧ g_Vw_toStoWriteS_0 l = l := by
  have h : g_Lw_toStoWriteS_0 l (List.replicate (Int.toNat (l.length : Int)) (lit [], false, []), 0) = some (l.map id) := by
    refine loop_map (e := .pair .str (.pair .bool (.sl 3 (.int .i64)))) l id id (fun i r hi hr => ?_) (fun r hr => ?_) _ (by simp)
    · have k1 : (i : Int) < l.length := by omega
      have k2 : (0 : Int) ≤ (i : Int) := by omega
      have k3 : (i : Int) < r.length := by omega
      have k4 : i < r.length := by omega
      have hw : IntKind.wrap .i64 ((i : Int) + 1) = ((i + 1 : Nat) : Int) := by rw [wrap64 (by omega)]; omega
      obtain ⟨q1, q2⟩ := toIntS_f _ (hit _ (at_mem (e := .pair .str (.pair .bool (.sl 3 (.int .i64)))) hi))
      simp only [g_Sw_toStoWriteS_0, RT.sel, cond_true, k1, k2, k3, k4, hw, decide_true, and_self, Int.toNat_natCast, id, g_Aw_toStoWrite, q1, q2]
    · simp [g_Sw_toStoWriteS_0, RT.sel]
  rw [List.map_id] at h
  constructor
  · rw [Int.toNat_natCast] at h; simp [g_Aw_toStoWriteS, h, okO]; omega
  · simp only [g_Vw_toStoWriteS_0, h, valO, Option.getD_some]
theorem eqIntS_self (l : List Int) (hl : l.length ≤ 1048576) : g_Aw_eqIntS l l = true ∧ g_Vw_eqIntS_0 l l = true := by
  have h : g_Lw_eqIntS_0 l l 0 = some (.inr ()) := by
    have := loop_all (step := g_Sw_eqIntS_0 l l) (fun i : Nat => (i : Int)) (fun _ => true) (.inl false) (.inr ()) l.length (fun i hi => by
      have k1 : (i : Int) < l.length := by omega
      have k2 : (0 : Int) ≤ (i : Int) := by omega
      have hw : IntKind.wrap .i64 ((i : Int) + 1) = ((i + 1 : Nat) : Int) := by rw [wrap64 (by omega)]; omega
      simp only [g_Sw_eqIntS_0, RT.sel, cond_true, k1, k2, hw, decide_true, and_self, Int.toNat_natCast, bne_self_eq_false, cond_false]) (by simp [g_Sw_eqIntS_0, RT.sel])
    rw [show (List.range l.length).all (fun _ => true) = true by simp] at this
    exact this
  simp [g_Aw_eqIntS, g_Vw_eqIntS_0, h, okO, valO, isL]
theorem eqStringS_self (l : List ByteArray) (hl : l.length ≤ 1048576) : g_Aw_eqStringS l l = true ∧ g_Vw_eqStringS_0 l l = true := by
  have h : g_Lw_eqStringS_0 l l 0 = some (.inr ()) := by
    have := loop_all (step := g_Sw_eqStringS_0 l l) (fun i : Nat => (i : Int)) (fun _ => true) (.inl false) (.inr ()) l.length (fun i hi => by
      have k1 : (i : Int) < l.length := by omega
      have k2 : (0 : Int) ≤ (i : Int) := by omega
      have hw : IntKind.wrap .i64 ((i : Int) + 1) = ((i + 1 : Nat) : Int) := by rw [wrap64 (by omega)]; omega
      simp only [g_Sw_eqStringS_0, RT.sel, cond_true, k1, k2, hw, decide_true, and_self, Int.toNat_natCast, BEq.rfl, Bool.not_true, cond_false]) (by simp [g_Sw_eqStringS_0, RT.sel])
    rw [show (List.range l.length).all (fun _ => true) = true by simp] at this
    exact this
  simp [g_Aw_eqStringS, g_Vw_eqStringS_0, h, okO, valO, isL]
theorem eqStoWrite_self (k : ByteArray) (d : Bool) (l : List Int) (hl : l.length ≤ 1048576) : g_Aw_eqStoWrite k d l k d l = true ∧ g_Vw_eqStoWrite_0 k d l k d l = true := by
  obtain ⟨a, b⟩ := eqIntS_self l hl
  simp [g_Aw_eqStoWrite, g_Vw_eqStoWrite_0, a, b]
theorem eqStoWriteS_self (l : List (ByteArray × Bool × List Int)) (hl : l.length ≤ 1048576) (hit : ∀ w ∈ l, w.2.2.length ≤ 1048576) : g_Aw_eqStoWriteS l l = true ∧ g_Vw_eqStoWriteS_0 l l = true := by
  have h : g_Lw_eqStoWriteS_0 l l 0 = some (.inr ()) := by
    have := loop_all (step := g_Sw_eqStoWriteS_0 l l) (fun i : Nat => (i : Int)) (fun _ => true) (.inl false) (.inr ()) l.length (fun i hi => by
      have k1 : (i : Int) < l.length := by omega
      have k2 : (0 : Int) ≤ (i : Int) := by omega
      have hw : IntKind.wrap .i64 ((i : Int) + 1) = ((i + 1 : Nat) : Int) := by rw [wrap64 (by omega)]; omega
      obtain ⟨q1, q2⟩ := eqStoWrite_self (at_ (.pair .str (.pair .bool (.sl 3 (.int .i64)))) l i).1 (at_ (.pair .str (.pair .bool (.sl 3 (.int .i64)))) l i).2.1 _ (hit _ (at_mem (e := .pair .str (.pair .bool (.sl 3 (.int .i64)))) hi))
      simp only [g_Sw_eqStoWriteS_0, RT.sel, cond_true, k1, k2, hw, decide_true, and_self, Int.toNat_natCast, q1, q2, Bool.not_true, cond_false]) (by simp [g_Sw_eqStoWriteS_0, RT.sel])
    rw [show (List.range l.length).all (fun _ => true) = true by simp] at this
    exact this
  simp [g_Aw_eqStoWriteS, g_Vw_eqStoWriteS_0, h, okO, valO, isL]
theorem szL_len {α : Type} {z : α → Nat} {l : List α} {B : Nat} (h : szL z l ≤ B) : l.length ≤ B ∧ ∀ x ∈ l, z x ≤ B := by
  unfold szL at h
  refine ⟨by omega, fun x hx => ?_⟩
  have key : ∀ l : List α, x ∈ l → z x ≤ (l.map z).sum := by
    intro l
    induction l with
    | nil => intro h; cases h
    | cons a l ih =>
      intro h
      rw [List.map_cons, List.sum_cons]
      rcases List.mem_cons.1 h with rfl | h
      · omega
      · have := ih h; omega
  have := key l hx
  omega
end Go.Proofs.YtopoiinmhajhmaaDoor.E
end
section
namespace Go.Proofs.YtopoiinmhajhmaaDoor.E
open Go
def lessB (a b : ByteArray) : Bool := Go.Op.bytesLess a.toList b.toList
theorem leq_not : ∀ a b : List UInt8, (Go.Op.bytesLess a b || a == b) = !(Go.Op.bytesLess b a)
  | [], [] => rfl
  | [], _ :: _ => rfl
  | _ :: _, [] => rfl
  | a :: x, b :: y => by
    have ih := leq_not x y
    simp only [Go.Op.bytesLess]
    rcases Nat.lt_trichotomy a.toNat b.toNat with h | h | h
    · have h1 : decide (a < b) = true := decide_eq_true (UInt8.lt_iff_toNat_lt.2 h)
      have h2 : decide (b < a) = false := decide_eq_false (fun e => by have := UInt8.lt_iff_toNat_lt.1 e; omega)
      have h3 : (b == a) = false := by rw [beq_eq_false_iff_ne]; rintro rfl; omega
      simp [h1, h2, h3]
    · obtain rfl : a = b := UInt8.toNat_inj.1 h
      have h1 : decide (a < a) = false := decide_eq_false (fun e => by have := UInt8.lt_iff_toNat_lt.1 e; omega)
      have h2 : (a :: x == a :: y) = (x == y) := by simp
      rw [h2, h1]
      simpa using ih
    · have h1 : decide (a < b) = false := decide_eq_false (fun e => by have := UInt8.lt_iff_toNat_lt.1 e; omega)
      have h2 : decide (b < a) = true := decide_eq_true (UInt8.lt_iff_toNat_lt.2 h)
      have h3 : (a == b) = false := by rw [beq_eq_false_iff_ne]; rintro rfl; omega
      have h4 : (a :: x == b :: y) = false := by rw [beq_eq_false_iff_ne]; intro e; injection e with e1 _; subst e1; omega
      rw [h1, h2, h3, h4]
      simp
/-- What '<=' and '>=' of strings come to, as the walk spells them. -/
abbrev TI_ : Ty := .pair .str (.sl 3 (.int .i64))
/-- Names rise. -/
def risesP (l : List (ByteArray × List Int)) (i : Nat) : Bool := decide (i = 0) || Op.bytesLess (at_ TI_ l (i - 1)).1.toList (at_ TI_ l i).1.toList
def itemP (l : List (ByteArray × List Int)) (i : Nat) : Bool := keyP (at_ TI_ l i).1 && (valP (at_ TI_ l i).2 && risesP l i)
/-- What is kept is ok. -/
def storeP (l : List (ByteArray × List Int)) : Bool := decide (l.length ≤ 40) && (List.range l.length).all (itemP l)
def okI (x : ByteArray × List Int) : Prop := x.1.size ≤ maxLen ∧ (x.2.length ≤ maxLen ∧ ∀ n ∈ x.2, (Lit.int .i64 n).wf = true)
def szI (x : ByteArray × List Int) : Nat := x.1.size + x.2.length
theorem s_StoOk_loop (l : List (ByteArray × List Int)) (hl : l.length ≤ 1048576) (hit : ∀ x ∈ l, x.2.length ≤ 1048576) : g_Ls_StoOk_0 l 0 = some (bif (List.range l.length).all (itemP l) then .inr () else .inl false) := by
  refine loop_all (ρ := Bool ⊕ Unit) (step := g_Ss_StoOk_0 l) (fun i : Nat => (i : Int)) (itemP l) (Sum.inl false) (Sum.inr ()) l.length (fun i hi => ?_) ?_
  · have k1 : (i : Int) < l.length := by omega
    have k2 : (0 : Int) ≤ (i : Int) := by omega
    have hw : IntKind.wrap .i64 ((i : Int) + 1) = ((i + 1 : Nat) : Int) := by rw [wrap64 (by omega)]; omega
    obtain ⟨q1, q2⟩ := s_l1Val_f (at_ TI_ l i).2 (hit _ (at_mem (e := TI_) hi))
    simp only [g_Ss_StoOk_0, RT.sel, cond_true, k1, k2, hw, decide_true, and_self, Int.toNat_natCast, (s_l1Key_f _).1, (s_l1Key_f _).2, q1, q2, itemP, risesP]
    generalize keyP (at_ TI_ l i).1 = p
    generalize valP (at_ TI_ l i).2 = q
    by_cases h0 : i = 0
    · subst h0
      cases p <;> cases q <;> simp [RT.sel]
    · have h1 : (i : Int) > 0 := by omega
      have h2 : IntKind.wrap .i64 ((i : Int) - 1) = ((i - 1 : Nat) : Int) := by rw [wrap64 (by omega)]; omega
      have h3 : (0 : Int) ≤ ((i - 1 : Nat) : Int) ∧ ((i - 1 : Nat) : Int) < l.length := by omega
      simp only [h1, h2, h3, decide_true, cond_true, and_self, Int.toNat_natCast, RT.sel, h0, decide_false, Bool.false_or]
      generalize Op.bytesLess _ _ = r
      cases p <;> cases q <;> cases r <;> rfl
  · simp [g_Ss_StoOk_0, RT.sel]
theorem i_StoOk_loop (l : List (ByteArray × List Int)) (hl : l.length ≤ 1048576) (hit : ∀ x ∈ l, x.2.length ≤ 1048576) : g_Li_StoOk_0 l (l.length : Int) l 0 = some (bif (List.range l.length).all (itemP l) then .inr () else .inl false) := by
  refine loop_all (ρ := Bool ⊕ Unit) (step := g_Si_StoOk_0 l (l.length : Int) l) (fun i : Nat => (i : Int)) (itemP l) (Sum.inl false) (Sum.inr ()) l.length (fun i hi => ?_) ?_
  · have k1 : (i : Int) < l.length := by omega
    have k2 : (0 : Int) ≤ (i : Int) := by omega
    have hw : IntKind.wrap .i64 ((i : Int) + 1) = ((i + 1 : Nat) : Int) := by rw [wrap64 (by omega)]; omega
    obtain ⟨q1, q2⟩ := i_valOk_f (at_ TI_ l i).2 (hit _ (at_mem (e := TI_) hi))
    simp only [g_Si_StoOk_0, RT.sel, cond_true, k1, k2, hw, decide_true, and_self, Int.toNat_natCast, (i_keyOk_f _).1, (i_keyOk_f _).2, q1, q2, itemP, risesP, leq_not]
    generalize keyP (at_ TI_ l i).1 = p
    generalize valP (at_ TI_ l i).2 = q
    by_cases h0 : i = 0
    · subst h0
      cases p <;> cases q <;> simp [RT.sel]
    · have h1 : (i : Int) > 0 := by omega
      have h2 : IntKind.wrap .i64 ((i : Int) - 1) = ((i - 1 : Nat) : Int) := by rw [wrap64 (by omega)]; omega
      have h3 : (0 : Int) ≤ ((i - 1 : Nat) : Int) ∧ ((i - 1 : Nat) : Int) < l.length := by omega
      simp only [h1, h2, h3, decide_true, cond_true, and_self, Int.toNat_natCast, RT.sel, h0, decide_false, Bool.false_or]
      generalize Op.bytesLess _ _ = r
      cases p <;> cases q <;> cases r <;> rfl
  · simp [g_Si_StoOk_0, RT.sel]
theorem s_StoOk_f (l : List (ByteArray × List Int)) (hl : l.length ≤ 1048576) (hit : ∀ x ∈ l, x.2.length ≤ 1048576) : g_As_StoOk l = true ∧ g_Vs_StoOk_0 l = storeP l := by
  have h := s_StoOk_loop l hl hit
  have e2 : decide ((l.length : Int) > 40) = !decide (l.length ≤ 40) := by rw [Bool.eq_iff_iff]; simp; omega
  constructor
  · simp [g_As_StoOk, h, okO]
  · simp only [g_Vs_StoOk_0, h, valO, Option.getD_some, e2, storeP]
    cases (List.range l.length).all (itemP l) <;> cases decide (l.length ≤ 40) <;> rfl
theorem i_StoOk_f (l : List (ByteArray × List Int)) (hl : l.length ≤ 1048576) (hit : ∀ x ∈ l, x.2.length ≤ 1048576) : g_Ai_StoOk l = true ∧ g_Vi_StoOk_0 l = storeP l := by
  have h := i_StoOk_loop l hl hit
  have e2 : decide ((l.length : Int) ≤ 40) = decide (l.length ≤ 40) := decide_eq_decide.2 (by omega)
  constructor
  · simp [g_Ai_StoOk, h, okO]
  · simp only [g_Vi_StoOk_0, h, valO, Option.getD_some, e2, storeP]
    cases (List.range l.length).all (itemP l) <;> cases decide (l.length ≤ 40) <;> rfl
/-! what a place may keep -/
/-- What one item of a place is: c: its letter, d: is it one digit, v: its numbers. -/
def placeP (place : Int) (x : ByteArray × List Int) : Bool :=
  let c := byteAt x.1 0
  let n := x.2.length
  let who := at_ (.int .i64) x.2 0
  bif decide (place = 1) then decide (c = 115) && (decide (x.1.size = 2) && (decide (n = 1) && decide (who ≤ 9)))
  else bif decide (place = 2) then decide (x.1.size = 2) && (decide (who ≤ 9) && ((decide (c = 99) && decide (n = 2)) || (decide (c = 102) && (decide (n = 3) && (decide (1 ≤ at_ (.int .i64) x.2 1 ∧ at_ (.int .i64) x.2 1 ≤ 99) && decide (at_ (.int .i64) x.2 2 ≤ 1))))))
  else bif decide (place = 3) then decide (c = 97) && decide (n = 1) else false
/-- Of an item that is ok. -/
structure ItemOk (x : ByteArray × List Int) : Prop where
  size : 2 ≤ x.1.size ∧ x.1.size ≤ 3
  len : 1 ≤ x.2.length ∧ x.2.length ≤ 3
  pos : ∀ i, i < x.2.length → 0 ≤ at_ (.int .i64) x.2 i
theorem itemOk_of {x : ByteArray × List Int} (h1 : keyP x.1 = true) (h2 : valP x.2 = true) : ItemOk x := by
  simp only [keyP, valP, Bool.and_eq_true, decide_eq_true_eq, List.all_eq_true] at h1 h2
  exact ⟨h1.1, h2.1, fun i hi => (h2.2 _ (at_mem (e := .int .i64) hi)).1⟩
theorem i_itemOk_f (place : Int) (x : ByteArray × List Int) (h : ItemOk x) : g_Ai_itemOk place x.1 x.2 = true ∧ g_Vi_itemOk_0 place x.1 x.2 = placeP place x := by
  obtain ⟨k, v⟩ := x
  obtain ⟨hs, hl, hp⟩ := h
  simp only at hs hl hp ⊢
  have k0 : (0 : Int) < (k.size : Int) := by omega
  have k1 : (0 : Int) < (v.length : Int) := by omega
  have p0 := hp 0 (by omega)
  have e0 : decide ((0 : Int) ≤ at_ (.int .i64) v 0 ∧ at_ (.int .i64) v 0 ≤ 9) = decide (at_ (.int .i64) v 0 ≤ 9) := decide_eq_decide.2 ⟨fun h => h.2, fun h => ⟨p0, h⟩⟩
  have es : ((k.size : Int) == 2) = decide (k.size = 2) := by rw [Bool.eq_iff_iff]; simp; omega
  have e1 : ((v.length : Int) == 1) = decide (v.length = 1) := by rw [Bool.eq_iff_iff]; simp; omega
  have e2 : ((v.length : Int) == 2) = decide (v.length = 2) := by rw [Bool.eq_iff_iff]; simp; omega
  have e3 : ((v.length : Int) == 3) = decide (v.length = 3) := by rw [Bool.eq_iff_iff]; simp; omega
  have i1 : ∀ a b : Int, (a == b) = decide (a = b) := fun _ _ => rfl
  constructor
  · simp only [g_Ai_itemOk, k0, k1, (i_in_f _ _ _).1, (i_in_f _ _ _).2, es, e1, e2, e3, Int.le_refl, decide_true, and_self, Bool.true_and, Bool.or_true, Bool.and_true]
    by_cases h3 : v.length = 3
    · have k2 : (1 : Int) < (v.length : Int) := by omega
      have k3 : (2 : Int) < (v.length : Int) := by omega
      simp [k2, k3]
    · simp [h3]
  · simp only [g_Vi_itemOk_0, (i_in_f _ _ _).2, es, e0, e1, e2, e3, placeP, i1]
    by_cases p1 : place = 1
    · subst p1
      simp only [decide_true, cond_true]
      generalize decide (byteAt k 0 = 115) = b1
      generalize decide (k.size = 2) = b2
      generalize decide (v.length = 1) = b3
      generalize decide (at_ (.int .i64) v 0 ≤ 9) = b4
      cases b1 <;> cases b2 <;> cases b3 <;> cases b4 <;> rfl
    · by_cases p2 : place = 2
      · subst p2
        simp only [decide_true, cond_true, show ¬ ((2 : Int) = 1) by decide, decide_false, cond_false]
        have c1 : byteAt k 0 = 99 → decide (byteAt k 0 = 102) = false := fun h => by rw [h]; rfl
        have c2 : v.length = 3 → decide (v.length = 2) = false := fun h => by rw [h]; rfl
        by_cases hc : byteAt k 0 = 99
        · rw [c1 hc, decide_eq_true hc]
          generalize decide (k.size = 2) = b2
          generalize decide (v.length = 2) = b3
          generalize decide (at_ (.int .i64) v 0 ≤ 9) = b4
          cases b2 <;> cases b3 <;> cases b4 <;> simp
        · rw [decide_eq_false hc]
          generalize decide (byteAt k 0 = 102) = b1
          by_cases h3 : v.length = 3
          · rw [c2 h3, decide_eq_true h3]
            generalize decide (k.size = 2) = b2
            generalize decide (at_ (.int .i64) v 0 ≤ 9) = b4
            generalize decide (1 ≤ at_ (.int .i64) v 1 ∧ at_ (.int .i64) v 1 ≤ 99) = b5
            generalize decide (at_ (.int .i64) v 2 ≤ 1) = b6
            cases b1 <;> cases b2 <;> cases b4 <;> cases b5 <;> cases b6 <;> rfl
          · rw [decide_eq_false h3]
            generalize decide (v.length = 2) = b3
            generalize decide (k.size = 2) = b2
            generalize decide (at_ (.int .i64) v 0 ≤ 9) = b4
            cases b1 <;> cases b2 <;> cases b3 <;> cases b4 <;> rfl
      · simp only [p1, p2, decide_false, cond_false]
        generalize decide (place = 3) = b0
        generalize decide (byteAt k 0 = 97) = b1
        generalize decide (v.length = 1) = b3
        cases b0 <;> cases b1 <;> cases b3 <;> rfl
end Go.Proofs.YtopoiinmhajhmaaDoor.E
end
section
namespace Go.Proofs.YtopoiinmhajhmaaDoor.E
open Go
set_option maxHeartbeats 4000000
theorem l3_step (place : Int) (hpl : place = 1 ∨ place = 2 ∨ place = 3) (l : List (ByteArray × List Int)) (hl : l.length ≤ 1048576) (i : Nat) (hi : i < l.length) (h : ItemOk (at_ TI_ l i)) :
    (g_Ss_l3Form_0 place l (i : Int)).sel = bif placeP place (at_ TI_ l i) then .go ((i + 1 : Nat) : Int) else .out (.inl false) := by
  have k1 : (i : Int) < l.length := by omega
  have k2 : (0 : Int) ≤ (i : Int) := by omega
  have hw : IntKind.wrap .i64 ((i : Int) + 1) = ((i + 1 : Nat) : Int) := by rw [wrap64 (by omega)]; omega
  have hto : (i : Int).toNat = i := Int.toNat_natCast i
  unfold g_Ss_l3Form_0
  dsimp only
  rw [hto]
  obtain ⟨hs, hn, hp⟩ := h
  unfold placeP
  generalize hX : at_ TI_ l i = X at hs hn hp ⊢
  obtain ⟨k, v⟩ := X
  simp only at hs hn hp ⊢
  have a1 : (0 : Int) < (k.size : Int) := by omega
  have a2 : (0 : Int) < (v.length : Int) := by omega
  have i1 : ∀ a b : Int, (a == b) = decide (a = b) := fun _ _ => rfl
  have i2 : ∀ a b : Int, (a != b) = !decide (a = b) := fun _ _ => rfl
  have es : decide ((k.size : Int) = 2) = decide (k.size = 2) := decide_eq_decide.2 (by omega)
  have e1 : decide ((v.length : Int) = 1) = decide (v.length = 1) := decide_eq_decide.2 (by omega)
  have e2 : decide ((v.length : Int) = 2) = decide (v.length = 2) := decide_eq_decide.2 (by omega)
  have e3 : decide ((v.length : Int) = 3) = decide (v.length = 3) := decide_eq_decide.2 (by omega)
  have hc : byteAt k 0 = 115 ∨ byteAt k 0 = 97 ∨ byteAt k 0 = 99 ∨ byteAt k 0 = 102 ∨ (byteAt k 0 ≠ 115 ∧ byteAt k 0 ≠ 97 ∧ byteAt k 0 ≠ 99 ∧ byteAt k 0 ≠ 102) := by omega
  have hv : v.length = 1 ∨ v.length = 2 ∨ v.length = 3 := by omega
  generalize byteAt k 0 = c at hc ⊢
  generalize at_ (.int .i64) v 0 = w0
  generalize at_ (.int .i64) v 1 = w1
  generalize at_ (.int .i64) v 2 = w2
  rcases hpl with rfl | rfl | rfl
  · simp only [RT.sel, cond_true, cond_false, k1, k2, hw, a1, a2, decide_true, and_self, Int.le_refl, i1, i2, es, e1, e2, e3, decide_false, Bool.not_true, Bool.not_false, show ¬ ((1 : Int) = 2) by decide, show ¬ ((1 : Int) = 3) by decide]
    rcases hc with rfl | rfl | rfl | rfl | ⟨c1, c2, c3, c4⟩
    all_goals simp only [*, RT.sel, cond_true, cond_false, decide_true, decide_false, Bool.not_true, Bool.not_false, Bool.false_and, Bool.true_and, show ¬ ((97 : Int) = 115) by decide, show ¬ ((99 : Int) = 115) by decide, show ¬ ((102 : Int) = 115) by decide, show ¬ ((115 : Int) = 97) by decide, show ¬ ((99 : Int) = 97) by decide, show ¬ ((102 : Int) = 97) by decide]
    all_goals (generalize decide (k.size = 2) = b2; generalize decide (v.length = 1) = b3; generalize decide (w0 ≤ 9) = b4; cases b2 <;> cases b3 <;> cases b4 <;> rfl)
  · have hv' : v.length = 1 ∨ v.length = 2 ∨ v.length = 3 := hv
    simp only [RT.sel, cond_true, cond_false, k1, k2, hw, a1, a2, decide_true, and_self, Int.le_refl, i1, i2, es, e1, e2, e3, decide_false, Bool.not_true, Bool.not_false, show ¬ ((2 : Int) = 1) by decide, show ¬ ((2 : Int) = 3) by decide, (s_l1In_f _ _ _).1, (s_l1In_f _ _ _).2, Bool.false_and, Bool.true_and]
    have x1 : v.length = 1 → decide ((0 : Int) ≤ 1 ∧ (1 : Int) < (v.length : Int)) = false ∧ decide (v.length = 2) = false ∧ decide (v.length = 3) = false := fun h => by rw [h]; exact ⟨rfl, rfl, rfl⟩
    have x2 : v.length = 2 → decide (v.length = 2) = true ∧ decide (v.length = 3) = false := fun h => by rw [h]; exact ⟨rfl, rfl⟩
    have x3 : v.length = 3 → decide ((0 : Int) ≤ 1 ∧ (1 : Int) < (v.length : Int)) = true ∧ decide ((0 : Int) ≤ 2 ∧ (2 : Int) < (v.length : Int)) = true ∧ decide (v.length = 2) = false ∧ decide (v.length = 3) = true := fun h => by rw [h]; exact ⟨rfl, rfl, rfl, rfl⟩
    rcases hc with rfl | rfl | rfl | rfl | ⟨c1, c2, c3, c4⟩
    all_goals simp only [*, RT.sel, cond_true, cond_false, decide_true, decide_false, Bool.not_true, Bool.not_false, Bool.false_and, Bool.true_and, Bool.or_false, Bool.false_or, Bool.and_false, show ¬ ((97 : Int) = 99) by decide, show ¬ ((97 : Int) = 102) by decide, show ¬ ((99 : Int) = 102) by decide, show ¬ ((102 : Int) = 99) by decide, show ¬ ((115 : Int) = 99) by decide, show ¬ ((115 : Int) = 102) by decide, show ¬ ((115 : Int) = 97) by decide, show ¬ ((99 : Int) = 97) by decide, show ¬ ((102 : Int) = 97) by decide]
    all_goals (
      rcases hv' with hn1 | hn1 | hn1
      · have y := x1 hn1
        try simp only [y.1, y.2.1, y.2.2, RT.sel, cond_true, cond_false, Bool.false_and, Bool.and_false, Bool.or_false, Bool.false_or]
        generalize decide (k.size = 2) = b2; generalize decide (w0 ≤ 9) = b4; generalize decide (1 ≤ w1 ∧ w1 ≤ 99) = b5; generalize decide (w2 ≤ 1) = b6; cases b2 <;> cases b4 <;> cases b5 <;> cases b6 <;> rfl
      · have y := x2 hn1
        try simp only [y.1, y.2, RT.sel, cond_true, cond_false, Bool.true_and, Bool.false_and, Bool.and_false, Bool.or_false, Bool.false_or]
        generalize decide (k.size = 2) = b2; generalize decide (w0 ≤ 9) = b4; generalize decide (1 ≤ w1 ∧ w1 ≤ 99) = b5; generalize decide (w2 ≤ 1) = b6; cases b2 <;> cases b4 <;> cases b5 <;> cases b6 <;> rfl
      · have y := x3 hn1
        try simp only [y.1, y.2.1, y.2.2.1, y.2.2.2, RT.sel, cond_true, cond_false, Bool.true_and, Bool.false_and, Bool.and_false, Bool.or_false, Bool.false_or]
        generalize decide (k.size = 2) = b2; generalize decide (w0 ≤ 9) = b4; generalize decide (1 ≤ w1 ∧ w1 ≤ 99) = b5; generalize decide (w2 ≤ 1) = b6; cases b2 <;> cases b4 <;> cases b5 <;> cases b6 <;> rfl)
  · simp only [RT.sel, cond_true, cond_false, k1, k2, hw, a1, a2, decide_true, and_self, Int.le_refl, i1, i2, es, e1, e2, e3, decide_false, Bool.not_true, Bool.not_false, show ¬ ((3 : Int) = 1) by decide, show ¬ ((3 : Int) = 2) by decide]
    rcases hc with rfl | rfl | rfl | rfl | ⟨c1, c2, c3, c4⟩
    all_goals simp only [*, RT.sel, cond_true, cond_false, decide_true, decide_false, Bool.not_true, Bool.not_false, Bool.false_and, Bool.true_and, show ¬ ((115 : Int) = 97) by decide, show ¬ ((99 : Int) = 97) by decide, show ¬ ((102 : Int) = 97) by decide]
    all_goals (generalize decide (v.length = 1) = b3; generalize decide (k.size = 2) = b2; cases b2 <;> cases b3 <;> rfl)
end Go.Proofs.YtopoiinmhajhmaaDoor.E
end
section
namespace Go.Proofs.YtopoiinmhajhmaaDoor.E
open Go
/-- What a place keeps is what it may keep. -/
def plcP (place : Int) (l : List (ByteArray × List Int)) : Bool := decide (1 ≤ place ∧ place ≤ 3) && (storeP l && l.all (placeP place))
theorem storeP_item {l : List (ByteArray × List Int)} (h : storeP l = true) : ∀ x ∈ l, ItemOk x := by
  intro x hx
  simp only [storeP, Bool.and_eq_true, List.all_eq_true, itemP] at h
  obtain ⟨i, hi, rfl⟩ := List.getElem_of_mem hx
  have := h.2 i (List.mem_range.2 hi)
  rw [at_eq (e := TI_) hi] at this
  exact itemOk_of this.1 this.2.1
theorem storeP_len {l : List (ByteArray × List Int)} (h : storeP l = true) : l.length ≤ 40 := by
  simp only [storeP, Bool.and_eq_true, decide_eq_true_eq] at h
  exact h.1
theorem l3Form_f (place : Int) (hpl : place = 1 ∨ place = 2 ∨ place = 3) (l : List (ByteArray × List Int)) (hl : l.length ≤ 1048576) (hit : ∀ x ∈ l, ItemOk x) : g_As_l3Form place l = true ∧ g_Vs_l3Form_0 place l = l.all (placeP place) := by
  have h : g_Ls_l3Form_0 place l 0 = some (bif l.all (placeP place) then .inr () else .inl false) :=
    loop_list (ρ := Bool ⊕ Unit) (e := TI_) l (step := g_Ss_l3Form_0 place l) (fun i : Nat => (i : Int)) (placeP place) (Sum.inl false) (Sum.inr ()) (fun i hi => l3_step place hpl l hl i hi (hit _ (at_mem (e := TI_) hi))) (by
      unfold g_Ss_l3Form_0
      dsimp only
      rw [show decide ((l.length : Int) < (l.length : Int)) = false by simp]
      rfl)
  constructor
  · simp [g_As_l3Form, h, okO]
  · simp only [g_Vs_l3Form_0, h, valO, Option.getD_some]
    cases l.all (placeP place) <;> rfl
theorem place_cases {place : Int} (h : 1 ≤ place ∧ place ≤ 3) : place = 1 ∨ place = 2 ∨ place = 3 := by omega
theorem s_PlcOk_f (place : Int) (l : List (ByteArray × List Int)) (hl : l.length ≤ 1048576) (hit : ∀ x ∈ l, x.2.length ≤ 1048576) : g_As_PlcOk place l = true ∧ g_Vs_PlcOk_0 place l = plcP place l := by
  obtain ⟨a1, a2⟩ := s_StoOk_f l hl hit
  by_cases hp : 1 ≤ place ∧ place ≤ 3
  · by_cases hs : storeP l = true
    · obtain ⟨b1, b2⟩ := l3Form_f place (place_cases hp) l hl (storeP_item hs)
      simp [g_As_PlcOk, g_Vs_PlcOk_0, (s_l1In_f _ _ _).1, (s_l1In_f _ _ _).2, a1, a2, b1, b2, hp, hs, plcP]
    · simp [g_As_PlcOk, g_Vs_PlcOk_0, (s_l1In_f _ _ _).1, (s_l1In_f _ _ _).2, a1, a2, hp, hs, plcP]
  · simp [g_As_PlcOk, g_Vs_PlcOk_0, (s_l1In_f _ _ _).1, (s_l1In_f _ _ _).2, hp, plcP]
theorem anyItem_f (place : Int) (l : List (ByteArray × List Int)) (hl : l.length ≤ 1048576) (hit : ∀ x ∈ l, ItemOk x) : g_Aslices_ContainsFunc_i_StoItem_i_StoItem__i_PlcOk_1 l place = true ∧ g_Vslices_ContainsFunc_i_StoItem_i_StoItem__i_PlcOk_1_0 l place = !l.all (placeP place) := by
  obtain ⟨r, h1, h2⟩ := loop_idx (e := TI_) l (step := g_Sslices_IndexFunc_i_StoItem_i_StoItem__i_PlcOk_1_0 l place (l.length : Int)) (fun x => !placeP place x) (fun i hi => by
    have h1 : (i : Int) < l.length := by omega
    have h2 : (0 : Int) ≤ (i : Int) := by omega
    have hw : IntKind.wrap .i64 ((i : Int) + 1) = ((i + 1 : Nat) : Int) := by rw [wrap64 (by omega)]; omega
    obtain ⟨q1, q2⟩ := i_itemOk_f place _ (hit _ (at_mem (e := TI_) hi))
    simp only [g_Sslices_IndexFunc_i_StoItem_i_StoItem__i_PlcOk_1_0, RT.sel, cond_true, h1, h2, hw, decide_true, and_self, Int.toNat_natCast, g_Ai_PlcOk_1, q1, q2]) (by simp [g_Sslices_IndexFunc_i_StoItem_i_StoItem__i_PlcOk_1_0, RT.sel])
  have h1 : g_Lslices_IndexFunc_i_StoItem_i_StoItem__i_PlcOk_1_0 l place (l.length : Int) 0 = some r := h1
  constructor
  · simp [g_Aslices_ContainsFunc_i_StoItem_i_StoItem__i_PlcOk_1, g_Aslices_IndexFunc_i_StoItem_i_StoItem__i_PlcOk_1, h1, okO]
  · simp only [g_Vslices_ContainsFunc_i_StoItem_i_StoItem__i_PlcOk_1_0, g_Vslices_IndexFunc_i_StoItem_i_StoItem__i_PlcOk_1_0, h1, valO, Option.getD_some, h2, List.not_all_eq_any_not]
theorem i_PlcOk_f (place : Int) (l : List (ByteArray × List Int)) (hl : l.length ≤ 1048576) (hit : ∀ x ∈ l, x.2.length ≤ 1048576) : g_Ai_PlcOk place l = true ∧ g_Vi_PlcOk_0 place l = plcP place l := by
  obtain ⟨a1, a2⟩ := i_StoOk_f l hl hit
  by_cases hp : 1 ≤ place ∧ place ≤ 3
  · by_cases hs : storeP l = true
    · obtain ⟨b1, b2⟩ := anyItem_f place l hl (storeP_item hs)
      simp [g_Ai_PlcOk, g_Vi_PlcOk_0, g_Ai_isService, g_Vi_isService_0, (i_in_f _ _ _).1, (i_in_f _ _ _).2, a1, a2, b1, b2, hp, hs, plcP]
    · simp [g_Ai_PlcOk, g_Vi_PlcOk_0, g_Ai_isService, g_Vi_isService_0, (i_in_f _ _ _).1, (i_in_f _ _ _).2, a1, a2, hp, hs, plcP]
  · simp [g_Ai_PlcOk, g_Vi_PlcOk_0, g_Ai_isService, g_Vi_isService_0, (i_in_f _ _ _).1, (i_in_f _ _ _).2, hp, plcP]
/-! stores: how much they are, the same again -/
theorem szStoItem_f (k : ByteArray) (l : List Int) (hk : k.size ≤ maxLen) (hl : l.length ≤ maxLen) (left : Int) (h0 : 0 ≤ left) (h1 : left ≤ 1048576) : g_Aw_szStoItem k l left = true ∧ g_Vw_szStoItem_0 k l left = left_ (k.size + l.length) left := by
  have := maxLen_lt hk
  constructor
  · simp [g_Aw_szStoItem]
  · unfold g_Vw_szStoItem_0
    rw [left_step this h0 h1]
    by_cases h : left - (k.size : Int) < 0
    · rw [decide_eq_true h, cond_true]
      unfold left_
      rw [if_neg (by omega)]
    · rw [szIntS_f l hl _ (by omega) (by omega), left_neg _ _ (by omega), left_two]
theorem szStoItemS_f (l : List (ByteArray × List Int)) (hl : l.length ≤ maxLen) (hok : ∀ w ∈ l, okI w) (left : Int) (h0 : 0 ≤ left) (h1 : left ≤ 1048576) : g_Aw_szStoItemS l left = true ∧ g_Vw_szStoItemS_0 l left = left_ (szL szI l) left := by
  have hm := maxLen_lt hl
  unfold g_Aw_szStoItemS g_Vw_szStoItemS_0
  rw [left_step hm h0 h1]
  by_cases h : left - (l.length : Int) < 0
  · rw [decide_eq_true h]
    refine ⟨rfl, ?_⟩
    unfold left_ szL
    rw [cond_true, if_neg (by omega)]
  · rw [decide_eq_false h]
    obtain ⟨r, e1, e2⟩ := loop_sz (step := g_Sw_szStoItemS_0 l) (fun i => szI (at_ TI_ l i)) l.length (fun i left hi h0 h1 => by
      have k1 : (i : Int) < l.length := by omega
      have k2 : (0 : Int) ≤ (i : Int) := by omega
      have hw : IntKind.wrap .i64 ((i : Int) + 1) = ((i + 1 : Nat) : Int) := by rw [wrap64 (by omega)]; omega
      have hit := hok _ (at_mem (e := TI_) hi)
      obtain ⟨q1, q2⟩ := szStoItem_f (at_ TI_ l i).1 (at_ TI_ l i).2 hit.1 hit.2.1 left h0 h1
      have q2 : g_Vw_szStoItem_0 (at_ TI_ l i).1 (at_ TI_ l i).2 left = left_ (szI (at_ TI_ l i)) left := q2
      simp only [g_Sw_szStoItemS_0, RT.sel, cond_true, k1, k2, hw, decide_true, and_self, Int.toNat_natCast, q1, q2, left_dec _ _ h0]
      by_cases hc : ((szI (at_ TI_ l i) : Nat) : Int) ≤ left
      · simp only [decide_eq_true hc, Bool.not_true, cond_false, cond_true, left_val hc]
      · simp only [decide_eq_false hc, Bool.not_false, cond_true, cond_false]
        simp only [left_, if_neg hc]) (fun left => by simp [g_Sw_szStoItemS_0, RT.sel]) (left - l.length) (by omega) (by omega)
    have e1 : g_Lw_szStoItemS_0 l (left - l.length, 0) = some r := e1
    rw [e1]
    refine ⟨rfl, ?_⟩
    simp only [valO, Option.getD_some, cond_false]
    rw [e2, sumF_sum (e := TI_)]
    show _ = left_ (l.length + (l.map szI).sum) left
    rw [← left_two, decide_eq_false h, cond_false]
theorem szStoStore_f (l : List (ByteArray × List Int)) (hl : l.length ≤ maxLen) (hok : ∀ w ∈ l, okI w) (left : Int) (h0 : 0 ≤ left) (h1 : left ≤ 1048576) : g_Aw_szStoStore l left = true ∧ g_Vw_szStoStore_0 l left = left_ (szL szI l) left := by
  obtain ⟨a, b⟩ := szStoItemS_f l hl hok left h0 h1
  simp only [g_Aw_szStoStore, g_Vw_szStoStore_0, a, b, left_neg _ _ h0, Bool.and_true, and_self]
theorem toStoItemS_f (l : List (ByteArray × List Int)) (hl : l.length ≤ 1048576) (hit : ∀ x ∈ l, x.2.length ≤ 1048576) : g_Aw_toStoItemS l = true ∧ g_Vw_toStoItemS_0 l = l := by
  have h : g_Lw_toStoItemS_0 l (List.replicate (Int.toNat (l.length : Int)) (lit [], []), 0) = some (l.map id) := by
    refine loop_map (e := TI_) l id id (fun i r hi hr => ?_) (fun r hr => ?_) _ (by simp)
    · have k1 : (i : Int) < l.length := by omega
      have k2 : (0 : Int) ≤ (i : Int) := by omega
      have k3 : (i : Int) < r.length := by omega
      have k4 : i < r.length := by omega
      have hw : IntKind.wrap .i64 ((i : Int) + 1) = ((i + 1 : Nat) : Int) := by rw [wrap64 (by omega)]; omega
      obtain ⟨q1, q2⟩ := toIntS_f _ (hit _ (at_mem (e := TI_) hi))
      simp only [g_Sw_toStoItemS_0, RT.sel, cond_true, k1, k2, k3, k4, hw, decide_true, and_self, Int.toNat_natCast, id, g_Aw_toStoItem, q1, q2]
    · simp [g_Sw_toStoItemS_0, RT.sel]
  rw [List.map_id] at h
  constructor
  · rw [Int.toNat_natCast] at h; simp [g_Aw_toStoItemS, h, okO]; omega
  · simp only [g_Vw_toStoItemS_0, h, valO, Option.getD_some]
theorem eqStoItem_self (k : ByteArray) (l : List Int) (hl : l.length ≤ 1048576) : g_Aw_eqStoItem k l k l = true ∧ g_Vw_eqStoItem_0 k l k l = true := by
  obtain ⟨a, b⟩ := eqIntS_self l hl
  simp [g_Aw_eqStoItem, g_Vw_eqStoItem_0, a, b]
theorem eqStoItemS_self (l : List (ByteArray × List Int)) (hl : l.length ≤ 1048576) (hit : ∀ w ∈ l, w.2.length ≤ 1048576) : g_Aw_eqStoItemS l l = true ∧ g_Vw_eqStoItemS_0 l l = true := by
  have h : g_Lw_eqStoItemS_0 l l 0 = some (.inr ()) := by
    have := loop_all (step := g_Sw_eqStoItemS_0 l l) (fun i : Nat => (i : Int)) (fun _ => true) (.inl false) (.inr ()) l.length (fun i hi => by
      have k1 : (i : Int) < l.length := by omega
      have k2 : (0 : Int) ≤ (i : Int) := by omega
      have hw : IntKind.wrap .i64 ((i : Int) + 1) = ((i + 1 : Nat) : Int) := by rw [wrap64 (by omega)]; omega
      obtain ⟨q1, q2⟩ := eqStoItem_self (at_ TI_ l i).1 _ (hit _ (at_mem (e := TI_) hi))
      simp only [g_Sw_eqStoItemS_0, RT.sel, cond_true, k1, k2, hw, decide_true, and_self, Int.toNat_natCast, q1, q2, Bool.not_true, cond_false]) (by simp [g_Sw_eqStoItemS_0, RT.sel])
    rw [show (List.range l.length).all (fun _ => true) = true by simp] at this
    exact this
  simp [g_Aw_eqStoItemS, g_Vw_eqStoItemS_0, h, okO, valO, isL]
theorem eqStoStore_self (l : List (ByteArray × List Int)) (hl : l.length ≤ 1048576) (hit : ∀ w ∈ l, w.2.length ≤ 1048576) : g_Aw_eqStoStore l l = true ∧ g_Vw_eqStoStore_0 l l = true := by
  obtain ⟨a, b⟩ := eqStoItemS_self l hl hit
  simp [g_Aw_eqStoStore, g_Vw_eqStoStore_0, a, b]
/-- What is small enough. -/
theorem small_store {l : List (ByteArray × List Int)} {B : Nat} (h : szL szI l ≤ B) : l.length ≤ B ∧ ∀ x ∈ l, x.2.length ≤ B := by
  have := szL_len h
  refine ⟨this.1, fun x hx => ?_⟩
  have := this.2 x hx
  unfold szI at this
  omega
end Go.Proofs.YtopoiinmhajhmaaDoor.E
end
section
namespace Go.Proofs.YtopoiinmhajhmaaDoor.E
open Go
abbrev TA_ : Ty := .sl 124 (.pair .str (.sl 3 (.int .i64)))
abbrev TB_ : Ty := .sl 88 (.pair .str (.sl 3 (.int .i64)))
def okS (x : List (ByteArray × List Int)) : Prop := x.length ≤ maxLen ∧ ∀ w ∈ x, okI w
theorem szStoStoreS_f (l : List (List (ByteArray × List Int))) (hl : l.length ≤ maxLen) (hok : ∀ w ∈ l, okS w) (left : Int) (h0 : 0 ≤ left) (h1 : left ≤ 1048576) : g_Aw_szStoStoreS l left = true ∧ g_Vw_szStoStoreS_0 l left = left_ (szL (szL szI) l) left := by
  have hm := maxLen_lt hl
  unfold g_Aw_szStoStoreS g_Vw_szStoStoreS_0
  rw [left_step hm h0 h1]
  by_cases h : left - (l.length : Int) < 0
  · rw [decide_eq_true h]
    refine ⟨rfl, ?_⟩
    unfold left_ szL
    rw [cond_true, if_neg (by omega)]
  · rw [decide_eq_false h]
    obtain ⟨r, e1, e2⟩ := loop_sz (step := g_Sw_szStoStoreS_0 l) (fun i => szL szI (at_ TA_ l i)) l.length (fun i left hi h0 h1 => by
      have k1 : (i : Int) < l.length := by omega
      have k2 : (0 : Int) ≤ (i : Int) := by omega
      have hw : IntKind.wrap .i64 ((i : Int) + 1) = ((i + 1 : Nat) : Int) := by rw [wrap64 (by omega)]; omega
      have hit := hok _ (at_mem (e := TA_) hi)
      obtain ⟨q1, q2⟩ := szStoStore_f (at_ TA_ l i) hit.1 hit.2 left h0 h1
      simp only [g_Sw_szStoStoreS_0, RT.sel, cond_true, k1, k2, hw, decide_true, and_self, Int.toNat_natCast, q1, q2, left_dec _ _ h0]
      by_cases hc : ((szL szI (at_ TA_ l i) : Nat) : Int) ≤ left
      · simp only [decide_eq_true hc, Bool.not_true, cond_false, cond_true, left_val hc]
      · simp only [decide_eq_false hc, Bool.not_false, cond_true, cond_false]
        simp only [left_, if_neg hc]) (fun left => by simp [g_Sw_szStoStoreS_0, RT.sel]) (left - l.length) (by omega) (by omega)
    have e1 : g_Lw_szStoStoreS_0 l (left - l.length, 0) = some r := e1
    rw [e1]
    refine ⟨rfl, ?_⟩
    simp only [valO, Option.getD_some, cond_false]
    rw [e2, sumF_sum (e := TA_)]
    show _ = left_ (l.length + (l.map (szL szI)).sum) left
    rw [← left_two, decide_eq_false h, cond_false]
theorem toStoStoreS_f (l : List (List (ByteArray × List Int))) (hl : l.length ≤ 1048576) (hit : ∀ x ∈ l, x.length ≤ 1048576 ∧ ∀ y ∈ x, y.2.length ≤ 1048576) : g_Aw_toStoStoreS l = true ∧ g_Vw_toStoStoreS_0 l = l := by
  have h : g_Lw_toStoStoreS_0 l (List.replicate (Int.toNat (l.length : Int)) [], 0) = some (l.map id) := by
    refine loop_map (e := TA_) l id id (fun i r hi hr => ?_) (fun r hr => ?_) _ (by simp)
    · have k1 : (i : Int) < l.length := by omega
      have k2 : (0 : Int) ≤ (i : Int) := by omega
      have k3 : (i : Int) < r.length := by omega
      have k4 : i < r.length := by omega
      have hw : IntKind.wrap .i64 ((i : Int) + 1) = ((i + 1 : Nat) : Int) := by rw [wrap64 (by omega)]; omega
      have hh := hit _ (at_mem (e := TA_) hi)
      obtain ⟨q1, q2⟩ := toStoItemS_f _ hh.1 hh.2
      simp only [g_Sw_toStoStoreS_0, RT.sel, cond_true, k1, k2, k3, k4, hw, decide_true, and_self, Int.toNat_natCast, id, g_Aw_toStoStore, q1, q2]
    · simp [g_Sw_toStoStoreS_0, RT.sel]
  rw [List.map_id] at h
  constructor
  · rw [Int.toNat_natCast] at h; simp [g_Aw_toStoStoreS, h, okO]; omega
  · simp only [g_Vw_toStoStoreS_0, h, valO, Option.getD_some]
theorem eqStoStoreS_self (l : List (List (ByteArray × List Int))) (hl : l.length ≤ 1048576) (hit : ∀ x ∈ l, x.length ≤ 1048576 ∧ ∀ y ∈ x, y.2.length ≤ 1048576) : g_Aw_eqStoStoreS l l = true ∧ g_Vw_eqStoStoreS_0 l l = true := by
  have h : g_Lw_eqStoStoreS_0 l l 0 = some (.inr ()) := by
    have := loop_all (step := g_Sw_eqStoStoreS_0 l l) (fun i : Nat => (i : Int)) (fun _ => true) (.inl false) (.inr ()) l.length (fun i hi => by
      have k1 : (i : Int) < l.length := by omega
      have k2 : (0 : Int) ≤ (i : Int) := by omega
      have hw : IntKind.wrap .i64 ((i : Int) + 1) = ((i + 1 : Nat) : Int) := by rw [wrap64 (by omega)]; omega
      have hh := hit _ (at_mem (e := TB_) hi)
      obtain ⟨q1, q2⟩ := eqStoStore_self _ hh.1 hh.2
      simp only [g_Sw_eqStoStoreS_0, RT.sel, cond_true, k1, k2, hw, decide_true, and_self, Int.toNat_natCast, q1, q2, Bool.not_true, cond_false]) (by simp [g_Sw_eqStoStoreS_0, RT.sel])
    rw [show (List.range l.length).all (fun _ => true) = true by simp] at this
    exact this
  simp [g_Aw_eqStoStoreS, g_Vw_eqStoStoreS_0, h, okO, valO, isL]
/-- Three places keep what they may. -/
def gloP (l : List (List (ByteArray × List Int))) : Bool := decide (l.length = 3) && (List.range l.length).all fun i => plcP ((i + 1 : Nat) : Int) (at_ TB_ l i)
theorem i_GloOk_f (l : List (List (ByteArray × List Int))) (hl : l.length ≤ 1048576) (hit : ∀ x ∈ l, x.length ≤ 1048576 ∧ ∀ y ∈ x, y.2.length ≤ 1048576) : g_Ai_GloOk l = true ∧ g_Vi_GloOk_0 l = gloP l := by
  have h : g_Li_GloOk_0 l l (l.length : Int) 0 = some (bif (List.range l.length).all (fun i => plcP ((i + 1 : Nat) : Int) (at_ TB_ l i)) then .inr () else .inl false) := by
    refine loop_all (ρ := Bool ⊕ Unit) (step := g_Si_GloOk_0 l l (l.length : Int)) (fun i : Nat => (i : Int)) (fun i => plcP ((i + 1 : Nat) : Int) (at_ TB_ l i)) (Sum.inl false) (Sum.inr ()) l.length (fun i hi => ?_) ?_
    · have k1 : (i : Int) < l.length := by omega
      have k2 : (0 : Int) ≤ (i : Int) := by omega
      have hw : IntKind.wrap .i64 ((i : Int) + 1) = ((i + 1 : Nat) : Int) := by rw [wrap64 (by omega)]; omega
      have hh := hit _ (at_mem (e := TB_) hi)
      obtain ⟨q1, q2⟩ := i_PlcOk_f ((i + 1 : Nat) : Int) _ hh.1 hh.2
      simp only [g_Si_GloOk_0, RT.sel, cond_true, k1, k2, hw, decide_true, and_self, Int.toNat_natCast, q1, q2]
      generalize plcP _ _ = p
      cases p <;> rfl
    · simp [g_Si_GloOk_0, RT.sel]
  have e3 : ((l.length : Int) == 3) = decide (l.length = 3) := by rw [Bool.eq_iff_iff]; simp; omega
  constructor
  · simp [g_Ai_GloOk, h, okO]
  · simp only [g_Vi_GloOk_0, h, valO, Option.getD_some, e3, gloP]
    generalize (List.range l.length).all _ = p
    generalize decide (l.length = 3) = q
    cases p <;> cases q <;> rfl
theorem s_GloOk_f (l : List (List (ByteArray × List Int))) (hl : l.length ≤ 1048576) (hit : ∀ x ∈ l, x.length ≤ 1048576 ∧ ∀ y ∈ x, y.2.length ≤ 1048576) : g_As_GloOk l = true ∧ g_Vs_GloOk_0 l = gloP l := by
  have h : g_Ls_GloOk_0 l 0 = some (bif (List.range l.length).all (fun i => plcP ((i + 1 : Nat) : Int) (at_ TB_ l i)) then .inr () else .inl false) := by
    refine loop_all (ρ := Bool ⊕ Unit) (step := g_Ss_GloOk_0 l) (fun i : Nat => (i : Int)) (fun i => plcP ((i + 1 : Nat) : Int) (at_ TB_ l i)) (Sum.inl false) (Sum.inr ()) l.length (fun i hi => ?_) ?_
    · have k1 : (i : Int) < l.length := by omega
      have k2 : (0 : Int) ≤ (i : Int) := by omega
      have hw : IntKind.wrap .i64 ((i : Int) + 1) = ((i + 1 : Nat) : Int) := by rw [wrap64 (by omega)]; omega
      have hh := hit _ (at_mem (e := TB_) hi)
      obtain ⟨q1, q2⟩ := s_PlcOk_f ((i + 1 : Nat) : Int) _ hh.1 hh.2
      simp only [g_Ss_GloOk_0, RT.sel, cond_true, k1, k2, hw, decide_true, and_self, Int.toNat_natCast, q1, q2]
      generalize plcP _ _ = p
      cases p <;> rfl
    · simp [g_Ss_GloOk_0, RT.sel]
  have e3 : ((l.length : Int) != 3) = !decide (l.length = 3) := by rw [Bool.eq_iff_iff]; simp; omega
  constructor
  · simp [g_As_GloOk, h, okO]
  · simp only [g_Vs_GloOk_0, h, valO, Option.getD_some, e3, gloP]
    generalize (List.range l.length).all _ = p
    generalize decide (l.length = 3) = q
    cases p <;> cases q <;> rfl
theorem pure_FnExactGloOk (x : List (List (ByteArray × List Int))) (ok : x.length ≤ maxLen ∧ ∀ w ∈ x, okS w) :
    Fw_FnExactGloOk [argRV false (.sl 47 (.sl 124 (.pair .str (.sl 3 (.int .i64))))) x] = some (true, .val false [.bool true], []) := by
  show some (g_Aw_FnExactGloOk x, RV.val false [Cell.bool (g_Vw_FnExactGloOk_0 x)], []) = _
  obtain ⟨a1, a2⟩ := szStoStoreS_f x ok.1 ok.2 1048576 (by decide) (by decide)
  have key : g_Aw_FnExactGloOk x = true ∧ g_Vw_FnExactGloOk_0 x = true := by
    unfold g_Aw_FnExactGloOk g_Vw_FnExactGloOk_0
    rw [a1, a2, left_dec _ _ (by decide)]
    by_cases hc : ((szL (szL szI) x : Nat) : Int) ≤ 1048576
    · have b := szL_len (z := szL szI) (l := x) (B := 1048576) (by omega)
      have b2 : ∀ y ∈ x, y.length ≤ 1048576 ∧ ∀ z ∈ y, z.2.length ≤ 1048576 := fun y hy => small_store (b.2 y hy)
      obtain ⟨c1, c2⟩ := toStoStoreS_f x b.1 b2
      obtain ⟨e1, e2⟩ := i_GloOk_f x b.1 b2
      obtain ⟨f1, f2⟩ := s_GloOk_f x b.1 b2
      obtain ⟨q1, q2⟩ := eqStoStoreS_self x b.1 b2
      simp [c1, c2, e1, e2, f1, f2, q1, q2]
    · rw [decide_eq_false hc]
      exact ⟨rfl, rfl⟩
  rw [key.1, key.2]
end Go.Proofs.YtopoiinmhajhmaaDoor.E
end
