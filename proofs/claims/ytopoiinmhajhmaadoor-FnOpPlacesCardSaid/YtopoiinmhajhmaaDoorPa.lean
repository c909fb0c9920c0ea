/- What these values are, in plain words: for the proof (laws.FnOpPlaces): part 1. No conditions. -/
import Derived.Test.YtopoiinmhajhmaaDoorGc
import Derived.Lib.SlTrimSet
set_option linter.all false
section
namespace Go.Proofs.YtopoiinmhajhmaaDoor.E
open Go
theorem wrap64 {x : Int} (h : -9223372036854775808 ≤ x ∧ x < 9223372036854775808) : IntKind.wrap .i64 x = x := by
  simp only [IntKind.wrap, IntKind.bits, IntKind.signed]
  simp
  omega
def forR {α ρ : Type} (f : Nat → α → α ⊕ ρ) (fin : α → ρ) : Nat → Nat → α → ρ
  | 0, _, a => fin a
  | k + 1, i, a => match f i a with
    | .inl a' => forR f fin k (i + 1) a'
    | .inr r => r
section
variable {σ ρ α β : Type} {step : σ → RT σ ρ}
theorem loop_for (mk : Nat → α → σ) (f : Nat → α → α ⊕ ρ) (fin : α → ρ) (n : Nat) (J : Nat → α → Prop)
    (h1 : ∀ i a, i < n → J i a → (step (mk i a)).sel = (match f i a with | .inl a' => .go (mk (i + 1) a') | .inr r => .out r) ∧ ∀ a', f i a = .inl a' → J (i + 1) a')
    (h2 : ∀ a, J n a → (step (mk n a)).sel = .out (fin a)) : ∀ (k i : Nat) (a : α), i + k = n → J i a → loopO step (mk i a) = some (forR f fin k i a) := by
  intro k
  induction k with
  | zero =>
    intro i a hi hJ
    have hi : i = n := by omega
    subst hi
    rw [loopO_eq, h2 a hJ]
    rfl
  | succ k ih =>
    intro i a hi hJ
    obtain ⟨h3, h4⟩ := h1 i a (by omega) hJ
    rw [loopO_eq, h3]
    unfold forR
    cases hf : f i a with
    | inl a' => simp only; exact ih (i + 1) a' (by omega) (h4 a' hf)
    | inr r => rfl
/-- A loop that looks whether something is so of all. -/
theorem loop_all (mk : Nat → σ) (p : Nat → Bool) (e fin : ρ) (n : Nat) (h1 : ∀ i, i < n → (step (mk i)).sel = bif p i then .go (mk (i + 1)) else .out e) (h2 : (step (mk n)).sel = .out fin) :
    loopO step (mk 0) = some (bif (List.range n).all p then fin else e) := by
  have key : ∀ k i, i + k = n → loopO step (mk i) = some (bif (List.range' i k).all p then fin else e) := by
    intro k
    induction k with
    | zero =>
      intro i hi
      have hi : i = n := by omega
      subst hi
      rw [loopO_eq, h2]
      rfl
    | succ k ih =>
      intro i hi
      rw [loopO_eq, h1 i (by omega), List.range'_succ, List.all_cons]
      cases p i with
      | true => simp only [cond_true, Bool.true_and]; exact ih (i + 1) (by omega)
      | false => rfl
  rw [key n 0 (by omega), List.range_eq_range']
theorem range_all {e : Ty} (l : List e.den) (p : e.den → Bool) : (List.range l.length).all (fun i => p (at_ e l i)) = l.all p := by
  rw [Bool.eq_iff_iff, List.all_eq_true, List.all_eq_true]
  constructor
  · intro h x hx
    obtain ⟨i, hi, rfl⟩ := List.getElem_of_mem hx
    have := h i (List.mem_range.2 hi)
    simpa [at_, hi] using this
  · intro h i hi
    have hi := List.mem_range.1 hi
    have := h l[i] (List.getElem_mem hi)
    simpa [at_, hi] using this
theorem at_mem {e : Ty} {l : List e.den} {i : Nat} (h : i < l.length) : at_ e l i ∈ l := by
  have : at_ e l i = l[i] := by simp [at_, h]
  rw [this]
  exact List.getElem_mem h
theorem at_eq {e : Ty} {l : List e.den} {i : Nat} (h : i < l.length) : at_ e l i = l[i] := by simp [at_, h]
/-- The same, over the elements of a list. -/
theorem loop_list {e : Ty} (l : List e.den) (mk : Nat → σ) (p : e.den → Bool) (x fin : ρ) (h1 : ∀ i, i < l.length → (step (mk i)).sel = bif p (at_ e l i) then .go (mk (i + 1)) else .out x) (h2 : (step (mk l.length)).sel = .out fin) :
    loopO step (mk 0) = some (bif l.all p then fin else x) := by
  rw [loop_all mk (fun i => p (at_ e l i)) x fin l.length h1 h2, range_all]
/-- A loop that makes a list out of a list. -/
theorem loop_map {e : Ty} (l : List e.den) {ρ : Type} {step : List β × Int → RT (List β × Int) ρ} (g : e.den → β) (out : List β → ρ)
    (h1 : ∀ (i : Nat) (r : List β), i < l.length → r.length = l.length → (step (r, (i : Int))).sel = .go (r.set i (g (at_ e l i)), ((i + 1 : Nat) : Int)))
    (h2 : ∀ r : List β, r.length = l.length → (step (r, (l.length : Int))).sel = .out (out r)) (r0 : List β) (h0 : r0.length = l.length) : loopO step (r0, 0) = some (out (l.map g)) := by
  have key : ∀ (k i : Nat) (r : List β), i + k = l.length → r.length = l.length → r.take i = (l.map g).take i → loopO step (r, (i : Int)) = some (out (l.map g)) := by
    intro k
    induction k with
    | zero =>
      intro i r hi hr ht
      have hi : i = l.length := by omega
      subst hi
      rw [loopO_eq, h2 r hr]
      have e1 : r.take l.length = r := by rw [← hr, List.take_length]
      have e2 : (l.map g).take l.length = l.map g := by rw [List.take_of_length_le (by simp)]
      rw [e1, e2] at ht
      rw [ht]
    | succ k ih =>
      intro i r hi hr ht
      rw [loopO_eq, h1 i r (by omega) hr]
      simp only
      refine ih (i + 1) _ (by omega) (by simp [hr]) ?_
      have hil : i < l.length := by omega
      rw [List.take_succ, List.take_succ, List.take_set_of_le (by omega), ht]
      congr 1
      simp [hr, hil, at_]
  exact key l.length 0 r0 (by omega) h0 (by simp)
/-- The sum of the sizes from i on. -/
def sumF (t : Nat → Nat) : Nat → Nat → Nat
  | 0, _ => 0
  | k + 1, i => t i + sumF t k (i + 1)
theorem sumF_le {t : Nat → Nat} : ∀ {k i j : Nat}, i ≤ j → j < i + k → t j ≤ sumF t k i
  | 0, i, j, h1, h2 => absurd h2 (by omega)
  | k + 1, i, j, h1, h2 => by
    unfold sumF
    by_cases e : i = j
    · subst e; omega
    · have := sumF_le (t := t) (k := k) (i := i + 1) (j := j) (by omega) (by omega)
      omega
/-- What is left of a number. -/
def left_ (t : Nat) (left : Int) : Int := if (t : Int) ≤ left then left - t else -1
theorem left_pos {t : Nat} {left : Int} (h : ¬ left_ t left < 0) : (t : Int) ≤ left := by
  unfold left_ at h
  split at h
  · assumption
  · exact absurd (by decide : (-1 : Int) < 0) h
/-- A loop that counts what is left. -/
theorem loop_sz {step : Int × Int → RT (Int × Int) ((Int × Int) ⊕ Int)} (t : Nat → Nat) (n : Nat) (h1 : ∀ (i : Nat) (left : Int), i < n → 0 ≤ left → left ≤ 1048576 → (step (left, (i : Int))).sel = bif decide ((t i : Int) ≤ left) then .go (left - t i, ((i + 1 : Nat) : Int)) else .out (.inl (-1, -1)))
    (h2 : ∀ left : Int, (step (left, (n : Int))).sel = .out (.inr left)) (left : Int) (h0 : 0 ≤ left) (hl : left ≤ 1048576) :
    ∃ r, loopO step (left, 0) = some r ∧ (bif isL r then (getL r).2 else getR r) = left_ (sumF t n 0) left := by
  have key : ∀ (k i : Nat) (left : Int), i + k = n → 0 ≤ left → left ≤ 1048576 → ∃ r, loopO step (left, (i : Int)) = some r ∧ (bif isL r then (getL r).2 else getR r) = left_ (sumF t k i) left := by
    intro k
    induction k with
    | zero =>
      intro i left hi h0 hl
      have hi : i = n := by omega
      subst hi
      refine ⟨.inr left, by rw [loopO_eq, h2], ?_⟩
      simp [isL, getR, left_, sumF, h0]
    | succ k ih =>
      intro i left hi h0 hl
      rw [loopO_eq, h1 i left (by omega) h0 hl]
      by_cases hc : (t i : Int) ≤ left
      · simp only [hc, decide_true, cond_true]
        obtain ⟨r, e1, e2⟩ := ih (i + 1) (left - t i) (by omega) (by omega) (by omega)
        refine ⟨r, e1, ?_⟩
        rw [e2]
        unfold left_
        have e3 : sumF t (k + 1) i = t i + sumF t k (i + 1) := rfl
        rw [e3]
        by_cases hc2 : (sumF t k (i + 1) : Int) ≤ left - t i
        · rw [if_pos hc2, if_pos (by omega)]; omega
        · rw [if_neg hc2, if_neg (by omega)]
      · simp only [hc, decide_false, cond_false]
        refine ⟨_, rfl, ?_⟩
        have e3 : sumF t (k + 1) i = t i + sumF t k (i + 1) := rfl
        simp only [isL, getL, cond_true, left_]
        rw [e3, if_neg (by omega)]
  exact key n 0 left (by omega) h0 hl
/-- A loop that looks for the first of which something is so. -/
theorem loop_idx {e : Ty} (l : List e.den) {step : Int → RT Int (Int ⊕ Unit)} (q : e.den → Bool) (h1 : ∀ i : Nat, i < l.length → (step (i : Int)).sel = bif q (at_ e l i) then .out (.inl (i : Int)) else .go ((i + 1 : Nat) : Int))
    (h2 : (step (l.length : Int)).sel = .out (.inr ())) : ∃ r, loopO step 0 = some r ∧ decide ((bif isL r then getL r else (-1 : Int)) ≥ 0) = l.any q := by
  have key : ∀ (k i : Nat), i + k = l.length → ∃ r, loopO step (i : Int) = some r ∧ decide ((bif isL r then getL r else (-1 : Int)) ≥ 0) = (l.drop i).any q := by
    intro k
    induction k with
    | zero =>
      intro i hi
      have hi : i = l.length := by omega
      subst hi
      refine ⟨_, by rw [loopO_eq, h2], ?_⟩
      simp [isL]
    | succ k ih =>
      intro i hi
      rw [loopO_eq, h1 i (by omega)]
      have hil : i < l.length := by omega
      rw [List.drop_eq_getElem_cons hil, List.any_cons, at_eq hil]
      cases hq : q l[i] with
      | true => exact ⟨_, rfl, by simp [isL, getL]⟩
      | false => simp only [cond_false, Bool.false_or]; exact ih (i + 1) (by omega)
  exact key l.length 0 (by omega)
end
theorem dropWhile_nil {α : Type} (p : α → Bool) (l : List α) : l.dropWhile p = [] ↔ ∀ x ∈ l, p x = true := by
  induction l with
  | nil => simp
  | cons a l ih =>
    by_cases h : p a = true
    · rw [List.dropWhile_cons_of_pos h, ih]; simp [h]
    · rw [List.dropWhile_cons_of_neg h]; simp [h]
theorem trimS_nil (l cs : List UInt8) : (Lib.trimS l cs = []) ↔ l.all (cs.contains ·) = true := by
  unfold Lib.trimS Lib.trimLeftS Lib.trimRightS
  constructor
  · intro h
    rw [dropWhile_nil] at h
    rw [List.all_eq_true]
    intro x hx
    have h2 : ∀ (m : List UInt8), (∀ y ∈ (m.dropWhile (cs.contains ·)).reverse, cs.contains y = true) → ∀ y ∈ m, cs.contains y = true := by
      intro m
      induction m with
      | nil => intro _ y hy; cases hy
      | cons a m ih =>
        intro hm y hy
        by_cases ha : cs.contains a = true
        · rw [List.dropWhile_cons_of_pos ha] at hm
          rcases List.mem_cons.1 hy with rfl | hy
          · exact ha
          · exact ih hm y hy
        · rw [List.dropWhile_cons_of_neg ha] at hm
          exact hm y (List.mem_reverse.2 hy)
    exact h2 l.reverse (fun y hy => h y hy) x (by simpa using hx)
  · intro h
    rw [List.all_eq_true] at h
    rw [dropWhile_nil]
    intro x hx
    have : x ∈ l := by
      have h3 := List.mem_reverse.1 hx
      have := (List.dropWhile_sublist (fun x => cs.contains x) (l := l.reverse)).subset h3
      simpa using this
    exact h x this
/-- The first place where p holds, or -1. -/
def idxF {α : Type} (p : α → Bool) (l : List α) : Int := match l.findIdx? p with | some i => (i : Int) | none => -1
def numOk (n : Int) : Bool := decide (0 ≤ n) && decide (n ≤ 9999)
def valOk (l : List Int) : Bool := decide (1 ≤ l.length) && decide (l.length ≤ 3) && l.all numOk
end Go.Proofs.YtopoiinmhajhmaaDoor.E
end
section
namespace Go.Proofs.YtopoiinmhajhmaaDoor.E
open Go
theorem byte_range (s : ByteArray) (i : Nat) : 0 ≤ byteAt s i ∧ byteAt s i < 256 := by
  unfold byteAt
  have := (s.data[i]?.getD 0).toNat_lt
  omega
theorem i_in_f (a b c : Int) : g_Ai_in a b c = true ∧ g_Vi_in_0 a b c = decide (b ≤ a ∧ a ≤ c) := by
  constructor
  · simp [g_Ai_in]
  · unfold g_Vi_in_0
    by_cases h : a ≥ b
    · simp [h]
    · simp [h]
theorem s_l1In_f (a b c : Int) : g_As_l1In a b c = true ∧ g_Vs_l1In_0 a b c = decide (b ≤ a ∧ a ≤ c) := by
  constructor
  · simp [g_As_l1In]
  · unfold g_Vs_l1In_0
    by_cases h : a ≥ b
    · simp [h]
    · simp [h]
def dig (b : UInt8) : Bool := decide (48 ≤ b.toNat ∧ b.toNat ≤ 57)
/-- A name: a small letter, and one or two digits. -/
def keyP (s : ByteArray) : Bool := decide (2 ≤ s.size ∧ s.size ≤ 3) && (decide (97 ≤ byteAt s 0 ∧ byteAt s 0 ≤ 122) && (s.data.toList.drop 1).all dig)
def valP (l : List Int) : Bool := decide (1 ≤ l.length ∧ l.length ≤ 3) && l.all fun n => decide (0 ≤ n ∧ n ≤ 9999)
def wrtP (k : ByteArray) (d : Bool) (l : List Int) : Bool := keyP k && bif d then l.isEmpty else valP l
theorem dig_mem (b : UInt8) : [48, 49, 50, 51, 52, 53, 54, 55, 56, 57].contains b = dig b := by
  have h : ∀ b : Fin 256, [48, 49, 50, 51, 52, 53, 54, 55, 56, 57].contains (UInt8.ofNat b.val) = dig (UInt8.ofNat b.val) := by decide +kernel
  have := h ⟨b.toNat, b.toNat_lt⟩
  simpa using this
theorem i_keyOk_f (s : ByteArray) : g_Ai_keyOk s = true ∧ g_Vi_keyOk_0 s = keyP s := by
  have hb := byte_range s 0
  have hw : IntKind.wrap .i64 (byteAt s 0) = byteAt s 0 := wrap64 (by omega)
  have e1 : ∀ n : Nat, decide ((2 : Int) ≤ (n : Int) ∧ (n : Int) ≤ 3) = decide (2 ≤ n ∧ n ≤ 3) := fun n => decide_eq_decide.2 (by omega)
  constructor
  · simp only [g_Ai_keyOk, (i_in_f _ _ _).1, (i_in_f _ _ _).2, hw, e1]
    by_cases h : 2 ≤ s.size ∧ s.size ≤ 3
    · have h1 : (0 : Int) < s.size := by omega
      have h2 : (1 : Int) ≤ s.size := by omega
      have h3 : (s.extract 1 s.size).size ≤ 9223372036854775807 := by rw [ByteArray.size_extract]; omega
      have h4 : g_ascii (lit [48, 49, 50, 51, 52, 53, 54, 55, 56, 57]) = true := by decide +kernel
      simp only [h, h1, h2, h3, h4, and_self, decide_true, Bool.true_and, Bool.and_true, Bool.not_true, Bool.false_or, Int.le_refl, Bool.or_true, show (0 : Int) ≤ 1 from by decide]
    · simp [h]
  · simp only [g_Vi_keyOk_0, (i_in_f _ _ _).2, hw, e1, keyP]
    have e2 : (ByteArray.toList (g_trim (s.extract 1 s.size) (lit [48, 49, 50, 51, 52, 53, 54, 55, 56, 57])) == []) = (s.data.toList.drop 1).all dig := by
      rw [ByteArray.toList_eq]
      show ((Lib.trimS (s.extract 1 s.size).data.toList [48, 49, 50, 51, 52, 53, 54, 55, 56, 57]) == []) = _
      have e3 : (s.extract 1 s.size).data.toList = s.data.toList.drop 1 := by
        simp only [ByteArray.data_extract, Array.toList_extract, List.extract_eq_take_drop]
        rw [List.take_of_length_le (by rw [List.length_drop, Array.length_toList]; exact Nat.le_refl _)]
      rw [e3, Bool.eq_iff_iff, beq_iff_eq]
      refine (trimS_nil (List.drop 1 s.data.toList) [48, 49, 50, 51, 52, 53, 54, 55, 56, 57]).trans ?_
      simp only [dig_mem]
    rw [e2]
    cases decide (2 ≤ s.size ∧ s.size ≤ 3) <;> cases decide (97 ≤ byteAt s 0 ∧ byteAt s 0 ≤ 122) <;> rfl
theorem s_l1Key_loop (s : ByteArray) (hs : s.size < 1000) (h1 : 1 ≤ s.size) : g_Ls_l1Key_0 s 1 = some (bif (s.data.toList.drop 1).all dig then .inr () else .inl false) := by
  have h := loop_all (step := g_Ss_l1Key_0 s) (fun i : Nat => ((i + 1 : Nat) : Int)) (fun i => dig ((s.data[i + 1]?).getD 0)) (Sum.inl false) (Sum.inr ()) (s.size - 1) (fun i hi => by
      have h1 : ((i + 1 : Nat) : Int) < s.size := by omega
      have h2 : (0 : Int) ≤ ((i + 1 : Nat) : Int) := by omega
      have hw : IntKind.wrap .i64 (((i + 1 : Nat) : Int) + 1) = ((i + 1 + 1 : Nat) : Int) := by rw [wrap64 (by omega)]; omega
      simp only [g_Ss_l1Key_0, RT.sel, cond_true, h1, h2, hw, decide_true, and_self, Int.toNat_natCast]
      have hb : byteAt s (i + 1) = (((s.data[i + 1]?).getD 0).toNat : Int) := rfl
      simp only [hb]
      generalize (s.data[i + 1]?).getD 0 = b
      unfold dig
      by_cases k1 : b.toNat < 48
      · have k2 : ¬ 48 ≤ b.toNat := by omega
        have k3 : (b.toNat : Int) < 48 := by omega
        simp [k2, k3]
      · have k2 : 48 ≤ b.toNat := by omega
        have k3 : ¬ (b.toNat : Int) < 48 := by omega
        by_cases k4 : b.toNat ≤ 57
        · have k5 : ¬ (b.toNat : Int) > 57 := by omega
          simp [k2, k3, k4, k5, RT.sel]
        · have k5 : (b.toNat : Int) > 57 := by omega
          simp [k2, k3, k4, k5, RT.sel]) (by
      have hn : ((s.size - 1 + 1 : Nat) : Int) = (s.size : Int) := by omega
      simp only [g_Ss_l1Key_0, RT.sel, hn, cond_true, Int.lt_irrefl, decide_false, cond_false])
  unfold g_Ls_l1Key_0
  refine Eq.trans h ?_
  congr 2
  rw [Bool.eq_iff_iff, List.all_eq_true, List.all_eq_true]
  have hsz : s.size = s.data.toList.length := Array.length_toList.symm
  constructor
  · intro h x hx
    obtain ⟨i, hi, rfl⟩ := List.getElem_of_mem hx
    have hi' : i + 1 < s.data.toList.length := by simp at hi ⊢; omega
    have := h i (List.mem_range.2 (by omega))
    have e : (s.data[i + 1]?).getD 0 = s.data.toList[i + 1] := by rw [Array.getElem?_eq_getElem (by simpa using hi')]; simp
    rw [e] at this
    simpa [Nat.add_comm] using this
  · intro h i hi
    have hi := List.mem_range.1 hi
    have hi' : i + 1 < s.data.toList.length := by omega
    have e : (s.data[i + 1]?).getD 0 = s.data.toList[i + 1] := by rw [Array.getElem?_eq_getElem (by simpa using hi')]; simp
    rw [e]
    refine h _ ?_
    rw [List.mem_iff_getElem]
    exact ⟨i, by simp at hi' ⊢; omega, by simp [Nat.add_comm]⟩
theorem s_l1Key_f (s : ByteArray) : g_As_l1Key s = true ∧ g_Vs_l1Key_0 s = keyP s := by
  have e1 : ∀ n : Nat, decide ((2 : Int) ≤ (n : Int) ∧ (n : Int) ≤ 3) = decide (2 ≤ n ∧ n ≤ 3) := fun n => decide_eq_decide.2 (by omega)
  by_cases h : 2 ≤ s.size ∧ s.size ≤ 3
  · have h0 : (0 : Int) < s.size := by omega
    have hl := s_l1Key_loop s (by omega) (by omega)
    constructor
    · simp only [g_As_l1Key, (s_l1In_f _ _ _).1, (s_l1In_f _ _ _).2, e1, hl, okO, h, h0, Option.isSome_some, and_self, decide_true, Bool.true_and, Bool.or_true, Int.le_refl]
    · simp only [g_Vs_l1Key_0, (s_l1In_f _ _ _).2, e1, hl, okO, valO, keyP, Option.getD_some]
      by_cases k1 : byteAt s 0 < 97
      · simp [h, k1, show ¬ (97 ≤ byteAt s 0) by omega]
      · by_cases k2 : byteAt s 0 > 122
        · simp [h, k1, k2, show ¬ (byteAt s 0 ≤ 122) by omega]
        · simp only [h, k1, k2, show 97 ≤ byteAt s 0 by omega, show byteAt s 0 ≤ 122 by omega]
          cases (s.data.toList.drop 1).all dig <;> rfl
  · constructor
    · simp only [g_As_l1Key, (s_l1In_f _ _ _).1, (s_l1In_f _ _ _).2, e1]
      simp [h]
    · simp only [g_Vs_l1Key_0, (s_l1In_f _ _ _).2, e1, keyP]
      simp [h]
theorem s_l1Val_loop (l : List Int) (hl : l.length ≤ 1048576) : g_Ls_l1Val_0 l 0 = some (bif l.all (fun n => decide (0 ≤ n ∧ n ≤ 9999)) then .inr () else .inl false) := by
  refine loop_list (ρ := Bool ⊕ Unit) (e := .int .i64) l (fun i : Nat => (i : Int)) (fun n => decide (0 ≤ n ∧ n ≤ 9999)) (Sum.inl false) (Sum.inr ()) (fun i hi => ?_) ?_
  · have h1 : (i : Int) < l.length := by omega
    have h2 : (0 : Int) ≤ (i : Int) := by omega
    have hw : IntKind.wrap .i64 ((i : Int) + 1) = ((i + 1 : Nat) : Int) := by rw [wrap64 (by omega)]; omega
    simp only [g_Ss_l1Val_0, RT.sel, cond_true, h1, h2, hw, decide_true, and_self, Int.toNat_natCast, (s_l1In_f _ _ _).1, (s_l1In_f _ _ _).2]
    cases decide (0 ≤ at_ (.int .i64) l i ∧ at_ (.int .i64) l i ≤ 9999) <;> rfl
  · simp [g_Ss_l1Val_0, RT.sel]
theorem s_l1Val_f (l : List Int) (hl : l.length ≤ 1048576) : g_As_l1Val l = true ∧ g_Vs_l1Val_0 l = valP l := by
  have hk := s_l1Val_loop l hl
  have e1 : decide ((1 : Int) ≤ (l.length : Int) ∧ (l.length : Int) ≤ 3) = decide (1 ≤ l.length ∧ l.length ≤ 3) := decide_eq_decide.2 (by omega)
  constructor
  · simp only [g_As_l1Val, hk, okO, valO, (s_l1In_f _ _ _).1]; simp
  · simp only [g_Vs_l1Val_0, hk, valO, (s_l1In_f _ _ _).2, e1, valP, Option.getD_some]
    cases l.all (fun n => decide (0 ≤ n ∧ n ≤ 9999)) <;> cases decide (1 ≤ l.length ∧ l.length ≤ 3) <;> rfl
theorem i_valOk_1_f (n : Int) : g_Ai_valOk_1 n = true ∧ g_Vi_valOk_1_0 n = !decide (0 ≤ n ∧ n ≤ 9999) := ⟨(i_in_f _ _ _).1, congrArg not (i_in_f _ _ _).2⟩
theorem i_valOk_f (l : List Int) (hl : l.length ≤ 1048576) : g_Ai_valOk l = true ∧ g_Vi_valOk_0 l = valP l := by
  obtain ⟨r, h1, h2⟩ := loop_idx (e := .int .i64) l (step := g_Sslices_IndexFunc_int_int__i_valOk_1_0 l (l.length : Int)) (fun n => !decide (0 ≤ n ∧ n ≤ 9999)) (fun i hi => by
    have h1 : (i : Int) < l.length := by omega
    have h2 : (0 : Int) ≤ (i : Int) := by omega
    have hw : IntKind.wrap .i64 ((i : Int) + 1) = ((i + 1 : Nat) : Int) := by rw [wrap64 (by omega)]; omega
    simp only [g_Sslices_IndexFunc_int_int__i_valOk_1_0, RT.sel, cond_true, h1, h2, hw, decide_true, and_self, Int.toNat_natCast, (i_valOk_1_f _).1, (i_valOk_1_f _).2]) (by simp [g_Sslices_IndexFunc_int_int__i_valOk_1_0, RT.sel])
  have h1 : g_Lslices_IndexFunc_int_int__i_valOk_1_0 l (l.length : Int) 0 = some r := h1
  have e1 : decide ((1 : Int) ≤ (l.length : Int) ∧ (l.length : Int) ≤ 3) = decide (1 ≤ l.length ∧ l.length ≤ 3) := decide_eq_decide.2 (by omega)
  constructor
  · simp [g_Ai_valOk, (i_in_f _ _ _).1, g_Aslices_ContainsFunc_int_int__i_valOk_1, g_Aslices_IndexFunc_int_int__i_valOk_1, h1, okO]
  · simp only [g_Vi_valOk_0, (i_in_f _ _ _).2, e1, g_Vslices_ContainsFunc_int_int__i_valOk_1_0, g_Vslices_IndexFunc_int_int__i_valOk_1_0, h1, valO, Option.getD_some, h2, valP]
    rw [show (l.any fun n => !decide (0 ≤ n ∧ n ≤ 9999)) = !(l.all fun n => decide (0 ≤ n ∧ n ≤ 9999)) by rw [List.not_all_eq_any_not], Bool.not_not]
    cases decide (1 ≤ l.length ∧ l.length ≤ 3) <;> rfl
theorem i_WrtOk_f (k : ByteArray) (d : Bool) (l : List Int) (hl : l.length ≤ 1048576) : g_Ai_WrtOk k d l = true ∧ g_Vi_WrtOk_0 k d l = wrtP k d l := by
  constructor
  · simp [g_Ai_WrtOk, (i_keyOk_f _).1, (i_valOk_f _ hl).1]
  · simp only [g_Vi_WrtOk_0, (i_keyOk_f _).2, (i_valOk_f _ hl).2, wrtP]
    cases d <;> cases keyP k <;> cases l <;> simp <;> omega
theorem s_WrtOk_f (k : ByteArray) (d : Bool) (l : List Int) (hl : l.length ≤ 1048576) : g_As_WrtOk k d l = true ∧ g_Vs_WrtOk_0 k d l = wrtP k d l := by
  constructor
  · simp [g_As_WrtOk, (s_l1Key_f _).1, (s_l1Val_f _ hl).1]
  · simp only [g_Vs_WrtOk_0, (s_l1Key_f _).2, (s_l1Val_f _ hl).2, wrtP]
    cases d <;> cases keyP k <;> cases l <;> simp <;> omega
end Go.Proofs.YtopoiinmhajhmaaDoor.E
end
section
namespace Go.Proofs.YtopoiinmhajhmaaDoor.E
open Go
theorem cond_nf (a b : Bool) : (bif !a then false else b) = (a && b) := by cases a <;> rfl
theorem cond_f (a b : Bool) : (bif a then b else false) = (a && b) := by cases a <;> rfl
/-- What is done has just its numbers. -/
def opK (k w i c s f g : Int) : Bool :=
  bif decide (k = 1) || decide (k = 5) then decide (c = 0) && (decide (s = 0) && (decide (f = 0) && decide (g = 0)))
  else bif decide (k = 2) then decide (f = 0) && decide (g = 0)
  else bif decide (k = 3) then decide (w = 0) && (decide (i = 0) && decide (g = 0))
  else decide (k = 4) && (decide (w = 0) && (decide (i = 0) && (decide (c = 0) && decide (s = 0))))
def opP (k w i c s f g : Int) : Bool := decide (0 ≤ w ∧ w ≤ 9) && (decide (0 ≤ i ∧ i ≤ 9) && (decide (0 ≤ c ∧ c ≤ 9) && (decide (0 ≤ f ∧ f ≤ 9) && (decide (0 ≤ s ∧ s ≤ 99) && (decide (0 ≤ g ∧ g ≤ 99) && opK k w i c s f g)))))
theorem i_OpOk_f (k w i c s f g : Int) : g_Ai_OpOk k w i c s f g = true ∧ g_Vi_OpOk_0 k w i c s f g = opP k w i c s f g := by
  have i1 : ∀ a b : Int, (a == b) = decide (a = b) := fun _ _ => rfl
  constructor
  · simp [g_Ai_OpOk, g_Ai_OpOk_1, g_Ai_OpOk_2, (i_in_f _ _ _).1]
  · simp only [g_Vi_OpOk_0, g_Vi_OpOk_1_0, g_Vi_OpOk_2_0, (i_in_f _ _ _).2, i1, decide_true, Bool.true_and, Bool.and_true, cond_nf, opP, opK]
    congr 1; congr 1; congr 1; congr 1; congr 1; congr 1
    by_cases h1 : k = 1
    · subst h1; simp
    · by_cases h5 : k = 5
      · subst h5; simp
      · by_cases h2 : k = 2
        · subst h2; simp
        · by_cases h3 : k = 3
          · subst h3; simp
          · simp [h1, h2, h3, h5]
theorem s_OpOk_f (k w i c s f g : Int) : g_As_OpOk k w i c s f g = true ∧ g_Vs_OpOk_0 k w i c s f g = opP k w i c s f g := by
  have i1 : ∀ a b : Int, (a == b) = decide (a = b) := fun _ _ => rfl
  constructor
  · simp [g_As_OpOk, (s_l1In_f _ _ _).1]
  · have e : opP k w i c s f g = (decide (0 ≤ w ∧ w ≤ 9) && (decide (0 ≤ i ∧ i ≤ 9) && (decide (0 ≤ c ∧ c ≤ 9) && (decide (0 ≤ s ∧ s ≤ 99) && (decide (0 ≤ f ∧ f ≤ 9) && (decide (0 ≤ g ∧ g ≤ 99) && opK k w i c s f g)))))) := by
      unfold opP
      congr 1; congr 1; congr 1
      rw [← Bool.and_assoc, ← Bool.and_assoc (decide (0 ≤ s ∧ s ≤ 99)), Bool.and_comm (decide (0 ≤ f ∧ f ≤ 9))]
    rw [e]
    simp only [g_Vs_OpOk_0, (s_l1In_f _ _ _).2, i1, cond_nf, cond_f, opK]
    congr 1; congr 1; congr 1; congr 1; congr 1; congr 1
    by_cases h1 : k = 1
    · subst h1; simp
    · by_cases h5 : k = 5
      · subst h5; simp
      · by_cases h2 : k = 2
        · subst h2; simp
        · by_cases h3 : k = 3
          · subst h3; simp
          · simp [h1, h2, h3, h5]
theorem jaOk_f : g_Aw_jaOk = true ∧ g_Vw_jaOk_0 = true := by
  unfold g_Aw_jaOk g_Vw_jaOk_0
  obtain ⟨a, b⟩ := i_WrtOk_f (lit [97, 49]) false [1] (by decide)
  rw [a, b]
  refine ⟨rfl, ?_⟩
  decide +kernel
/-! draws: a reader's place stays small -/
theorem wrapS {x : Int} (h : 0 ≤ x ∧ x ≤ 100000) : IntKind.wrap .i64 (x + 1) = x + 1 := wrap64 (by omega)
theorem pickA_f (r0 : List Int) (r1 n : Int) (h : 0 ≤ r1 ∧ r1 ≤ 100000) (hn : 1 ≤ n) (hl : r0.length ≤ 1048576) : g_pickA r0 r1 n = true := by
  have e1 : IntKind.wrap .i64 (IntKind.wrap .i64 (r1 + 1) - 1) = r1 := by rw [wrapS h, wrap64 (by omega)]; omega
  have e2 : IntKind.wrap .i64 (IntKind.wrap .i64 (r1 * 7) + 3) = r1 * 7 + 3 := by rw [wrap64 (x := r1 * 7) (by omega), wrap64 (by omega)]
  have e3 : (n == 0) = false := by simpa using (by omega : n ≠ 0)
  unfold g_pickA
  simp only [g_As_l20Rd_pick0, e1, e2, e3]
  by_cases hz : r0.length = 0
  · simp [hz]
  · have hp : (0 : Int) < (r0.length : Int) := by omega
    have t1 : 0 ≤ Int.tmod r1 r0.length := Int.tmod_nonneg _ h.1
    have t2 : Int.tmod r1 r0.length < r0.length := Int.tmod_lt_of_pos _ hp
    have t3 : 0 ≤ Int.tmod (r1 * 7 + 3) r0.length := Int.tmod_nonneg _ (by omega)
    have t4 : Int.tmod (r1 * 7 + 3) r0.length < r0.length := Int.tmod_lt_of_pos _ hp
    have z : ((r0.length : Int) == 0) = false := by simpa using hz
    by_cases hlt : r1 < (r0.length : Int)
    · simp [hlt, h.1]
    · simp only [decide_eq_false hlt, cond_false, z, Bool.not_false, Bool.true_and, t1, t2, t3, t4, and_self, decide_true, Bool.or_true]
theorem oddA_f (r0 : List Int) (r1 n : Int) (h : 0 ≤ r1 ∧ r1 ≤ 100000) (hl : r0.length ≤ 1048576) : g_As_l20Rd_odd r0 r1 n = true := by
  unfold g_As_l20Rd_odd
  by_cases hn : n > 0
  · rw [pickA_f r0 r1 n h (by omega) hl]; simp
  · simp [hn]
theorem open_f (a : List Int) : g_As_l20Open a = true ∧ (g_Vs_l20Open_0 a).length ≤ 2000 ∧ g_Vs_l20Open_1 a = 0 := by
  refine ⟨?_, ?_, ?_⟩
  · unfold g_As_l20Open
    by_cases h : (a.length : Int) > 2000
    · have : (2000 : Int) ≤ a.length := by omega
      simp [h, this]
    · simp [h]
      cases decide ((2000 : Int) ≤ a.length) <;> rfl
  · unfold g_Vs_l20Open_0
    by_cases h : (a.length : Int) > 2000
    · rw [decide_eq_true h, cond_true]; exact Nat.le_trans (by rw [List.length_drop]; exact Nat.sub_le _ _) (List.length_take_le 2000 a)
    · rw [decide_eq_false h, cond_false]; omega
  · unfold g_Vs_l20Open_1
    generalize decide ((a.length : Int) > 2000) = p
    cases p <;> rfl
end Go.Proofs.YtopoiinmhajhmaaDoor.E
end
section
namespace Go.Proofs.YtopoiinmhajhmaaDoor.E
open Go
set_option maxHeartbeats 4000000
set_option maxRecDepth 100000
theorem wrapL {x : Int} (h : 0 ≤ x ∧ x ≤ 100000) : IntKind.wrap .i64 x = x := wrap64 (by omega)
/-- A reader's bytes. -/
def RdOk (r0 : List Int) : Prop := r0.length ≤ 1048576 ∧ ∀ n ∈ r0, 0 ≤ n ∧ n < 256
theorem at_u8 {r0 : List Int} (h : RdOk r0) (i : Nat) : ∃ x : Int, at_ (.int .u8) r0 i = x ∧ 0 ≤ x ∧ x < 256 := by
  by_cases hi : i < r0.length
  · exact ⟨_, rfl, h.2 _ (at_mem (e := .int .u8) hi)⟩
  · refine ⟨0, by simp [at_, List.getElem?_eq_none (by omega : r0.length ≤ i), Ty.zero], by omega, by omega⟩
theorem xor_small {x y : Int} (hx : 0 ≤ x ∧ x < 16777216) (hy : 0 ≤ y ∧ y < 16777216) : ((BitVec.toNat (BitVec.ofInt 64 x ^^^ BitVec.ofInt 64 y) : Nat) : Int) < 16777216 := by
  have key : ∀ z : Int, 0 ≤ z ∧ z < 16777216 → (BitVec.ofInt 64 z).toNat < 2 ^ 24 := by
    intro z hz
    rw [BitVec.toNat_ofInt]
    have : z % ((2 ^ 64 : Nat) : Int) = z := Int.emod_eq_of_lt hz.1 (by omega)
    rw [this]
    omega
  have := Nat.xor_lt_two_pow (key x hx) (key y hy)
  rw [BitVec.toNat_xor]
  omega
theorem pick_f (r0 : List Int) (r1 n : Int) (h : 0 ≤ r1 ∧ r1 ≤ 100000) (hn : 1 ≤ n) (hr : RdOk r0) : 0 ≤ g_pick r0 r1 n ∧ g_pick r0 r1 n < n := by
  have e1 : IntKind.wrap .i64 (IntKind.wrap .i64 (r1 + 1) - 1) = r1 := by rw [wrapS h, wrap64 (by omega)]; omega
  have e2 : IntKind.wrap .i64 (IntKind.wrap .i64 (r1 * 7) + 3) = r1 * 7 + 3 := by rw [wrap64 (x := r1 * 7) (by omega), wrap64 (by omega)]
  have tm : ∀ x : Int, 0 ≤ x → 0 ≤ Int.tmod x n ∧ Int.tmod x n < n := fun x hx => ⟨Int.tmod_nonneg _ hx, Int.tmod_lt_of_pos _ (by omega)⟩
  unfold g_pick
  simp only [g_Vs_l20Rd_pick0_0, e1, e2]
  rw [decide_eq_false (by omega : ¬ n < 1), cond_false]
  by_cases hz : r0.length = 0
  · rw [show ((r0.length : Int) == 0) = true by simp [hz], cond_true]; omega
  · have hp : (0 : Int) < (r0.length : Int) := by omega
    rw [show ((r0.length : Int) == 0) = false by simpa using hz, cond_false]
    by_cases hlt : r1 < (r0.length : Int)
    · rw [decide_eq_true hlt, cond_true]
      obtain ⟨x, e, b⟩ := at_u8 hr r1.toNat
      rw [e, wrap64 (by omega)]
      exact tm _ b.1
    · rw [decide_eq_false hlt, cond_false]
      obtain ⟨x1, y1, b1⟩ := at_u8 hr (Int.tmod r1 r0.length).toNat
      obtain ⟨x2, y2, b2⟩ := at_u8 hr (Int.tmod (r1 * 7 + 3) r0.length).toNat
      have d0 : 0 ≤ Int.tdiv r1 r0.length := Int.tdiv_nonneg h.1 (by omega)
      have d1 : Int.tdiv r1 r0.length ≤ r1 := by
        rw [Int.tdiv_eq_ediv_of_nonneg h.1]
        exact Int.ediv_le_self _ h.1
      rw [y1, y2]
      generalize Int.tdiv r1 r0.length = q at d0 d1 ⊢
      rw [wrap64 (x := x1) (by omega), wrap64 (x := x2) (by omega), wrap64 (x := x1 * 131) (by omega), wrap64 (x := x2 * 1117) (by omega), wrap64 (x := r1 * 29) (by omega), wrap64 (x := q) (by omega), wrap64 (x := q * 53) (by omega), wrap64 (x := x1 * 131 + x2 * 1117) (by omega), wrap64 (x := x1 * 131 + x2 * 1117 + r1 * 29) (by omega), wrap64 (x := x1 * 131 + x2 * 1117 + r1 * 29 + q * 53) (by omega)]
      generalize hX : x1 * 131 + x2 * 1117 + r1 * 29 + q * 53 = X
      have hX0 : 0 ≤ X ∧ X < 16777216 := by omega
      have hD : 0 ≤ Int.tdiv X 64 ∧ Int.tdiv X 64 < 16777216 := by
        rw [Int.tdiv_eq_ediv_of_nonneg hX0.1]
        omega
      rw [wrap64 (x := Int.tdiv X 64) (by omega)]
      have hx := xor_small hX0 hD
      have hx : (((BitVec.ofInt (nat_lit 64) X ^^^ BitVec.ofInt (nat_lit 64) (Int.tdiv X 64)).toNat : Nat) : Int) < 16777216 := hx
      generalize (BitVec.ofInt (nat_lit 64) X ^^^ BitVec.ofInt (nat_lit 64) (Int.tdiv X 64)).toNat = Y at hx ⊢
      rw [wrap64 (by omega)]
      exact tm _ (by omega)
theorem opA_f (r0 : List Int) (n : Int) (hn : 0 < n) (hr : RdOk r0) : g_As_l20Op r0 0 n = true := by
  have hl := hr.1
  unfold g_As_l20Op
  simp only [g_Vs_l20Rd_odd_1, g_Vs_l20Rd_odd_2, hn, gt_iff_lt, decide_true, cond_true]
  simp [pickA_f, oddA_f, wrapL, hl, pick_f, hr]
theorem open_ok (a : List Int) (h : ∀ n ∈ a, (Lit.int .u8 n).wf = true) : RdOk (g_Vs_l20Open_0 a) := by
  have hb : ∀ n ∈ a, 0 ≤ n ∧ n < 256 := by
    intro n hn
    have := h n hn
    simp [Lit.wf, IntKind.min, IntKind.max, IntKind.bits, IntKind.signed] at this
    omega
  refine ⟨by have := (open_f a).2.1; omega, fun n hn => hb n ?_⟩
  unfold g_Vs_l20Open_0 at hn
  generalize decide ((a.length : Int) > 2000) = p at hn
  cases p
  · exact hn
  · exact List.mem_of_mem_take (List.mem_of_mem_drop hn)
end Go.Proofs.YtopoiinmhajhmaaDoor.E
end
section
namespace Go.Proofs.YtopoiinmhajhmaaDoor.E
open Go
set_option maxHeartbeats 4000000
theorem drawOpPlaces_f (a : List Int) (h : ∀ n ∈ a, (Lit.int .u8 n).wf = true) : g_As_DrawOpPlaces a = true := by
  obtain ⟨h1, h2, h3⟩ := open_f a
  unfold g_As_DrawOpPlaces
  rw [h1, h3, opA_f _ _ (by decide) (open_ok a h)]
  rfl
theorem jaInts_self (l : List Int) (hl : l.length ≤ 1048576) : g_Aw_jaInts l l = true ∧ g_Vw_jaInts_0 l l = true := by
  have h : g_Lw_jaInts_0 l l 0 = some (.inr ()) := by
    have := loop_all (step := g_Sw_jaInts_0 l l) (fun i : Nat => (i : Int)) (fun _ => true) (.inl false) (.inr ()) l.length (fun i hi => by
      have k1 : (i : Int) < l.length := by omega
      have k2 : (0 : Int) ≤ (i : Int) := by omega
      have hw : IntKind.wrap .i64 ((i : Int) + 1) = ((i + 1 : Nat) : Int) := by rw [wrap64 (by omega)]; omega
      simp only [g_Sw_jaInts_0, RT.sel, cond_true, k1, k2, hw, decide_true, and_self, Int.toNat_natCast, bne_self_eq_false, cond_false]) (by simp [g_Sw_jaInts_0, RT.sel])
    rw [show (List.range l.length).all (fun _ => true) = true by simp] at this
    exact this
  simp [g_Aw_jaInts, g_Vw_jaInts_0, h, okO, valO, isL]
theorem jaIn_f (l : List Int) (n : Int) (hl : l.length ≤ 1048576) : g_Aw_jaIn l n = true ∧ g_Vw_jaIn_0 l n = !l.all (fun x => !(x == n)) := by
  have h := loop_list (e := .int .i64) (step := g_Sw_jaIn_0 l n) l (fun i : Nat => (i : Int)) (fun x => !(x == n)) (.inl true) (.inr ()) (fun i hi => by
      have k1 : (i : Int) < l.length := by omega
      have k2 : (0 : Int) ≤ (i : Int) := by omega
      have hw : IntKind.wrap .i64 ((i : Int) + 1) = ((i + 1 : Nat) : Int) := by rw [wrap64 (by omega)]; omega
      simp only [g_Sw_jaIn_0, RT.sel, cond_true, k1, k2, hw, decide_true, and_self, Int.toNat_natCast]
      cases hb : (at_ (.int .i64) l i == n) <;> rfl) (by simp [g_Sw_jaIn_0, RT.sel])
  have h : g_Lw_jaIn_0 l n 0 = _ := h
  refine ⟨by simp [g_Aw_jaIn, h, okO], ?_⟩
  simp only [g_Vw_jaIn_0, h, valO, Option.getD_some]
  cases l.all (fun x => !(x == n)) <;> rfl
theorem loop13 (k w i c s f g : Int) : g_Lw_FnOpPlaces_0 [1, 3] k w i c s f g 1 = some (.inr ()) := by
  unfold g_Lw_FnOpPlaces_0
  rw [loopO_eq]
  have e1 : (g_Sw_FnOpPlaces_0 [1, 3] k w i c s f g 1).sel = .go 2 := by simp [g_Sw_FnOpPlaces_0, RT.sel, wrap64, at_]
  rw [e1]
  show loopO _ 2 = _
  rw [loopO_eq]
  have e2 : (g_Sw_FnOpPlaces_0 [1, 3] k w i c s f g 2).sel = .out (.inr ()) := by simp [g_Sw_FnOpPlaces_0, RT.sel]
  rw [e2]
theorem loop23 (k w i c s f g : Int) : g_Lw_FnOpPlaces_0 [2, 3] k w i c s f g 1 = some (.inr ()) := by
  unfold g_Lw_FnOpPlaces_0
  rw [loopO_eq]
  have e1 : (g_Sw_FnOpPlaces_0 [2, 3] k w i c s f g 1).sel = .go 2 := by simp [g_Sw_FnOpPlaces_0, RT.sel, wrap64, at_]
  rw [e1]
  show loopO _ 2 = _
  rw [loopO_eq]
  have e2 : (g_Sw_FnOpPlaces_0 [2, 3] k w i c s f g 2).sel = .out (.inr ()) := by simp [g_Sw_FnOpPlaces_0, RT.sel]
  rw [e2]
theorem loop123 (k w i c s f g : Int) : g_Lw_FnOpPlaces_0 [1, 2, 3] k w i c s f g 1 = some (.inr ()) := by
  unfold g_Lw_FnOpPlaces_0
  rw [loopO_eq]
  have e1 : (g_Sw_FnOpPlaces_0 [1, 2, 3] k w i c s f g 1).sel = .go 2 := by simp [g_Sw_FnOpPlaces_0, RT.sel, wrap64, at_]
  rw [e1]
  show loopO _ 2 = _
  rw [loopO_eq]
  have e2 : (g_Sw_FnOpPlaces_0 [1, 2, 3] k w i c s f g 2).sel = .go 3 := by simp [g_Sw_FnOpPlaces_0, RT.sel, wrap64, at_]
  rw [e2]
  show loopO _ 3 = _
  rw [loopO_eq]
  have e3 : (g_Sw_FnOpPlaces_0 [1, 2, 3] k w i c s f g 3).sel = .out (.inr ()) := by simp [g_Sw_FnOpPlaces_0, RT.sel]
  rw [e3]
/-- The places that an op has. -/
def placesP (k w i c s f g : Int) : List Int :=
  bif !opP k w i c s f g then [] else bif k == 1 then [1, 3] else bif k == 2 then [1, 2, 3] else bif k == 5 then [1, 2, 3] else [2, 3]
theorem placesP_len (k w i c s f g : Int) : (placesP k w i c s f g).length ≤ 3 := by
  unfold placesP
  cases opP k w i c s f g <;> cases (k == 1) <;> cases (k == 2) <;> cases (k == 5) <;> simp
theorem i_OpPlaces_f (k w i c s f g : Int) : g_Ai_OpPlaces k w i c s f g = true ∧ g_Vi_OpPlaces_0 k w i c s f g = placesP k w i c s f g := by
  unfold g_Ai_OpPlaces g_Vi_OpPlaces_0 placesP
  simp [(i_OpOk_f _ _ _ _ _ _ _).1, (i_OpOk_f _ _ _ _ _ _ _).2]
theorem s_OpPlaces_f (k w i c s f g : Int) : g_As_OpPlaces k w i c s f g = true ∧ g_Vs_OpPlaces_0 k w i c s f g = placesP k w i c s f g := by
  unfold g_As_OpPlaces g_Vs_OpPlaces_0 placesP
  simp only [(s_OpOk_f _ _ _ _ _ _ _).1, (s_OpOk_f _ _ _ _ _ _ _).2]
  cases (k == 2) <;> simp
theorem pure_FnOpPlaces (a : List Int) (ok : a.length ≤ maxLen ∧ ∀ n ∈ a, (Lit.int .u8 n).wf = true) : Fw_FnOpPlaces [argRV false (.sl 5 (.int .u8)) a] = some (true, .val false [.bool true], []) := by
  show some (g_Aw_FnOpPlaces a, RV.val false [Cell.bool (g_Vw_FnOpPlaces_0 a)], []) = _
  have key : g_Aw_FnOpPlaces a = true ∧ g_Vw_FnOpPlaces_0 a = true := by
    simp only [g_Aw_FnOpPlaces, g_Vw_FnOpPlaces_0, drawOpPlaces_f a ok.2, (i_OpPlaces_f _ _ _ _ _ _ _).1, (i_OpPlaces_f _ _ _ _ _ _ _).2, (s_OpPlaces_f _ _ _ _ _ _ _).1, (s_OpPlaces_f _ _ _ _ _ _ _).2, (s_OpOk_f _ _ _ _ _ _ _).1, (s_OpOk_f _ _ _ _ _ _ _).2, jaOk_f.1, jaOk_f.2]
    generalize g_Vs_DrawOpPlaces_0 a = k
    generalize g_Vs_DrawOpPlaces_1 a = w
    generalize g_Vs_DrawOpPlaces_2 a = i
    generalize g_Vs_DrawOpPlaces_3 a = c
    generalize g_Vs_DrawOpPlaces_4 a = s
    generalize g_Vs_DrawOpPlaces_5 a = f
    generalize g_Vs_DrawOpPlaces_6 a = g
    have hL := placesP_len k w i c s f g
    obtain ⟨j1, j2⟩ := jaInts_self (placesP k w i c s f g) (by omega)
    obtain ⟨q1, q2⟩ := jaIn_f (placesP k w i c s f g) 1 (by omega)
    rw [j1, j2, q1, q2]
    by_cases h : opP k w i c s f g = true
    · unfold placesP
      rw [h]
      by_cases k1 : k = 1
      · subst k1; simp [loop13, okO, valO, isL, at_, wrap64, Bool.cond_self]
      · by_cases k2 : k = 2
        · subst k2; simp [loop123, okO, valO, isL, at_, wrap64, Bool.cond_self]
        · by_cases k5 : k = 5
          · subst k5; simp [loop123, okO, valO, isL, at_, wrap64, Bool.cond_self]
          · have b1 : (k == 1) = false := by simpa using k1
            have b2 : (k == 2) = false := by simpa using k2
            have b5 : (k == 5) = false := by simpa using k5
            rw [b1, b2, b5]
            simp [loop23, okO, valO, isL, at_, wrap64, Bool.cond_self]
    · have h : opP k w i c s f g = false := by simpa using h
      unfold placesP
      rw [h]
      simp [Bool.cond_self]
  rw [key.1, key.2]
end Go.Proofs.YtopoiinmhajhmaaDoor.E
end
