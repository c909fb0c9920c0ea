/- What these values are, in plain words: for the proof (laws.FnDiskOpen): part 1. No conditions. -/
import Derived.Test.YtkjeicijcecmlaaDoorGc
import Derived.Lib.SlTrimSet
set_option linter.all false
section
namespace Go.Proofs.YtkjeicijcecmlaaDoor.E
open Go
theorem wrap64 {x : Int} (h : -9223372036854775808 ≤ x ∧ x < 9223372036854775808) : IntKind.wrap .i64 x = x := by
  simp only [IntKind.wrap, IntKind.bits, IntKind.signed]
  simp
  omega
def forR {α ρ : Type} (f : Nat → α → α ⊕ ρ) (fin : α → ρ) : Nat → Nat → α → ρ
  | 0, _, a => fin a
  | k + 1, i, a => match f i a with
    | .inl a' => forR f fin k (i + 1) a'
    | .inr r => r
section
variable {σ ρ α β : Type} {step : σ → RT σ ρ}
theorem loop_for (mk : Nat → α → σ) (f : Nat → α → α ⊕ ρ) (fin : α → ρ) (n : Nat) (J : Nat → α → Prop)
    (h1 : ∀ i a, i < n → J i a → (step (mk i a)).sel = (match f i a with | .inl a' => .go (mk (i + 1) a') | .inr r => .out r) ∧ ∀ a', f i a = .inl a' → J (i + 1) a')
    (h2 : ∀ a, J n a → (step (mk n a)).sel = .out (fin a)) : ∀ (k i : Nat) (a : α), i + k = n → J i a → loopO step (mk i a) = some (forR f fin k i a) := by
  intro k
  induction k with
  | zero =>
    intro i a hi hJ
    have hi : i = n := by omega
    subst hi
    rw [loopO_eq, h2 a hJ]
    rfl
  | succ k ih =>
    intro i a hi hJ
    obtain ⟨h3, h4⟩ := h1 i a (by omega) hJ
    rw [loopO_eq, h3]
    unfold forR
    cases hf : f i a with
    | inl a' => simp only; exact ih (i + 1) a' (by omega) (h4 a' hf)
    | inr r => rfl
/-- A loop that looks whether something is so of all. -/
theorem loop_all (mk : Nat → σ) (p : Nat → Bool) (e fin : ρ) (n : Nat) (h1 : ∀ i, i < n → (step (mk i)).sel = bif p i then .go (mk (i + 1)) else .out e) (h2 : (step (mk n)).sel = .out fin) :
    loopO step (mk 0) = some (bif (List.range n).all p then fin else e) := by
  have key : ∀ k i, i + k = n → loopO step (mk i) = some (bif (List.range' i k).all p then fin else e) := by
    intro k
    induction k with
    | zero =>
      intro i hi
      have hi : i = n := by omega
      subst hi
      rw [loopO_eq, h2]
      rfl
    | succ k ih =>
      intro i hi
      rw [loopO_eq, h1 i (by omega), List.range'_succ, List.all_cons]
      cases p i with
      | true => simp only [cond_true, Bool.true_and]; exact ih (i + 1) (by omega)
      | false => rfl
  rw [key n 0 (by omega), List.range_eq_range']
theorem range_all {e : Ty} (l : List e.den) (p : e.den → Bool) : (List.range l.length).all (fun i => p (at_ e l i)) = l.all p := by
  rw [Bool.eq_iff_iff, List.all_eq_true, List.all_eq_true]
  constructor
  · intro h x hx
    obtain ⟨i, hi, rfl⟩ := List.getElem_of_mem hx
    have := h i (List.mem_range.2 hi)
    simpa [at_, hi] using this
  · intro h i hi
    have hi := List.mem_range.1 hi
    have := h l[i] (List.getElem_mem hi)
    simpa [at_, hi] using this
theorem at_mem {e : Ty} {l : List e.den} {i : Nat} (h : i < l.length) : at_ e l i ∈ l := by
  have : at_ e l i = l[i] := by simp [at_, h]
  rw [this]
  exact List.getElem_mem h
theorem at_eq {e : Ty} {l : List e.den} {i : Nat} (h : i < l.length) : at_ e l i = l[i] := by simp [at_, h]
/-- The same, over the elements of a list. -/
theorem loop_list {e : Ty} (l : List e.den) (mk : Nat → σ) (p : e.den → Bool) (x fin : ρ) (h1 : ∀ i, i < l.length → (step (mk i)).sel = bif p (at_ e l i) then .go (mk (i + 1)) else .out x) (h2 : (step (mk l.length)).sel = .out fin) :
    loopO step (mk 0) = some (bif l.all p then fin else x) := by
  rw [loop_all mk (fun i => p (at_ e l i)) x fin l.length h1 h2, range_all]
/-- A loop that makes a list out of a list. -/
theorem loop_map {e : Ty} (l : List e.den) {ρ : Type} {step : List β × Int → RT (List β × Int) ρ} (g : e.den → β) (out : List β → ρ)
    (h1 : ∀ (i : Nat) (r : List β), i < l.length → r.length = l.length → (step (r, (i : Int))).sel = .go (r.set i (g (at_ e l i)), ((i + 1 : Nat) : Int)))
    (h2 : ∀ r : List β, r.length = l.length → (step (r, (l.length : Int))).sel = .out (out r)) (r0 : List β) (h0 : r0.length = l.length) : loopO step (r0, 0) = some (out (l.map g)) := by
  have key : ∀ (k i : Nat) (r : List β), i + k = l.length → r.length = l.length → r.take i = (l.map g).take i → loopO step (r, (i : Int)) = some (out (l.map g)) := by
    intro k
    induction k with
    | zero =>
      intro i r hi hr ht
      have hi : i = l.length := by omega
      subst hi
      rw [loopO_eq, h2 r hr]
      have e1 : r.take l.length = r := by rw [← hr, List.take_length]
      have e2 : (l.map g).take l.length = l.map g := by rw [List.take_of_length_le (by simp)]
      rw [e1, e2] at ht
      rw [ht]
    | succ k ih =>
      intro i r hi hr ht
      rw [loopO_eq, h1 i r (by omega) hr]
      simp only
      refine ih (i + 1) _ (by omega) (by simp [hr]) ?_
      have hil : i < l.length := by omega
      rw [List.take_succ, List.take_succ, List.take_set_of_le (by omega), ht]
      congr 1
      simp [hr, hil, at_]
  exact key l.length 0 r0 (by omega) h0 (by simp)
/-- The sum of the sizes from i on. -/
def sumF (t : Nat → Nat) : Nat → Nat → Nat
  | 0, _ => 0
  | k + 1, i => t i + sumF t k (i + 1)
theorem sumF_le {t : Nat → Nat} : ∀ {k i j : Nat}, i ≤ j → j < i + k → t j ≤ sumF t k i
  | 0, i, j, h1, h2 => absurd h2 (by omega)
  | k + 1, i, j, h1, h2 => by
    unfold sumF
    by_cases e : i = j
    · subst e; omega
    · have := sumF_le (t := t) (k := k) (i := i + 1) (j := j) (by omega) (by omega)
      omega
/-- What is left of a number. -/
def left_ (t : Nat) (left : Int) : Int := if (t : Int) ≤ left then left - t else -1
theorem left_pos {t : Nat} {left : Int} (h : ¬ left_ t left < 0) : (t : Int) ≤ left := by
  unfold left_ at h
  split at h
  · assumption
  · exact absurd (by decide : (-1 : Int) < 0) h
/-- A loop that counts what is left. -/
theorem loop_sz {step : Int × Int → RT (Int × Int) ((Int × Int) ⊕ Int)} (t : Nat → Nat) (n : Nat) (h1 : ∀ (i : Nat) (left : Int), i < n → 0 ≤ left → left ≤ 1048576 → (step (left, (i : Int))).sel = bif decide ((t i : Int) ≤ left) then .go (left - t i, ((i + 1 : Nat) : Int)) else .out (.inl (-1, -1)))
    (h2 : ∀ left : Int, (step (left, (n : Int))).sel = .out (.inr left)) (left : Int) (h0 : 0 ≤ left) (hl : left ≤ 1048576) :
    ∃ r, loopO step (left, 0) = some r ∧ (bif isL r then (getL r).2 else getR r) = left_ (sumF t n 0) left := by
  have key : ∀ (k i : Nat) (left : Int), i + k = n → 0 ≤ left → left ≤ 1048576 → ∃ r, loopO step (left, (i : Int)) = some r ∧ (bif isL r then (getL r).2 else getR r) = left_ (sumF t k i) left := by
    intro k
    induction k with
    | zero =>
      intro i left hi h0 hl
      have hi : i = n := by omega
      subst hi
      refine ⟨.inr left, by rw [loopO_eq, h2], ?_⟩
      simp [isL, getR, left_, sumF, h0]
    | succ k ih =>
      intro i left hi h0 hl
      rw [loopO_eq, h1 i left (by omega) h0 hl]
      by_cases hc : (t i : Int) ≤ left
      · simp only [hc, decide_true, cond_true]
        obtain ⟨r, e1, e2⟩ := ih (i + 1) (left - t i) (by omega) (by omega) (by omega)
        refine ⟨r, e1, ?_⟩
        rw [e2]
        unfold left_
        have e3 : sumF t (k + 1) i = t i + sumF t k (i + 1) := rfl
        rw [e3]
        by_cases hc2 : (sumF t k (i + 1) : Int) ≤ left - t i
        · rw [if_pos hc2, if_pos (by omega)]; omega
        · rw [if_neg hc2, if_neg (by omega)]
      · simp only [hc, decide_false, cond_false]
        refine ⟨_, rfl, ?_⟩
        have e3 : sumF t (k + 1) i = t i + sumF t k (i + 1) := rfl
        simp only [isL, getL, cond_true, left_]
        rw [e3, if_neg (by omega)]
  exact key n 0 left (by omega) h0 hl
/-- A loop that looks for the first of which something is so. -/
theorem loop_idx {e : Ty} (l : List e.den) {step : Int → RT Int (Int ⊕ Unit)} (q : e.den → Bool) (h1 : ∀ i : Nat, i < l.length → (step (i : Int)).sel = bif q (at_ e l i) then .out (.inl (i : Int)) else .go ((i + 1 : Nat) : Int))
    (h2 : (step (l.length : Int)).sel = .out (.inr ())) : ∃ r, loopO step 0 = some r ∧ decide ((bif isL r then getL r else (-1 : Int)) ≥ 0) = l.any q := by
  have key : ∀ (k i : Nat), i + k = l.length → ∃ r, loopO step (i : Int) = some r ∧ decide ((bif isL r then getL r else (-1 : Int)) ≥ 0) = (l.drop i).any q := by
    intro k
    induction k with
    | zero =>
      intro i hi
      have hi : i = l.length := by omega
      subst hi
      refine ⟨_, by rw [loopO_eq, h2], ?_⟩
      simp [isL]
    | succ k ih =>
      intro i hi
      rw [loopO_eq, h1 i (by omega)]
      have hil : i < l.length := by omega
      rw [List.drop_eq_getElem_cons hil, List.any_cons, at_eq hil]
      cases hq : q l[i] with
      | true => exact ⟨_, rfl, by simp [isL, getL]⟩
      | false => simp only [cond_false, Bool.false_or]; exact ih (i + 1) (by omega)
  exact key l.length 0 (by omega)
end
theorem dropWhile_nil {α : Type} (p : α → Bool) (l : List α) : l.dropWhile p = [] ↔ ∀ x ∈ l, p x = true := by
  induction l with
  | nil => simp
  | cons a l ih =>
    by_cases h : p a = true
    · rw [List.dropWhile_cons_of_pos h, ih]; simp [h]
    · rw [List.dropWhile_cons_of_neg h]; simp [h]
theorem trimS_nil (l cs : List UInt8) : (Lib.trimS l cs = []) ↔ l.all (cs.contains ·) = true := by
  unfold Lib.trimS Lib.trimLeftS Lib.trimRightS
  constructor
  · intro h
    rw [dropWhile_nil] at h
    rw [List.all_eq_true]
    intro x hx
    have h2 : ∀ (m : List UInt8), (∀ y ∈ (m.dropWhile (cs.contains ·)).reverse, cs.contains y = true) → ∀ y ∈ m, cs.contains y = true := by
      intro m
      induction m with
      | nil => intro _ y hy; cases hy
      | cons a m ih =>
        intro hm y hy
        by_cases ha : cs.contains a = true
        · rw [List.dropWhile_cons_of_pos ha] at hm
          rcases List.mem_cons.1 hy with rfl | hy
          · exact ha
          · exact ih hm y hy
        · rw [List.dropWhile_cons_of_neg ha] at hm
          exact hm y (List.mem_reverse.2 hy)
    exact h2 l.reverse (fun y hy => h y hy) x (by simpa using hx)
  · intro h
    rw [List.all_eq_true] at h
    rw [dropWhile_nil]
    intro x hx
    have : x ∈ l := by
      have h3 := List.mem_reverse.1 hx
      have := (List.dropWhile_sublist (fun x => cs.contains x) (l := l.reverse)).subset h3
      simpa using this
    exact h x this
/-- The first place where p holds, or -1. -/
def idxF {α : Type} (p : α → Bool) (l : List α) : Int := match l.findIdx? p with | some i => (i : Int) | none => -1
def numOk (n : Int) : Bool := decide (0 ≤ n) && decide (n ≤ 9999)
def valOk (l : List Int) : Bool := decide (1 ≤ l.length) && decide (l.length ≤ 3) && l.all numOk
end Go.Proofs.YtkjeicijcecmlaaDoor.E
end
section
namespace Go.Proofs.YtkjeicijcecmlaaDoor.E
open Go
/-! A loop, by what holds at its head. -/
theorem loop_inv {σ ρ : Type} {step : σ → RT σ ρ} (I : σ → Prop) (R : ρ → Prop) (μ : σ → Nat) (h : ∀ x, I x → (∃ y, (step x).sel = .go y ∧ I y ∧ μ y < μ x) ∨ ∃ r, (step x).sel = .out r ∧ R r) : ∀ x, I x → ∃ r, loopO step x = some r ∧ R r := by
  have key : ∀ n x, μ x ≤ n → I x → ∃ r, loopO step x = some r ∧ R r := by
    intro n
    induction n with
    | zero =>
      intro x hx hI
      rcases h x hI with ⟨y, _, _, h3⟩ | ⟨r, h1, h2⟩
      · omega
      · exact ⟨r, by rw [loopO_eq, h1], h2⟩
    | succ n ih =>
      intro x hx hI
      rcases h x hI with ⟨y, h1, h2, h3⟩ | ⟨r, h1, h2⟩
      · obtain ⟨r, e1, e2⟩ := ih y (by omega) h2
        exact ⟨r, by rw [loopO_eq, h1]; exact e1, e2⟩
      · exact ⟨r, by rw [loopO_eq, h1], h2⟩
  exact fun x hI => key (μ x) x (Nat.le_refl _) hI
theorem cond_f' (a b : Bool) : (bif a then b else false) = (a && b) := by cases a <;> rfl
end Go.Proofs.YtkjeicijcecmlaaDoor.E
end
section
namespace Go.Proofs.YtkjeicijcecmlaaDoor.E
open Go
theorem capF_f (a b k : Nat) (h : a + b ≤ 2200000) (hk : k ≤ 1000) : decide ((a + b) * k ≤ nat_lit 140737488355328 ∧ a + b ≤ nat_lit 9223372036854775807) = true := by
  have : (a + b) * k ≤ 2200000 * 1000 := Nat.mul_le_mul h hk
  exact decide_eq_true ⟨Nat.le_trans this (by decide), Nat.le_trans h (by decide)⟩
theorem cap0_f (b k : Nat) (h : b ≤ 1048576) (hk : k ≤ 1000) : decide ((nat_lit 0 + b) * k ≤ nat_lit 140737488355328 ∧ nat_lit 0 + b ≤ nat_lit 9223372036854775807) = true := capF_f 0 b k (by omega) hk
/-- A loop that lays one thing behind the other. -/
theorem loop_app {e : Ty} {σ ρ β : Type} {step : σ → RT σ ρ} (l : List e.den) (mk : Int → List β → σ) (g : e.den → β) (out : List β → ρ)
    (h1 : ∀ (i : Nat) (r : List β), i < l.length → r.length = i → (step (mk (i : Int) r)).sel = .go (mk ((i + 1 : Nat) : Int) (r ++ [g (at_ e l i)])))
    (h2 : ∀ r : List β, r.length = l.length → (step (mk (l.length : Int) r)).sel = .out (out r)) : loopO step (mk 0 []) = some (out (l.map g)) := by
  have key : ∀ (k i : Nat) (r : List β), i + k = l.length → r = (l.take i).map g → loopO step (mk (i : Int) r) = some (out (l.map g)) := by
    intro k
    induction k with
    | zero =>
      intro i r hi hr
      have hi : i = l.length := by omega
      subst hi
      rw [List.take_length] at hr
      rw [loopO_eq, h2 r (by rw [hr, List.length_map]), hr]
    | succ k ih =>
      intro i r hi hr
      have hil : i < l.length := by omega
      rw [loopO_eq, h1 i r hil (by rw [hr, List.length_map, List.length_take]; omega)]
      simp only
      refine ih (i + 1) _ (by omega) ?_
      rw [hr, at_eq hil, List.take_succ_eq_append_getElem hil, List.map_append]
      rfl
  exact key l.length 0 [] (by omega) (by simp)
/-- A fold that sees what is still to come. -/
def foldS {α β : Type} (f : List β → α → α) : List β → α → α
  | [], a => a
  | x :: r, a => foldS f r (f (x :: r) a)
theorem loop_foldS {e : Ty} {σ ρ α : Type} {step : σ → RT σ ρ} (l : List e.den) (mk : Int → α → σ) (f : List e.den → α → α) (out : α → ρ) (J : Nat → α → Prop)
    (h1 : ∀ (i : Nat) (a : α), i < l.length → J i a → (step (mk (i : Int) a)).sel = .go (mk ((i + 1 : Nat) : Int) (f (l.drop i) a)) ∧ J (i + 1) (f (l.drop i) a))
    (h2 : ∀ a : α, (step (mk (l.length : Int) a)).sel = .out (out a)) (a0 : α) (h0 : J 0 a0) : loopO step (mk 0 a0) = some (out (foldS f l a0)) ∧ J l.length (foldS f l a0) := by
  have key : ∀ (k i : Nat) (a : α), i + k = l.length → J i a → loopO step (mk (i : Int) a) = some (out (foldS f (l.drop i) a)) ∧ J l.length (foldS f (l.drop i) a) := by
    intro k
    induction k with
    | zero =>
      intro i a hi hJ
      have hi : i = l.length := by omega
      subst hi
      rw [loopO_eq, h2 a, List.drop_length]
      exact ⟨rfl, hJ⟩
    | succ k ih =>
      intro i a hi hJ
      have hil : i < l.length := by omega
      obtain ⟨e1, e2⟩ := h1 i a hil hJ
      rw [loopO_eq, e1]
      have := ih (i + 1) _ (by omega) e2
      rw [List.drop_eq_getElem_cons hil] at this ⊢
      exact this
  exact key l.length 0 a0 (by omega) h0
end Go.Proofs.YtkjeicijcecmlaaDoor.E
end
section
namespace Go.Proofs.YtkjeicijcecmlaaDoor.E
open Go
theorem byte_range (s : ByteArray) (i : Nat) : 0 ≤ byteAt s i ∧ byteAt s i < 256 := by
  unfold byteAt
  have := (s.data[i]?.getD 0).toNat_lt
  omega
theorem i_in_f (a b c : Int) : g_Ai_in a b c = true ∧ g_Vi_in_0 a b c = decide (b ≤ a ∧ a ≤ c) := by
  constructor
  · simp [g_Ai_in]
  · unfold g_Vi_in_0
    by_cases h : a ≥ b
    · simp [h]
    · simp [h]
theorem s_l1In_f (a b c : Int) : g_As_l1In a b c = true ∧ g_Vs_l1In_0 a b c = decide (b ≤ a ∧ a ≤ c) := by
  constructor
  · simp [g_As_l1In]
  · unfold g_Vs_l1In_0
    by_cases h : a ≥ b
    · simp [h]
    · simp [h]
def dig (b : UInt8) : Bool := decide (48 ≤ b.toNat ∧ b.toNat ≤ 57)
/-- A name: a small letter, and one or two digits. -/
def keyP (s : ByteArray) : Bool := decide (2 ≤ s.size ∧ s.size ≤ 3) && (decide (97 ≤ byteAt s 0 ∧ byteAt s 0 ≤ 122) && (s.data.toList.drop 1).all dig)
def valP (l : List Int) : Bool := decide (1 ≤ l.length ∧ l.length ≤ 3) && l.all fun n => decide (0 ≤ n ∧ n ≤ 9999)
def wrtP (k : ByteArray) (d : Bool) (l : List Int) : Bool := keyP k && bif d then l.isEmpty else valP l
theorem dig_mem (b : UInt8) : [48, 49, 50, 51, 52, 53, 54, 55, 56, 57].contains b = dig b := by
  have h : ∀ b : Fin 256, [48, 49, 50, 51, 52, 53, 54, 55, 56, 57].contains (UInt8.ofNat b.val) = dig (UInt8.ofNat b.val) := by decide +kernel
  have := h ⟨b.toNat, b.toNat_lt⟩
  simpa using this
theorem i_keyOk_f (s : ByteArray) : g_Ai_keyOk s = true ∧ g_Vi_keyOk_0 s = keyP s := by
  have hb := byte_range s 0
  have hw : IntKind.wrap .i64 (byteAt s 0) = byteAt s 0 := wrap64 (by omega)
  have e1 : ∀ n : Nat, decide ((2 : Int) ≤ (n : Int) ∧ (n : Int) ≤ 3) = decide (2 ≤ n ∧ n ≤ 3) := fun n => decide_eq_decide.2 (by omega)
  constructor
  · simp only [g_Ai_keyOk, (i_in_f _ _ _).1, (i_in_f _ _ _).2, hw, e1]
    by_cases h : 2 ≤ s.size ∧ s.size ≤ 3
    · have h1 : (0 : Int) < s.size := by omega
      have h2 : (1 : Int) ≤ s.size := by omega
      have h3 : (s.extract 1 s.size).size ≤ 9223372036854775807 := by rw [ByteArray.size_extract]; omega
      have h4 : g_ascii (lit [48, 49, 50, 51, 52, 53, 54, 55, 56, 57]) = true := by decide +kernel
      simp only [h, h1, h2, h3, h4, and_self, decide_true, Bool.true_and, Bool.and_true, Bool.not_true, Bool.false_or, Int.le_refl, Bool.or_true, show (0 : Int) ≤ 1 from by decide]
    · simp [h]
  · simp only [g_Vi_keyOk_0, (i_in_f _ _ _).2, hw, e1, keyP]
    have e2 : (ByteArray.toList (g_trim (s.extract 1 s.size) (lit [48, 49, 50, 51, 52, 53, 54, 55, 56, 57])) == []) = (s.data.toList.drop 1).all dig := by
      rw [ByteArray.toList_eq]
      show ((Lib.trimS (s.extract 1 s.size).data.toList [48, 49, 50, 51, 52, 53, 54, 55, 56, 57]) == []) = _
      have e3 : (s.extract 1 s.size).data.toList = s.data.toList.drop 1 := by
        simp only [ByteArray.data_extract, Array.toList_extract, List.extract_eq_take_drop]
        rw [List.take_of_length_le (by rw [List.length_drop, Array.length_toList]; exact Nat.le_refl _)]
      rw [e3, Bool.eq_iff_iff, beq_iff_eq]
      refine (trimS_nil (List.drop 1 s.data.toList) [48, 49, 50, 51, 52, 53, 54, 55, 56, 57]).trans ?_
      simp only [dig_mem]
    rw [e2]
    cases decide (2 ≤ s.size ∧ s.size ≤ 3) <;> cases decide (97 ≤ byteAt s 0 ∧ byteAt s 0 ≤ 122) <;> rfl
theorem s_l1Key_loop (s : ByteArray) (hs : s.size < 1000) (h1 : 1 ≤ s.size) : g_Ls_l1Key_0 s 1 = some (bif (s.data.toList.drop 1).all dig then .inr () else .inl false) := by
  have h := loop_all (step := g_Ss_l1Key_0 s) (fun i : Nat => ((i + 1 : Nat) : Int)) (fun i => dig ((s.data[i + 1]?).getD 0)) (Sum.inl false) (Sum.inr ()) (s.size - 1) (fun i hi => by
      have h1 : ((i + 1 : Nat) : Int) < s.size := by omega
      have h2 : (0 : Int) ≤ ((i + 1 : Nat) : Int) := by omega
      have hw : IntKind.wrap .i64 (((i + 1 : Nat) : Int) + 1) = ((i + 1 + 1 : Nat) : Int) := by rw [wrap64 (by omega)]; omega
      simp only [g_Ss_l1Key_0, RT.sel, cond_true, h1, h2, hw, decide_true, and_self, Int.toNat_natCast]
      have hb : byteAt s (i + 1) = (((s.data[i + 1]?).getD 0).toNat : Int) := rfl
      simp only [hb]
      generalize (s.data[i + 1]?).getD 0 = b
      unfold dig
      by_cases k1 : b.toNat < 48
      · have k2 : ¬ 48 ≤ b.toNat := by omega
        have k3 : (b.toNat : Int) < 48 := by omega
        simp [k2, k3]
      · have k2 : 48 ≤ b.toNat := by omega
        have k3 : ¬ (b.toNat : Int) < 48 := by omega
        by_cases k4 : b.toNat ≤ 57
        · have k5 : ¬ (b.toNat : Int) > 57 := by omega
          simp [k2, k3, k4, k5, RT.sel]
        · have k5 : (b.toNat : Int) > 57 := by omega
          simp [k2, k3, k4, k5, RT.sel]) (by
      have hn : ((s.size - 1 + 1 : Nat) : Int) = (s.size : Int) := by omega
      simp only [g_Ss_l1Key_0, RT.sel, hn, cond_true, Int.lt_irrefl, decide_false, cond_false])
  unfold g_Ls_l1Key_0
  refine Eq.trans h ?_
  congr 2
  rw [Bool.eq_iff_iff, List.all_eq_true, List.all_eq_true]
  have hsz : s.size = s.data.toList.length := Array.length_toList.symm
  constructor
  · intro h x hx
    obtain ⟨i, hi, rfl⟩ := List.getElem_of_mem hx
    have hi' : i + 1 < s.data.toList.length := by simp at hi ⊢; omega
    have := h i (List.mem_range.2 (by omega))
    have e : (s.data[i + 1]?).getD 0 = s.data.toList[i + 1] := by rw [Array.getElem?_eq_getElem (by simpa using hi')]; simp
    rw [e] at this
    simpa [Nat.add_comm] using this
  · intro h i hi
    have hi := List.mem_range.1 hi
    have hi' : i + 1 < s.data.toList.length := by omega
    have e : (s.data[i + 1]?).getD 0 = s.data.toList[i + 1] := by rw [Array.getElem?_eq_getElem (by simpa using hi')]; simp
    rw [e]
    refine h _ ?_
    rw [List.mem_iff_getElem]
    exact ⟨i, by simp at hi' ⊢; omega, by simp [Nat.add_comm]⟩
theorem s_l1Key_f (s : ByteArray) : g_As_l1Key s = true ∧ g_Vs_l1Key_0 s = keyP s := by
  have e1 : ∀ n : Nat, decide ((2 : Int) ≤ (n : Int) ∧ (n : Int) ≤ 3) = decide (2 ≤ n ∧ n ≤ 3) := fun n => decide_eq_decide.2 (by omega)
  by_cases h : 2 ≤ s.size ∧ s.size ≤ 3
  · have h0 : (0 : Int) < s.size := by omega
    have hl := s_l1Key_loop s (by omega) (by omega)
    constructor
    · simp only [g_As_l1Key, (s_l1In_f _ _ _).1, (s_l1In_f _ _ _).2, e1, hl, okO, h, h0, Option.isSome_some, and_self, decide_true, Bool.true_and, Bool.or_true, Int.le_refl]
    · simp only [g_Vs_l1Key_0, (s_l1In_f _ _ _).2, e1, hl, okO, valO, keyP, Option.getD_some]
      by_cases k1 : byteAt s 0 < 97
      · simp [h, k1, show ¬ (97 ≤ byteAt s 0) by omega]
      · by_cases k2 : byteAt s 0 > 122
        · simp [h, k1, k2, show ¬ (byteAt s 0 ≤ 122) by omega]
        · simp only [h, k1, k2, show 97 ≤ byteAt s 0 by omega, show byteAt s 0 ≤ 122 by omega]
          cases (s.data.toList.drop 1).all dig <;> rfl
  · constructor
    · simp only [g_As_l1Key, (s_l1In_f _ _ _).1, (s_l1In_f _ _ _).2, e1]
      simp [h]
    · simp only [g_Vs_l1Key_0, (s_l1In_f _ _ _).2, e1, keyP]
      simp [h]
theorem s_l1Val_loop (l : List Int) (hl : l.length ≤ 1048576) : g_Ls_l1Val_0 l 0 = some (bif l.all (fun n => decide (0 ≤ n ∧ n ≤ 9999)) then .inr () else .inl false) := by
  refine loop_list (ρ := Bool ⊕ Unit) (e := .int .i64) l (fun i : Nat => (i : Int)) (fun n => decide (0 ≤ n ∧ n ≤ 9999)) (Sum.inl false) (Sum.inr ()) (fun i hi => ?_) ?_
  · have h1 : (i : Int) < l.length := by omega
    have h2 : (0 : Int) ≤ (i : Int) := by omega
    have hw : IntKind.wrap .i64 ((i : Int) + 1) = ((i + 1 : Nat) : Int) := by rw [wrap64 (by omega)]; omega
    simp only [g_Ss_l1Val_0, RT.sel, cond_true, h1, h2, hw, decide_true, and_self, Int.toNat_natCast, (s_l1In_f _ _ _).1, (s_l1In_f _ _ _).2]
    cases decide (0 ≤ at_ (.int .i64) l i ∧ at_ (.int .i64) l i ≤ 9999) <;> rfl
  · simp [g_Ss_l1Val_0, RT.sel]
theorem s_l1Val_f (l : List Int) (hl : l.length ≤ 1048576) : g_As_l1Val l = true ∧ g_Vs_l1Val_0 l = valP l := by
  have hk := s_l1Val_loop l hl
  have e1 : decide ((1 : Int) ≤ (l.length : Int) ∧ (l.length : Int) ≤ 3) = decide (1 ≤ l.length ∧ l.length ≤ 3) := decide_eq_decide.2 (by omega)
  constructor
  · simp only [g_As_l1Val, hk, okO, valO, (s_l1In_f _ _ _).1]; simp
  · simp only [g_Vs_l1Val_0, hk, valO, (s_l1In_f _ _ _).2, e1, valP, Option.getD_some]
    cases l.all (fun n => decide (0 ≤ n ∧ n ≤ 9999)) <;> cases decide (1 ≤ l.length ∧ l.length ≤ 3) <;> rfl
theorem i_valOk_1_f (n : Int) : g_Ai_valOk_1 n = true ∧ g_Vi_valOk_1_0 n = !decide (0 ≤ n ∧ n ≤ 9999) := ⟨(i_in_f _ _ _).1, congrArg not (i_in_f _ _ _).2⟩
theorem i_valOk_f (l : List Int) (hl : l.length ≤ 1048576) : g_Ai_valOk l = true ∧ g_Vi_valOk_0 l = valP l := by
  obtain ⟨r, h1, h2⟩ := loop_idx (e := .int .i64) l (step := g_Sslices_IndexFunc_int_int__i_valOk_1_0 l (l.length : Int)) (fun n => !decide (0 ≤ n ∧ n ≤ 9999)) (fun i hi => by
    have h1 : (i : Int) < l.length := by omega
    have h2 : (0 : Int) ≤ (i : Int) := by omega
    have hw : IntKind.wrap .i64 ((i : Int) + 1) = ((i + 1 : Nat) : Int) := by rw [wrap64 (by omega)]; omega
    simp only [g_Sslices_IndexFunc_int_int__i_valOk_1_0, RT.sel, cond_true, h1, h2, hw, decide_true, and_self, Int.toNat_natCast, (i_valOk_1_f _).1, (i_valOk_1_f _).2]) (by simp [g_Sslices_IndexFunc_int_int__i_valOk_1_0, RT.sel])
  have h1 : g_Lslices_IndexFunc_int_int__i_valOk_1_0 l (l.length : Int) 0 = some r := h1
  have e1 : decide ((1 : Int) ≤ (l.length : Int) ∧ (l.length : Int) ≤ 3) = decide (1 ≤ l.length ∧ l.length ≤ 3) := decide_eq_decide.2 (by omega)
  constructor
  · simp [g_Ai_valOk, (i_in_f _ _ _).1, g_Aslices_ContainsFunc_int_int__i_valOk_1, g_Aslices_IndexFunc_int_int__i_valOk_1, h1, okO]
  · simp only [g_Vi_valOk_0, (i_in_f _ _ _).2, e1, g_Vslices_ContainsFunc_int_int__i_valOk_1_0, g_Vslices_IndexFunc_int_int__i_valOk_1_0, h1, valO, Option.getD_some, h2, valP]
    rw [show (l.any fun n => !decide (0 ≤ n ∧ n ≤ 9999)) = !(l.all fun n => decide (0 ≤ n ∧ n ≤ 9999)) by rw [List.not_all_eq_any_not], Bool.not_not]
    cases decide (1 ≤ l.length ∧ l.length ≤ 3) <;> rfl
theorem s_WrtOk_f (k : ByteArray) (d : Bool) (l : List Int) (hl : l.length ≤ 1048576) : g_As_WrtOk k d l = true ∧ g_Vs_WrtOk_0 k d l = wrtP k d l := by
  constructor
  · simp [g_As_WrtOk, (s_l1Key_f _).1, (s_l1Val_f _ hl).1]
  · simp only [g_Vs_WrtOk_0, (s_l1Key_f _).2, (s_l1Val_f _ hl).2, wrtP]
    cases d <;> cases keyP k <;> cases l <;> simp <;> omega
end Go.Proofs.YtkjeicijcecmlaaDoor.E
end
section
namespace Go.Proofs.YtkjeicijcecmlaaDoor.E
open Go
theorem i_WrtOk_f (k : ByteArray) (d : Bool) (l : List Int) (hl : l.length ≤ 1048576) : g_Ai_WrtOk k d l = true ∧ g_Vi_WrtOk_0 k d l = wrtP k d l := by
  constructor
  · simp [g_Ai_WrtOk, (i_keyOk_f _).1, (i_valOk_f _ hl).1]
  · simp only [g_Vi_WrtOk_0, (i_keyOk_f _).2, (i_valOk_f _ hl).2, wrtP]
    cases d <;> cases keyP k <;> cases l <;> simp <;> omega
end Go.Proofs.YtkjeicijcecmlaaDoor.E
end
section
namespace Go.Proofs.YtkjeicijcecmlaaDoor.E
open Go
/-- A text is one of some. -/
def hasP (ls : List ByteArray) (s : ByteArray) : Bool := ls.any fun x => x.toList == s.toList
/-- A note: just who is ready has names, and what is written. -/
def noteP (k t : Int) (ls : List ByteArray) (ws : List (ByteArray × Bool × List Int)) : Bool :=
  decide (1 ≤ k ∧ k ≤ 4) && (decide (0 ≤ t ∧ t ≤ 29) && (decide (ls.length ≤ 12) && (decide (ws.length ≤ 12) && (ls.all keyP && (ws.all (fun w => wrtP w.1 w.2.1 w.2.2 && hasP ls w.1) && (decide (k = 1) || (ls.isEmpty && ws.isEmpty)))))))
theorem isTx_f (n : Int) : g_Ai_isTx n = true ∧ g_Vi_isTx_0 n = decide (0 ≤ n ∧ n ≤ 29) := i_in_f n 0 29
theorem beq_comm' (a b : List UInt8) : (a == b) = (b == a) := by
  rw [Bool.eq_iff_iff, beq_iff_eq, beq_iff_eq]
  exact eq_comm
theorem containsS_f (ls : List ByteArray) (s : ByteArray) (hl : ls.length ≤ 1048576) : g_Aslices_Contains_string_string ls s = true ∧ g_Vslices_Contains_string_string_0 ls s = hasP ls s := by
  obtain ⟨r, h1, h2⟩ := loop_idx (e := .str) ls (step := g_Sslices_Index_string_string_0 ls s (ls.length : Int)) (fun x => x.toList == s.toList) (fun i hi => by
    have h1 : (i : Int) < ls.length := by omega
    have h2 : (0 : Int) ≤ (i : Int) := by omega
    have hw : IntKind.wrap .i64 ((i : Int) + 1) = ((i + 1 : Nat) : Int) := by rw [wrap64 (by omega)]; omega
    simp only [g_Sslices_Index_string_string_0, RT.sel, cond_true, h1, h2, hw, decide_true, and_self, Int.toNat_natCast, beq_comm' s.toList]) (by simp [g_Sslices_Index_string_string_0, RT.sel])
  have h1 : g_Lslices_Index_string_string_0 ls s (ls.length : Int) 0 = some r := h1
  constructor
  · simp [g_Aslices_Contains_string_string, g_Aslices_Index_string_string, h1, okO]
  · simp only [g_Vslices_Contains_string_string_0, g_Vslices_Index_string_string_0, h1, valO, Option.getD_some, h2, hasP]
theorem l2Has_f (ls : List ByteArray) (s : ByteArray) (hl : ls.length ≤ 1048576) : g_As_l2Has ls s = true ∧ g_Vs_l2Has_0 ls s = hasP ls s := by
  have h : g_Ls_l2Has_0 ls s 0 = some (bif ls.all (fun x => !(x.toList == s.toList)) then .inr () else .inl true) := by
    refine loop_list (ρ := Bool ⊕ Unit) (e := .str) ls (fun i : Nat => (i : Int)) (fun x => !(x.toList == s.toList)) (Sum.inl true) (Sum.inr ()) (fun i hi => ?_) ?_
    · have h1 : (i : Int) < ls.length := by omega
      have h2 : (0 : Int) ≤ (i : Int) := by omega
      have hw : IntKind.wrap .i64 ((i : Int) + 1) = ((i + 1 : Nat) : Int) := by rw [wrap64 (by omega)]; omega
      simp only [g_Ss_l2Has_0, RT.sel, cond_true, h1, h2, hw, decide_true, and_self, Int.toNat_natCast]
      cases (at_ .str ls i).toList == s.toList <;> rfl
    · simp [g_Ss_l2Has_0, RT.sel]
  constructor
  · simp [g_As_l2Has, h, okO]
  · simp only [g_Vs_l2Has_0, h, valO, Option.getD_some, hasP, List.any_eq_not_all_not]
    cases ls.all (fun x => !(x.toList == s.toList)) <;> rfl
theorem anyKey_f (ls : List ByteArray) (hl : ls.length ≤ 1048576) : g_Aslices_ContainsFunc_string_string__i_NoteOk_1 ls = true ∧ g_Vslices_ContainsFunc_string_string__i_NoteOk_1_0 ls = !ls.all keyP := by
  obtain ⟨r, h1, h2⟩ := loop_idx (e := .str) ls (step := g_Sslices_IndexFunc_string_string__i_NoteOk_1_0 ls (ls.length : Int)) (fun x => !keyP x) (fun i hi => by
    have h1 : (i : Int) < ls.length := by omega
    have h2 : (0 : Int) ≤ (i : Int) := by omega
    have hw : IntKind.wrap .i64 ((i : Int) + 1) = ((i + 1 : Nat) : Int) := by rw [wrap64 (by omega)]; omega
    simp only [g_Sslices_IndexFunc_string_string__i_NoteOk_1_0, RT.sel, cond_true, h1, h2, hw, decide_true, and_self, Int.toNat_natCast, g_Ai_NoteOk_1, (i_keyOk_f _).1, (i_keyOk_f _).2]) (by simp [g_Sslices_IndexFunc_string_string__i_NoteOk_1_0, RT.sel])
  have h1 : g_Lslices_IndexFunc_string_string__i_NoteOk_1_0 ls (ls.length : Int) 0 = some r := h1
  constructor
  · simp [g_Aslices_ContainsFunc_string_string__i_NoteOk_1, g_Aslices_IndexFunc_string_string__i_NoteOk_1, h1, okO]
  · simp only [g_Vslices_ContainsFunc_string_string__i_NoteOk_1_0, g_Vslices_IndexFunc_string_string__i_NoteOk_1_0, h1, valO, Option.getD_some, h2, List.not_all_eq_any_not]
theorem anyWrite_f (ws : List (ByteArray × Bool × List Int)) (c : Int × Int × List ByteArray × List (ByteArray × Bool × List Int)) (hl : ws.length ≤ 1048576) (hit : ∀ w ∈ ws, w.2.2.length ≤ 1048576) (hc : c.2.2.1.length ≤ 1048576) :
    g_Aslices_ContainsFunc_i_StoWrite_i_StoWrite__i_NoteOk_2 ws c = true ∧ g_Vslices_ContainsFunc_i_StoWrite_i_StoWrite__i_NoteOk_2_0 ws c = !ws.all (fun w => wrtP w.1 w.2.1 w.2.2 && hasP c.2.2.1 w.1) := by
  obtain ⟨r, h1, h2⟩ := loop_idx (e := .pair .str (.pair .bool (.sl 3 (.int .i64)))) ws (step := g_Sslices_IndexFunc_i_StoWrite_i_StoWrite__i_NoteOk_2_0 ws c (ws.length : Int)) (fun w => !(wrtP w.1 w.2.1 w.2.2 && hasP c.2.2.1 w.1)) (fun i hi => by
    have h1 : (i : Int) < ws.length := by omega
    have h2 : (0 : Int) ≤ (i : Int) := by omega
    have hw : IntKind.wrap .i64 ((i : Int) + 1) = ((i + 1 : Nat) : Int) := by rw [wrap64 (by omega)]; omega
    obtain ⟨q1, q2⟩ := i_WrtOk_f (at_ (.pair .str (.pair .bool (.sl 3 (.int .i64)))) ws i).1 (at_ (.pair .str (.pair .bool (.sl 3 (.int .i64)))) ws i).2.1 _ (hit _ (at_mem (e := .pair .str (.pair .bool (.sl 3 (.int .i64)))) hi))
    simp only [g_Sslices_IndexFunc_i_StoWrite_i_StoWrite__i_NoteOk_2_0, RT.sel, cond_true, h1, h2, hw, decide_true, and_self, Int.toNat_natCast, g_Ai_NoteOk_2, g_Vi_NoteOk_2_0, q1, q2, (containsS_f _ _ hc).1, (containsS_f _ _ hc).2, Bool.or_true, Bool.and_true]
    generalize wrtP _ _ _ = p
    generalize hasP _ _ = q
    cases p <;> cases q <;> rfl) (by simp [g_Sslices_IndexFunc_i_StoWrite_i_StoWrite__i_NoteOk_2_0, RT.sel])
  have h1 : g_Lslices_IndexFunc_i_StoWrite_i_StoWrite__i_NoteOk_2_0 ws c (ws.length : Int) 0 = some r := h1
  constructor
  · simp [g_Aslices_ContainsFunc_i_StoWrite_i_StoWrite__i_NoteOk_2, g_Aslices_IndexFunc_i_StoWrite_i_StoWrite__i_NoteOk_2, h1, okO]
  · simp only [g_Vslices_ContainsFunc_i_StoWrite_i_StoWrite__i_NoteOk_2_0, g_Vslices_IndexFunc_i_StoWrite_i_StoWrite__i_NoteOk_2_0, h1, valO, Option.getD_some, h2, List.not_all_eq_any_not]
theorem i_NoteOk_f (k t : Int) (ls : List ByteArray) (ws : List (ByteArray × Bool × List Int)) (h1 : ls.length ≤ 1048576) (h2 : ws.length ≤ 1048576) (h3 : ∀ w ∈ ws, w.2.2.length ≤ 1048576) : g_Ai_NoteOk k t ls ws = true ∧ g_Vi_NoteOk_0 k t ls ws = noteP k t ls ws := by
  obtain ⟨a1, a2⟩ := anyKey_f ls h1
  obtain ⟨b1, b2⟩ := anyWrite_f ws (k, t, ls, ws) h2 h3 h1
  constructor
  · simp [g_Ai_NoteOk, (isTx_f _).1, (i_in_f _ _ _).1, a1, b1]
  · simp only [g_Vi_NoteOk_0, (isTx_f _).2, (i_in_f _ _ _).2, a2, b2, noteP]
    by_cases e1 : k = 1
    · subst e1
      have e2 : decide ((ls.length : Int) > 12) = !decide (ls.length ≤ 12) := by rw [Bool.eq_iff_iff]; simp; omega
      have e3 : decide ((ws.length : Int) > 12) = !decide (ws.length ≤ 12) := by rw [Bool.eq_iff_iff]; simp; omega
      simp only [e2, e3]
      generalize decide (0 ≤ t ∧ t ≤ 29) = p1
      generalize decide (ls.length ≤ 12) = p2
      generalize decide (ws.length ≤ 12) = p3
      generalize ls.all keyP = p4
      generalize ws.all _ = p5
      cases p1 <;> cases p2 <;> cases p3 <;> cases p4 <;> cases p5 <;> rfl
    · have e4 : (k != 1) = true := by simpa using e1
      have e5 : decide (k = 1) = false := by simpa using e1
      simp only [e4, e5, cond_true, Bool.false_or]
      cases ls with
      | nil =>
        cases ws with
        | nil =>
          generalize decide (0 ≤ t ∧ t ≤ 29) = p1
          generalize decide (1 ≤ k ∧ k ≤ 4) = p2
          cases p1 <;> cases p2 <;> rfl
        | cons w ws =>
          have e6 : (((w :: ws).length : Int) == 0) = false := by simp; omega
          simp only [e6, List.isEmpty_cons, Bool.and_false]
          cases decide (0 ≤ t ∧ t ≤ 29) <;> cases decide (1 ≤ k ∧ k ≤ 4) <;> simp
      | cons l ls =>
        have e6 : (((l :: ls).length : Int) == 0) = false := by simp; omega
        simp only [e6, List.isEmpty_cons, Bool.and_false, Bool.false_and]
        cases decide (0 ≤ t ∧ t ≤ 29) <;> cases decide (1 ≤ k ∧ k ≤ 4) <;> simp
theorem s_NoteOk_f (k t : Int) (ls : List ByteArray) (ws : List (ByteArray × Bool × List Int)) (h1 : ls.length ≤ 1048576) (h2 : ws.length ≤ 1048576) (h3 : ∀ w ∈ ws, w.2.2.length ≤ 1048576) : g_As_NoteOk k t ls ws = true ∧ g_Vs_NoteOk_0 k t ls ws = noteP k t ls ws := by
  have l0 : g_Ls_NoteOk_0 k t ls ws 0 = some (bif ls.all keyP then .inr () else .inl false) := by
    refine loop_list (ρ := Bool ⊕ Unit) (e := .str) ls (fun i : Nat => (i : Int)) keyP (Sum.inl false) (Sum.inr ()) (fun i hi => ?_) ?_
    · have k1 : (i : Int) < ls.length := by omega
      have k2 : (0 : Int) ≤ (i : Int) := by omega
      have hw : IntKind.wrap .i64 ((i : Int) + 1) = ((i + 1 : Nat) : Int) := by rw [wrap64 (by omega)]; omega
      simp only [g_Ss_NoteOk_0, RT.sel, cond_true, k1, k2, hw, decide_true, and_self, Int.toNat_natCast, (s_l1Key_f _).1, (s_l1Key_f _).2]
      cases keyP (at_ .str ls i) <;> rfl
    · simp [g_Ss_NoteOk_0, RT.sel]
  have l2 : g_Ls_NoteOk_2 k t ls ws 0 = some (bif ws.all (fun w => wrtP w.1 w.2.1 w.2.2 && hasP ls w.1) then .inr () else .inl false) := by
    refine loop_list (ρ := Bool ⊕ Unit) (e := .pair .str (.pair .bool (.sl 3 (.int .i64)))) ws (fun i : Nat => (i : Int)) (fun w => wrtP w.1 w.2.1 w.2.2 && hasP ls w.1) (Sum.inl false) (Sum.inr ()) (fun i hi => ?_) ?_
    · have k1 : (i : Int) < ws.length := by omega
      have k2 : (0 : Int) ≤ (i : Int) := by omega
      have hw : IntKind.wrap .i64 ((i : Int) + 1) = ((i + 1 : Nat) : Int) := by rw [wrap64 (by omega)]; omega
      obtain ⟨q1, q2⟩ := s_WrtOk_f (at_ (.pair .str (.pair .bool (.sl 3 (.int .i64)))) ws i).1 (at_ (.pair .str (.pair .bool (.sl 3 (.int .i64)))) ws i).2.1 _ (h3 _ (at_mem (e := .pair .str (.pair .bool (.sl 3 (.int .i64)))) hi))
      simp only [g_Ss_NoteOk_2, RT.sel, cond_true, k1, k2, hw, decide_true, and_self, Int.toNat_natCast, q1, q2, (l2Has_f _ _ h1).1, (l2Has_f _ _ h1).2]
      generalize wrtP _ _ _ = p
      generalize hasP _ _ = q
      cases p <;> cases q <;> rfl
    · simp [g_Ss_NoteOk_2, RT.sel]
  have e2 : decide ((ls.length : Int) > 12) = !decide (ls.length ≤ 12) := by rw [Bool.eq_iff_iff]; simp; omega
  have e3 : decide ((ws.length : Int) > 12) = !decide (ws.length ≤ 12) := by rw [Bool.eq_iff_iff]; simp; omega
  have e4 : (k == 1) = decide (k = 1) := rfl
  have e5 : (IntKind.wrap .i64 ((ls.length : Int) + (ws.length : Int)) == 0) = (ls.isEmpty && ws.isEmpty) := by
    rw [wrap64 (by omega)]
    cases ls <;> cases ws <;> simp <;> omega
  constructor
  · simp [g_As_NoteOk, (s_l1In_f _ _ _).1, l0, l2, okO]
  · simp only [g_Vs_NoteOk_0, (s_l1In_f _ _ _).2, l0, l2, valO, Option.getD_some, noteP, e2, e3, e4, e5]
    generalize decide (1 ≤ k ∧ k ≤ 4) = p0
    generalize decide (0 ≤ t ∧ t ≤ 29) = p1
    generalize decide (ls.length ≤ 12) = p2
    generalize decide (ws.length ≤ 12) = p3
    generalize ls.all keyP = p4
    generalize ws.all _ = p5
    generalize decide (k = 1) = p6
    generalize (ls.isEmpty && ws.isEmpty) = p7
    cases p0 <;> cases p1 <;> cases p2 <;> cases p3 <;> cases p4 <;> cases p5 <;> cases p6 <;> cases p7 <;> rfl
end Go.Proofs.YtkjeicijcecmlaaDoor.E
end
section
namespace Go.Proofs.YtkjeicijcecmlaaDoor.E
open Go
abbrev Note : Type := Int × Int × List ByteArray × List (ByteArray × Bool × List Int)
abbrev NI_ : Ty := .pair (.int .i64) (.pair (.int .i64) (.pair (.sl 9 .str) (.sl 38 (.pair .str (.pair .bool (.sl 3 (.int .i64)))))))
def smallN (x : Note) : Prop := x.2.2.1.length ≤ 1048576 ∧ x.2.2.2.length ≤ 1048576 ∧ ∀ w ∈ x.2.2.2, w.2.2.length ≤ 1048576
def noteQ (x : Note) : Bool := noteP x.1 x.2.1 x.2.2.1 x.2.2.2
/-- A place's notes are ok. -/
def diskP (d : List Note) (safe : Int) : Bool := decide (d.length ≤ 120) && (decide (0 ≤ safe ∧ safe ≤ (d.length : Int)) && d.all noteQ)
theorem s_DiskOk_f (l : List Note) (safe : Int) (hl : l.length ≤ 1048576) (hit : ∀ x ∈ l, smallN x) : g_As_DiskOk l safe = true ∧ g_Vs_DiskOk_0 l safe = diskP l safe := by
  have h : g_Ls_DiskOk_0 l safe 0 = some (bif l.all noteQ then .inr () else .inl false) := by
    refine loop_list (ρ := Bool ⊕ Unit) (e := NI_) l (fun i : Nat => (i : Int)) noteQ (Sum.inl false) (Sum.inr ()) (fun i hi => ?_) ?_
    · have k1 : (i : Int) < l.length := by omega
      have k2 : (0 : Int) ≤ (i : Int) := by omega
      have hw : IntKind.wrap .i64 ((i : Int) + 1) = ((i + 1 : Nat) : Int) := by rw [wrap64 (by omega)]; omega
      have hh := hit _ (at_mem (e := NI_) hi)
      obtain ⟨q1, q2⟩ := s_NoteOk_f (at_ NI_ l i).1 (at_ NI_ l i).2.1 (at_ NI_ l i).2.2.1 (at_ NI_ l i).2.2.2 hh.1 hh.2.1 hh.2.2
      have q2 : g_Vs_NoteOk_0 (at_ NI_ l i).1 (at_ NI_ l i).2.1 (at_ NI_ l i).2.2.1 (at_ NI_ l i).2.2.2 = noteQ (at_ NI_ l i) := q2
      simp only [g_Ss_DiskOk_0, RT.sel, cond_true, k1, k2, hw, decide_true, and_self, Int.toNat_natCast, q1, q2]
      generalize noteQ _ = p
      cases p <;> rfl
    · simp [g_Ss_DiskOk_0, RT.sel]
  have e2 : decide ((l.length : Int) > 120) = !decide (l.length ≤ 120) := by rw [Bool.eq_iff_iff]; simp; omega
  constructor
  · simp [g_As_DiskOk, h, okO, (s_l1In_f _ _ _).1]
  · simp only [g_Vs_DiskOk_0, h, valO, Option.getD_some, e2, (s_l1In_f _ _ _).2, diskP]
    generalize l.all noteQ = p
    generalize decide (l.length ≤ 120) = q
    generalize decide (0 ≤ safe ∧ safe ≤ (l.length : Int)) = r
    cases p <;> cases q <;> cases r <;> rfl
theorem i_DiskOk_f (l : List Note) (safe : Int) (hl : l.length ≤ 1048576) (hit : ∀ x ∈ l, smallN x) : g_Ai_DiskOk l safe = true ∧ g_Vi_DiskOk_0 l safe = diskP l safe := by
  obtain ⟨r, h1, h2⟩ := loop_idx (e := NI_) l (step := g_Sslices_IndexFunc_i_LogNote_i_LogNote__i_DiskOk_1_0 l (l.length : Int)) (fun x => !noteQ x) (fun i hi => by
    have h1 : (i : Int) < l.length := by omega
    have h2 : (0 : Int) ≤ (i : Int) := by omega
    have hw : IntKind.wrap .i64 ((i : Int) + 1) = ((i + 1 : Nat) : Int) := by rw [wrap64 (by omega)]; omega
    have hh := hit _ (at_mem (e := NI_) hi)
    obtain ⟨q1, q2⟩ := i_NoteOk_f (at_ NI_ l i).1 (at_ NI_ l i).2.1 (at_ NI_ l i).2.2.1 (at_ NI_ l i).2.2.2 hh.1 hh.2.1 hh.2.2
    have q2 : g_Vi_NoteOk_0 (at_ NI_ l i).1 (at_ NI_ l i).2.1 (at_ NI_ l i).2.2.1 (at_ NI_ l i).2.2.2 = noteQ (at_ NI_ l i) := q2
    simp only [g_Sslices_IndexFunc_i_LogNote_i_LogNote__i_DiskOk_1_0, RT.sel, cond_true, h1, h2, hw, decide_true, and_self, Int.toNat_natCast, g_Ai_DiskOk_1, q1, q2]) (by simp [g_Sslices_IndexFunc_i_LogNote_i_LogNote__i_DiskOk_1_0, RT.sel])
  have h1 : g_Lslices_IndexFunc_i_LogNote_i_LogNote__i_DiskOk_1_0 l (l.length : Int) 0 = some r := h1
  have a1 : g_Aslices_ContainsFunc_i_LogNote_i_LogNote__i_DiskOk_1 l = true := by simp [g_Aslices_ContainsFunc_i_LogNote_i_LogNote__i_DiskOk_1, g_Aslices_IndexFunc_i_LogNote_i_LogNote__i_DiskOk_1, h1, okO]
  have a2 : g_Vslices_ContainsFunc_i_LogNote_i_LogNote__i_DiskOk_1_0 l = !l.all noteQ := by simp only [g_Vslices_ContainsFunc_i_LogNote_i_LogNote__i_DiskOk_1_0, g_Vslices_IndexFunc_i_LogNote_i_LogNote__i_DiskOk_1_0, h1, valO, Option.getD_some, h2, List.not_all_eq_any_not]
  have e2 : decide ((l.length : Int) ≤ 120) = decide (l.length ≤ 120) := decide_eq_decide.2 (by omega)
  constructor
  · simp [g_Ai_DiskOk, a1, (i_in_f _ _ _).1]
  · simp only [g_Vi_DiskOk_0, a2, e2, (i_in_f _ _ _).2, diskP]
    generalize l.all noteQ = p
    generalize decide (l.length ≤ 120) = q
    generalize decide (0 ≤ safe ∧ safe ≤ (l.length : Int)) = r
    cases p <;> cases q <;> cases r <;> rfl
end Go.Proofs.YtkjeicijcecmlaaDoor.E
end
section
namespace Go.Proofs.YtkjeicijcecmlaaDoor.E
open Go
/-- What is noted of something last. -/
def ofG (how : Int) (l : List Note) (tx : Int) : Int := l.foldl (fun h n => bif decide (n.2.1 = tx) && !decide (n.1 = 4) then n.1 else h) how
def ofP (l : List Note) (tx : Int) : Int := ofG 0 l tx
/-- What was written when a place was ready for something last. -/
def readyP (l : List Note) (tx : Int) : Option (List (ByteArray × Bool × List Int)) := l.foldl (fun h n => bif decide (n.2.1 = tx) && decide (n.1 = 1) then some n.2.2.2 else h) none
theorem ofG_append (how : Int) (l m : List Note) (tx : Int) : ofG how (l ++ m) tx = ofG (ofG how l tx) m tx := by simp [ofG]
theorem ofG_cons (how : Int) (n : Note) (l : List Note) (tx : Int) : ofG how (n :: l) tx = ofG (bif decide (n.2.1 = tx) && !decide (n.1 = 4) then n.1 else how) l tx := rfl
theorem ofP_take (l : List Note) (tx : Int) {i : Nat} (h : i < l.length) : ofP (l.take (i + 1)) tx = bif decide (l[i].2.1 = tx) && !decide (l[i].1 = 4) then l[i].1 else ofP (l.take i) tx := by
  unfold ofP
  rw [List.take_succ_eq_append_getElem h, ofG_append]
  rfl
theorem readyP_take (l : List Note) (tx : Int) {i : Nat} (h : i < l.length) : readyP (l.take (i + 1)) tx = bif decide (l[i].2.1 = tx) && decide (l[i].1 = 1) then some l[i].2.2.2 else readyP (l.take i) tx := by
  unfold readyP
  rw [List.take_succ_eq_append_getElem h, List.foldl_append]
  rfl
/-- A note that is told of something makes what was ahead of it of no account. -/
theorem ofP_from (pre : List Note) (n : Note) (r : List Note) (h : n.1 = 1) : ofP (pre ++ n :: r) n.2.1 = ofP (n :: r) n.2.1 := by
  unfold ofP
  rw [ofG_append, ofG_cons, ofG_cons, decide_eq_true rfl, h]
  rfl
/-- All that is open. -/
def openR : List Note → List Int → List Int
  | [], out => out
  | n :: r, out => openR r (bif decide (n.1 = 1) && (decide (ofP (n :: r) n.2.1 = 1) && !out.contains n.2.1) then out ++ [n.2.1] else out)
def openP (l : List Note) : List Int := openR l []
def addP (out : List ByteArray) (ls : List ByteArray) : List ByteArray := ls.foldl (fun o s => bif hasP o s then o else o ++ [s]) out
def locksR : List Note → List ByteArray → List ByteArray
  | [], out => out
  | n :: r, out => locksR r (bif decide (n.1 = 1) && decide (ofP (n :: r) n.2.1 = 1) then addP out n.2.2.1 else out)
def locksP (l : List Note) : List ByteArray := locksR l []
theorem openR_mem : ∀ (l : List Note) (out : List Int) (x : Int), x ∈ openR l out ↔ x ∈ out ∨ ∃ n ∈ l, n.1 = 1 ∧ n.2.1 = x ∧ ofP l x = 1
  | [], out, x => by simp [openR]
  | n :: r, out, x => by
    have hr : ∀ y, (∃ m ∈ r, m.1 = 1 ∧ m.2.1 = y) → ofP (n :: r) y = ofP r y := by
      rintro y ⟨m, hm, h1, rfl⟩
      obtain ⟨p, q, rfl⟩ := List.append_of_mem hm
      rw [← List.cons_append, ofP_from (n :: p) m q h1, ofP_from p m q h1]
    rw [openR, openR_mem r]
    constructor
    · rintro (h | ⟨m, hm, h1, rfl, h2⟩)
      · cases hc : decide (n.1 = 1) && (decide (ofP (n :: r) n.2.1 = 1) && !out.contains n.2.1)
        · rw [hc, cond_false] at h; exact .inl h
        · rw [hc, cond_true, List.mem_append, List.mem_singleton] at h
          rcases h with h | rfl
          · exact .inl h
          · simp only [Bool.and_eq_true, decide_eq_true_eq] at hc
            exact .inr ⟨n, List.mem_cons_self, hc.1, rfl, hc.2.1⟩
      · exact .inr ⟨m, List.mem_cons_of_mem _ hm, h1, rfl, by rw [hr _ ⟨m, hm, h1, rfl⟩]; exact h2⟩
    · rintro (h | ⟨m, hm, h1, rfl, h2⟩)
      · left
        cases decide (n.1 = 1) && (decide (ofP (n :: r) n.2.1 = 1) && !out.contains n.2.1)
        · exact h
        · exact List.mem_append_left _ h
      · rcases List.mem_cons.1 hm with rfl | hm
        · left
          rw [decide_eq_true h1, decide_eq_true h2, Bool.true_and, Bool.true_and]
          cases hc : out.contains m.2.1
          · simp
          · simpa using hc
        · exact .inr ⟨m, hm, h1, rfl, by rw [← hr _ ⟨m, hm, h1, rfl⟩]; exact h2⟩
end Go.Proofs.YtkjeicijcecmlaaDoor.E
end
section
namespace Go.Proofs.YtkjeicijcecmlaaDoor.E
open Go
set_option maxRecDepth 100000
theorem of_eq (l : List Note) (tx : Int) : g_Vi_LogDisk_of_0 l tx = ofP l tx := by
  have key : ∀ (l : List Note) (how : Int), ((l.reverse.find? fun n => decide (n.2.1 = tx) && !decide (n.1 = 4)).map (·.1)).getD how = ofG how l tx := by
    intro l
    induction l with
    | nil => intro how; rfl
    | cons n l ih =>
      intro how
      rw [ofG_cons, ← ih, List.reverse_cons, List.find?_append]
      cases h : l.reverse.find? fun n => decide (n.2.1 = tx) && !decide (n.1 = 4) with
      | some m => rfl
      | none =>
        rw [Option.none_or, List.find?_cons]
        cases decide (n.2.1 = tx) && !decide (n.1 = 4) <;> rfl
  exact key l 0
def ofF (tx : Int) (r : List Note) (a : Int) : Int := match r with | [] => a | n :: _ => bif decide (n.2.1 = tx) && !decide (n.1 = 4) then n.1 else a
theorem l2Of_f (l : List Note) (tx : Int) (hl : l.length ≤ 1048576) : g_As_l2Of l tx = true ∧ g_Vs_l2Of_0 l tx = ofP l tx := by
  obtain ⟨L, _⟩ := loop_foldS (e := NI_) (step := g_Ss_l2Of_0 l tx) l (fun i a => (a, i)) (ofF tx) id (fun _ _ => True) (fun i a hi _ => by
    have k1 : (i : Int) < l.length := by omega
    have k2 : (0 : Int) ≤ (i : Int) := by omega
    rw [List.drop_eq_getElem_cons hi]
    have hat : at_ NI_ l i = l[i] := at_eq (e := NI_) hi
    refine ⟨?_, trivial⟩
    simp only [g_Ss_l2Of_0, RT.sel, cond_true, k1, k2, decide_true, and_self, Int.toNat_natCast, wrap64 (x := (i : Int) + 1) (by omega), hat]
    have e1 : (l[i].2.1 == tx) = decide (l[i].2.1 = tx) := rfl
    have e2 : (l[i].1 != 4) = !decide (l[i].1 = 4) := rfl
    rw [e1, e2]
    simp only [ofF]
    cases decide (l[i].2.1 = tx) <;> cases decide (l[i].1 = 4) <;> rfl) (fun a => by simp only [g_Ss_l2Of_0, RT.sel, cond_true, Int.lt_irrefl, decide_false, cond_false, id]) (0 : Int) trivial
  have key : ∀ (l : List Note) (how : Int), foldS (ofF tx) l how = ofG how l tx := by
    intro l
    induction l with
    | nil => intro how; rfl
    | cons n l ih => intro how; rw [ofG_cons, ← ih]; rfl
  rw [show foldS (ofF tx) l 0 = ofG 0 l tx from key l 0] at L
  have L : g_Ls_l2Of_0 l tx (0, 0) = some (ofP l tx) := L
  simp only [g_As_l2Of, g_Vs_l2Of_0, L, okO, valO, Option.isSome_some, Option.getD_some, and_self]
end Go.Proofs.YtkjeicijcecmlaaDoor.E
end
section
namespace Go.Proofs.YtkjeicijcecmlaaDoor.E
open Go
set_option maxRecDepth 100000
theorem containsI_f (ls : List Int) (s : Int) (hl : ls.length ≤ 1048576) : g_Aslices_Contains_int_int ls s = true ∧ g_Vslices_Contains_int_int_0 ls s = ls.contains s := by
  obtain ⟨r, h1, h2⟩ := loop_idx (e := .int .i64) ls (step := g_Sslices_Index_int_int_0 ls s (ls.length : Int)) (fun x => x == s) (fun i hi => by
    have h1 : (i : Int) < ls.length := by omega
    have h2 : (0 : Int) ≤ (i : Int) := by omega
    have hw : IntKind.wrap .i64 ((i : Int) + 1) = ((i + 1 : Nat) : Int) := by rw [wrap64 (by omega)]; omega
    have hc : (s == at_ (.int .i64) ls i) = (at_ (.int .i64) ls i == s) := by rw [Bool.eq_iff_iff, beq_iff_eq, beq_iff_eq]; exact eq_comm
    simp only [g_Sslices_Index_int_int_0, RT.sel, cond_true, h1, h2, hw, decide_true, and_self, Int.toNat_natCast, hc]) (by simp [g_Sslices_Index_int_int_0, RT.sel])
  have h1 : g_Lslices_Index_int_int_0 ls s (ls.length : Int) 0 = some r := h1
  constructor
  · simp [g_Aslices_Contains_int_int, g_Aslices_Index_int_int, h1, okO]
  · simp only [g_Vslices_Contains_int_int_0, g_Vslices_Index_int_int_0, h1, valO, Option.getD_some, h2]
    rw [Bool.eq_iff_iff]
    simp
theorem l2Is_f (ls : List Int) (s : Int) (hl : ls.length ≤ 1048576) : g_As_l2Is ls s = true ∧ g_Vs_l2Is_0 ls s = ls.contains s := by
  have h : g_Ls_l2Is_0 ls s 0 = some (bif ls.all (fun x => !(x == s)) then .inr () else .inl true) := by
    refine loop_list (ρ := Bool ⊕ Unit) (e := .int .i64) ls (fun i : Nat => (i : Int)) (fun x => !(x == s)) (Sum.inl true) (Sum.inr ()) (fun i hi => ?_) ?_
    · have h1 : (i : Int) < ls.length := by omega
      have h2 : (0 : Int) ≤ (i : Int) := by omega
      have hw : IntKind.wrap .i64 ((i : Int) + 1) = ((i + 1 : Nat) : Int) := by rw [wrap64 (by omega)]; omega
      simp only [g_Ss_l2Is_0, RT.sel, cond_true, h1, h2, hw, decide_true, and_self, Int.toNat_natCast]
      cases at_ (.int .i64) ls i == s <;> rfl
    · simp [g_Ss_l2Is_0, RT.sel]
  have e : ls.contains s = !ls.all (fun x => !(x == s)) := by
    rw [Bool.eq_iff_iff]
    simp
  constructor
  · simp [g_As_l2Is, h, okO]
  · simp only [g_Vs_l2Is_0, h, valO, Option.getD_some, e]
    cases ls.all (fun x => !(x == s)) <;> rfl
def openF (r : List Note) (out : List Int) : List Int := match r with | [] => out | n :: _ => bif decide (n.1 = 1) && (decide (ofP r n.2.1 = 1) && !out.contains n.2.1) then out ++ [n.2.1] else out
theorem openR_eq : ∀ (l : List Note) (out : List Int), openR l out = foldS openF l out
  | [], _ => rfl
  | n :: l, out => by rw [openR, openR_eq l]; rfl
theorem openF_len (r : List Note) (out : List Int) : (openF r out).length ≤ out.length + 1 := by
  unfold openF
  split
  · omega
  · rename_i n r'
    generalize (decide (n.1 = 1) && (decide (ofP (n :: r') n.2.1 = 1) && !out.contains n.2.1)) = p
    cases p
    · simp
    · simp
theorem i_open_f (l : List Note) (safe : Int) (hl : l.length ≤ 1048576) : g_Ai_LogDisk_open l safe = true ∧ g_Vi_LogDisk_open_0 l safe = openP l ∧ (openP l).length ≤ l.length := by
  obtain ⟨L, hJ⟩ := loop_foldS (e := NI_) (step := g_Si_LogDisk_open_0 l (l.length : Int) l safe) l (fun i a => (a, i)) openF id (fun i (a : List Int) => a.length ≤ i) (fun i a hi ha => by
    have k1 : (i : Int) < l.length := by omega
    have k2 : (0 : Int) ≤ (i : Int) := by omega
    have hof : ofP l l[i].2.1 = ofP (l[i] :: l.drop (i + 1)) l[i].2.1 ∨ ¬ l[i].1 = 1 := by
      by_cases h1 : l[i].1 = 1
      · left
        have := ofP_from (l.take i) l[i] (l.drop (i + 1)) h1
        rwa [← List.drop_eq_getElem_cons hi, List.take_append_drop, List.drop_eq_getElem_cons hi] at this
      · exact .inr h1
    have hlen := openF_len (l.drop i) a
    refine ⟨?_, by omega⟩
    rw [List.drop_eq_getElem_cons hi]
    have hat : at_ NI_ l i = l[i] := at_eq (e := NI_) hi
    obtain ⟨c1, c2⟩ := containsI_f a l[i].2.1 (by omega)
    have e1 : (l[i].1 == 1) = decide (l[i].1 = 1) := rfl
    have e2 : (ofP l l[i].2.1 == 1) = decide (ofP l l[i].2.1 = 1) := rfl
    simp only [g_Si_LogDisk_open_0, RT.sel, cond_true, k1, k2, decide_true, and_self, Int.toNat_natCast, wrap64 (x := (i : Int) + 1) (by omega), hat, c1, c2, g_Ai_LogDisk_of, decide_eq_true hl, of_eq, e1, e2]
    rw [capF_f a.length _ 8 (by show _ + 1 ≤ _; omega) (by decide)]
    simp only [openF]
    rcases hof with hof | hof
    · rw [hof]
      cases decide (l[i].1 = 1) <;> cases a.contains l[i].2.1 <;> cases decide (ofP (l[i] :: l.drop (i + 1)) l[i].2.1 = 1) <;> rfl
    · rw [decide_eq_false hof]; rfl) (fun a => by simp only [g_Si_LogDisk_open_0, RT.sel, cond_true, Int.lt_irrefl, decide_false, cond_false, id]) ([] : List Int) (by simp)
  rw [← openR_eq] at L hJ
  have L : g_Li_LogDisk_open_0 l (l.length : Int) l safe ([], 0) = some (openP l) := L
  simp only [g_Ai_LogDisk_open, g_Vi_LogDisk_open_0, L, okO, valO, Option.isSome_some, Option.getD_some, true_and]
  exact hJ
theorem i_DiskOpen_f (l : List Note) (safe : Int) (hl : l.length ≤ 1048576) (hit : ∀ x ∈ l, smallN x) : g_Ai_DiskOpen l safe = true ∧ g_Vi_DiskOpen_0 l safe = bif diskP l safe then openP l else [] := by
  obtain ⟨a1, a2⟩ := i_DiskOk_f l safe hl hit
  obtain ⟨b1, b2, _⟩ := i_open_f l safe hl
  unfold g_Ai_DiskOpen g_Vi_DiskOpen_0
  rw [a1, a2, b1, b2]
  cases diskP l safe <;> exact ⟨rfl, rfl⟩
theorem s_DiskOpen_f (l : List Note) (safe : Int) (hl : l.length ≤ 1048576) (hit : ∀ x ∈ l, smallN x) : g_As_DiskOpen l safe = true ∧ g_Vs_DiskOpen_0 l safe = bif diskP l safe then openP l else [] := by
  obtain ⟨a1, a2⟩ := s_DiskOk_f l safe hl hit
  obtain ⟨L, _⟩ := loop_foldS (e := NI_) (step := g_Ss_DiskOpen_0 l safe) l (fun i a => (a, i)) openF id (fun i (a : List Int) => a.length ≤ i) (fun i a hi ha => by
    have k1 : (i : Int) < l.length := by omega
    have k2 : (0 : Int) ≤ (i : Int) := by omega
    have k3 : (i : Int) ≤ l.length := by omega
    have hlen := openF_len (l.drop i) a
    refine ⟨?_, by omega⟩
    have hdr : List.drop i (List.take l.length l) = l[i] :: l.drop (i + 1) := by rw [List.take_length, List.drop_eq_getElem_cons hi]
    rw [List.drop_eq_getElem_cons hi]
    have hat : at_ NI_ l i = l[i] := at_eq (e := NI_) hi
    obtain ⟨c1, c2⟩ := l2Is_f a l[i].2.1 (by omega)
    obtain ⟨o1, o2⟩ := l2Of_f (l[i] :: l.drop (i + 1)) l[i].2.1 (by rw [List.length_cons, List.length_drop]; omega)
    have e1 : (l[i].1 == 1) = decide (l[i].1 = 1) := rfl
    have e2 : ∀ x : Int, (x == 1) = decide (x = 1) := fun _ => rfl
    simp only [g_Ss_DiskOpen_0, RT.sel, cond_true, k1, k2, decide_true, k3, and_self, Int.toNat_natCast, wrap64 (x := (i : Int) + 1) (by omega), hat, hdr, c1, c2, o1, o2, e2]
    rw [capF_f a.length _ 8 (by show _ + 1 ≤ _; omega) (by decide)]
    simp only [openF]
    cases decide (l[i].1 = 1) <;> cases a.contains l[i].2.1 <;> cases decide (ofP (l[i] :: l.drop (i + 1)) l[i].2.1 = 1) <;> rfl) (fun a => by simp only [g_Ss_DiskOpen_0, RT.sel, cond_true, Int.lt_irrefl, decide_false, cond_false, id]) ([] : List Int) (by simp)
  rw [← openR_eq] at L
  have L : g_Ls_DiskOpen_0 l safe ([], 0) = some (openP l) := L
  unfold g_As_DiskOpen g_Vs_DiskOpen_0
  rw [a1, a2, L]
  cases diskP l safe <;> exact ⟨rfl, rfl⟩
end Go.Proofs.YtkjeicijcecmlaaDoor.E
end
section
namespace Go.Proofs.YtkjeicijcecmlaaDoor.E
open Go
set_option maxRecDepth 100000
def addF (r : List ByteArray) (o : List ByteArray) : List ByteArray := match r with | [] => o | s :: _ => bif hasP o s then o else o ++ [s]
theorem addF_eq : ∀ (ls out : List ByteArray), foldS addF ls out = addP out ls
  | [], _ => rfl
  | s :: ls, out => by rw [foldS, addF_eq ls]; rfl
theorem addF_len (r o : List ByteArray) : (addF r o).length ≤ o.length + 1 := by
  unfold addF
  split
  · omega
  · rename_i s r'
    cases hasP o s
    · simp
    · simp
theorem addP_len : ∀ (ls out : List ByteArray), (addP out ls).length ≤ out.length + ls.length
  | [], out => by simp [addP]
  | s :: ls, out => by
    have h1 := addF_len (s :: ls) out
    have h2 := addP_len ls (addF (s :: ls) out)
    have e : addP out (s :: ls) = addP (addF (s :: ls) out) ls := rfl
    rw [e, List.length_cons]
    omega
theorem inner_i (y0 : List Int) (y2 : List Note) (y3 y4 : Int) (ls out : List ByteArray) (h : out.length + ls.length ≤ 1048576) : g_Li_DiskLocks_2 y0 y2 y3 y4 ls (ls.length : Int) (out, 0) = some (addP out ls) := by
  obtain ⟨L, _⟩ := loop_foldS (e := .str) (step := g_Si_DiskLocks_2 y0 y2 y3 y4 ls (ls.length : Int)) ls (fun i a => (a, i)) addF id (fun i a => a.length ≤ out.length + i) (fun i a hi ha => by
    have k1 : (i : Int) < ls.length := by omega
    have k2 : (0 : Int) ≤ (i : Int) := by omega
    have hlen := addF_len (ls.drop i) a
    refine ⟨?_, by omega⟩
    have hat : at_ Ty.str ls i = ls[i] := at_eq (e := .str) hi
    rw [List.drop_eq_getElem_cons hi]
    obtain ⟨c1, c2⟩ := containsS_f a ls[i] (by omega)
    simp only [g_Si_DiskLocks_2, RT.sel, cond_true, k1, k2, decide_true, and_self, Int.toNat_natCast, wrap64 (x := (i : Int) + 1) (by omega), hat, c1, c2]
    rw [capF_f a.length _ 16 (by show _ + 1 ≤ _; omega) (by decide)]
    simp only [addF]
    cases hasP a ls[i] <;> rfl) (fun a => by simp only [g_Si_DiskLocks_2, RT.sel, cond_true, Int.lt_irrefl, decide_false, cond_false, id]) out (by omega)
  rw [addF_eq] at L
  exact L
theorem inner_s (y1 : Int) (y3 : List Note) (y4 y5 y6 : Int) (y8 : List (ByteArray × Bool × List Int)) (ls out : List ByteArray) (h : out.length + ls.length ≤ 1048576) : g_Ls_DiskLocks_2 y1 y3 y4 y5 y6 ls y8 (out, 0) = some (addP out ls) := by
  obtain ⟨L, _⟩ := loop_foldS (e := .str) (step := g_Ss_DiskLocks_2 y1 y3 y4 y5 y6 ls y8) ls (fun i a => (a, i)) addF id (fun i a => a.length ≤ out.length + i) (fun i a hi ha => by
    have k1 : (i : Int) < ls.length := by omega
    have k2 : (0 : Int) ≤ (i : Int) := by omega
    have hlen := addF_len (ls.drop i) a
    refine ⟨?_, by omega⟩
    have hat : at_ Ty.str ls i = ls[i] := at_eq (e := .str) hi
    rw [List.drop_eq_getElem_cons hi]
    obtain ⟨c1, c2⟩ := l2Has_f a ls[i] (by omega)
    simp only [g_Ss_DiskLocks_2, RT.sel, cond_true, k1, k2, decide_true, and_self, Int.toNat_natCast, wrap64 (x := (i : Int) + 1) (by omega), hat, c1, c2]
    rw [capF_f a.length _ 16 (by show _ + 1 ≤ _; omega) (by decide)]
    simp only [addF]
    cases hasP a ls[i] <;> rfl) (fun a => by simp only [g_Ss_DiskLocks_2, RT.sel, cond_true, Int.lt_irrefl, decide_false, cond_false, id]) out (by omega)
  rw [addF_eq] at L
  exact L
def lockF (r : List Note) (o : List ByteArray) : List ByteArray := match r with | [] => o | n :: _ => bif decide (n.1 = 1) && decide (ofP r n.2.1 = 1) then addP o n.2.2.1 else o
theorem lockF_eq : ∀ (l : List Note) (out : List ByteArray), foldS lockF l out = locksR l out
  | [], _ => rfl
  | n :: l, out => by rw [foldS, lockF_eq l]; rfl
def manyL (l : List Note) : Nat := (l.map fun n => n.2.2.1.length).sum
theorem manyL_take (l : List Note) (i : Nat) (h : i < l.length) : manyL (l.take (i + 1)) = manyL (l.take i) + l[i].2.2.1.length := by
  unfold manyL
  rw [List.take_succ_eq_append_getElem h, List.map_append, List.sum_append]
  simp
theorem manyL_le (l : List Note) (i : Nat) : manyL (l.take i) ≤ manyL l := by
  have : manyL l = manyL (l.take i) + manyL (l.drop i) := by
    unfold manyL
    rw [← List.sum_append, ← List.map_append, List.take_append_drop]
  omega
theorem lockF_len (l : List Note) (i : Nat) (h : i < l.length) (a : List ByteArray) (ha : a.length ≤ manyL (l.take i)) : (lockF (l.drop i) a).length ≤ manyL (l.take (i + 1)) := by
  rw [List.drop_eq_getElem_cons h, manyL_take l i h]
  simp only [lockF]
  have := addP_len l[i].2.2.1 a
  generalize (decide (l[i].1 = 1) && _) = b
  cases b
  · simp only [cond_false]; omega
  · simp only [cond_true]; omega
theorem i_DiskLocks_f (l : List Note) (safe : Int) (hl : l.length ≤ 1048576) (hit : ∀ x ∈ l, smallN x) (hm : manyL l ≤ 1048576) : g_Ai_DiskLocks l safe = true ∧ g_Vi_DiskLocks_0 l safe = (bif diskP l safe then locksP l else []) ∧ (locksP l).length ≤ 1048576 := by
  obtain ⟨a1, a2⟩ := i_DiskOk_f l safe hl hit
  obtain ⟨b1, b2, b3⟩ := i_open_f l safe hl
  obtain ⟨L, hJ⟩ := loop_foldS (e := NI_) (step := g_Si_DiskLocks_0 (openP l) l (l.length : Int)) l (fun i a => (a, i)) lockF id (fun i a => a.length ≤ manyL (l.take i)) (fun i a hi ha => by
    have k1 : (i : Int) < l.length := by omega
    have k2 : (0 : Int) ≤ (i : Int) := by omega
    refine ⟨?_, lockF_len l i hi a ha⟩
    have hle := manyL_le l (i + 1)
    rw [manyL_take l i hi] at hle
    have hat : at_ NI_ l i = l[i] := at_eq (e := NI_) hi
    have hc : l[i].1 = 1 → (openP l).contains l[i].2.1 = decide (ofP (l[i] :: l.drop (i + 1)) l[i].2.1 = 1) := by
      intro h1
      have hf := ofP_from (l.take i) l[i] (l.drop (i + 1)) h1
      rw [← List.drop_eq_getElem_cons hi, List.take_append_drop, List.drop_eq_getElem_cons hi] at hf
      rw [← hf, Bool.eq_iff_iff, List.contains_iff_mem, decide_eq_true_eq]
      unfold openP
      rw [openR_mem]
      constructor
      · rintro (h | ⟨m, _, _, e, h⟩)
        · cases h
        · exact h
      · intro h
        exact .inr ⟨l[i], List.getElem_mem hi, h1, rfl, h⟩
    rw [List.drop_eq_getElem_cons hi]
    obtain ⟨c1, c2⟩ := containsI_f (openP l) l[i].2.1 (by omega)
    have e1 : (l[i].1 != 1) = !decide (l[i].1 = 1) := rfl
    have ii := inner_i (openP l) l (l.length : Int) (i : Int) l[i].2.2.1 a (by omega)
    simp only [g_Si_DiskLocks_0, RT.sel, cond_true, k1, k2, decide_true, and_self, Int.toNat_natCast, wrap64 (x := (i : Int) + 1) (by omega), hat, e1, c1, c2, ii, okO, valO, Option.isSome_some, Option.getD_some]
    simp only [lockF]
    by_cases h1 : l[i].1 = 1
    · rw [hc h1, decide_eq_true h1]
      cases decide (ofP (l[i] :: l.drop (i + 1)) l[i].2.1 = 1) <;> rfl
    · rw [decide_eq_false h1]
      rfl) (fun a => by simp only [g_Si_DiskLocks_0, RT.sel, cond_true, Int.lt_irrefl, decide_false, cond_false, id]) ([] : List ByteArray) (by simp)
  rw [lockF_eq] at L hJ
  have L : g_Li_DiskLocks_0 (openP l) l (l.length : Int) ([], 0) = some (locksP l) := L
  have hJ : (locksP l).length ≤ manyL (l.take l.length) := hJ
  rw [List.take_length] at hJ
  unfold g_Ai_DiskLocks g_Vi_DiskLocks_0
  rw [a1, a2, b1, b2, L]
  refine ⟨?_, ?_, by omega⟩
  · cases diskP l safe <;> rfl
  · cases diskP l safe <;> rfl
theorem s_DiskLocks_f (l : List Note) (safe : Int) (hl : l.length ≤ 1048576) (hit : ∀ x ∈ l, smallN x) (hm : manyL l ≤ 1048576) : g_As_DiskLocks l safe = true ∧ g_Vs_DiskLocks_0 l safe = (bif diskP l safe then locksP l else []) := by
  obtain ⟨a1, a2⟩ := s_DiskOk_f l safe hl hit
  obtain ⟨L, _⟩ := loop_foldS (e := NI_) (step := g_Ss_DiskLocks_0 l safe) l (fun i a => (a, i)) lockF id (fun i a => a.length ≤ manyL (l.take i)) (fun i a hi ha => by
    have k1 : (i : Int) < l.length := by omega
    have k2 : (0 : Int) ≤ (i : Int) := by omega
    have k3 : (i : Int) ≤ l.length := by omega
    refine ⟨?_, lockF_len l i hi a ha⟩
    have hle := manyL_le l (i + 1)
    rw [manyL_take l i hi] at hle
    have hat : at_ NI_ l i = l[i] := at_eq (e := NI_) hi
    have hdr : List.drop i (List.take l.length l) = l[i] :: l.drop (i + 1) := by rw [List.take_length, List.drop_eq_getElem_cons hi]
    rw [List.drop_eq_getElem_cons hi]
    obtain ⟨o1, o2⟩ := l2Of_f (l[i] :: l.drop (i + 1)) l[i].2.1 (by rw [List.length_cons, List.length_drop]; omega)
    have e2 : ∀ x : Int, (x == 1) = decide (x = 1) := fun _ => rfl
    have ii := inner_s (i : Int) l safe l[i].1 l[i].2.1 l[i].2.2.2 l[i].2.2.1 a (by omega)
    simp only [g_Ss_DiskLocks_0, RT.sel, cond_true, k1, k2, decide_true, k3, and_self, Int.toNat_natCast, wrap64 (x := (i : Int) + 1) (by omega), hat, hdr, o1, o2, e2, ii, okO, valO, Option.isSome_some, Option.getD_some]
    simp only [lockF]
    cases decide (l[i].1 = 1) <;> cases decide (ofP (l[i] :: l.drop (i + 1)) l[i].2.1 = 1) <;> rfl) (fun a => by simp only [g_Ss_DiskLocks_0, RT.sel, cond_true, Int.lt_irrefl, decide_false, cond_false, id]) ([] : List ByteArray) (by simp)
  rw [lockF_eq] at L
  have L : g_Ls_DiskLocks_0 l safe ([], 0) = some (locksP l) := L
  unfold g_As_DiskLocks g_Vs_DiskLocks_0
  rw [a1, a2, L]
  cases diskP l safe <;> exact ⟨rfl, rfl⟩
end Go.Proofs.YtkjeicijcecmlaaDoor.E
end
section
namespace Go.Proofs.YtkjeicijcecmlaaDoor.E
open Go
/-- What is noted of something last was noted of it. -/
theorem ofG_mem (tx : Int) : ∀ (l : List Note) (how : Int), ofG how l tx = how ∨ ∃ n ∈ l, n.2.1 = tx ∧ n.1 = ofG how l tx
  | [], how => .inl rfl
  | n :: l, how => by
    rw [ofG_cons]
    cases hc : decide (n.2.1 = tx) && !decide (n.1 = 4)
    · rw [cond_false]
      rcases ofG_mem tx l how with h | ⟨m, hm, h1, h2⟩
      · exact .inl h
      · exact .inr ⟨m, List.mem_cons_of_mem _ hm, h1, h2⟩
    · rw [cond_true]
      simp only [Bool.and_eq_true, decide_eq_true_eq] at hc
      rcases ofG_mem tx l n.1 with h | ⟨m, hm, h1, h2⟩
      · exact .inr ⟨n, List.mem_cons_self, hc.1, h.symm⟩
      · exact .inr ⟨m, List.mem_cons_of_mem _ hm, h1, h2⟩
theorem open_of (l : List Note) (tx : Int) : (openP l).contains tx = (ofP l tx == 1) := by
  rw [Bool.eq_iff_iff, List.contains_iff_mem, beq_iff_eq]
  unfold openP
  rw [openR_mem]
  constructor
  · rintro (h | ⟨_, _, _, _, h⟩)
    · cases h
    · exact h
  · intro h
    rcases ofG_mem tx l 0 with h1 | ⟨n, hn, h1, h2⟩
    · unfold ofP at h; rw [h1] at h; cases h
    · exact .inr ⟨n, hn, h2.trans h, h1, h⟩
/-- Each once. -/
def Nd (ls : List ByteArray) : Prop := ls.Pairwise fun a b => (a.toList == b.toList) = false
theorem hasP_false {o : List ByteArray} {s : ByteArray} (h : hasP o s = false) : ∀ x ∈ o, (x.toList == s.toList) = false := by
  unfold hasP at h
  rw [List.any_eq_false] at h
  intro x hx
  have := h x hx
  simpa using this
theorem addP_nd : ∀ (ls out : List ByteArray), Nd out → Nd (addP out ls)
  | [], out, h => h
  | s :: ls, out, h => by
    have e : addP out (s :: ls) = addP (addF (s :: ls) out) ls := rfl
    rw [e]
    refine addP_nd ls _ ?_
    simp only [addF]
    cases hs : hasP out s
    · rw [cond_false]
      refine List.pairwise_append.2 ⟨h, List.pairwise_singleton _ _, fun a ha b hb => ?_⟩
      rw [List.mem_singleton] at hb
      rw [hb]
      exact hasP_false hs a ha
    · exact h
theorem addP_mem : ∀ (ls out : List ByteArray) (x : ByteArray), x ∈ addP out ls → x ∈ out ∨ x ∈ ls
  | [], out, x, h => .inl h
  | s :: ls, out, x, h => by
    have e : addP out (s :: ls) = addP (addF (s :: ls) out) ls := rfl
    rw [e] at h
    rcases addP_mem ls _ x h with h | h
    · simp only [addF] at h
      cases hs : hasP out s
      · rw [hs, cond_false, List.mem_append, List.mem_singleton] at h
        rcases h with h | h
        · exact .inl h
        · exact .inr (by rw [h]; exact List.mem_cons_self)
      · rw [hs] at h; exact .inl h
    · exact .inr (List.mem_cons_of_mem _ h)
theorem locksR_nd : ∀ (l : List Note) (out : List ByteArray), Nd out → Nd (locksR l out)
  | [], _, h => h
  | n :: l, out, h => by
    rw [locksR]
    refine locksR_nd l _ ?_
    cases decide (n.1 = 1) && decide (ofP (n :: l) n.2.1 = 1)
    · exact h
    · exact addP_nd _ _ h
theorem locksR_mem : ∀ (l : List Note) (out : List ByteArray) (x : ByteArray), x ∈ locksR l out → x ∈ out ∨ ∃ n ∈ l, n.1 = 1 ∧ ofP l n.2.1 = 1 ∧ x ∈ n.2.2.1
  | [], _, _, h => .inl h
  | n :: l, out, x, h => by
    rw [locksR] at h
    have hr : ∀ m ∈ l, m.1 = 1 → ofP (n :: l) m.2.1 = ofP l m.2.1 := by
      intro m hm h1
      obtain ⟨p, q, rfl⟩ := List.append_of_mem hm
      rw [← List.cons_append, ofP_from (n :: p) m q h1, ofP_from p m q h1]
    rcases locksR_mem l _ x h with h | ⟨m, hm, h1, h2, h3⟩
    · cases hc : decide (n.1 = 1) && decide (ofP (n :: l) n.2.1 = 1)
      · rw [hc] at h; exact .inl h
      · rw [hc, cond_true] at h
        simp only [Bool.and_eq_true, decide_eq_true_eq] at hc
        rcases addP_mem _ _ x h with h | h
        · exact .inl h
        · exact .inr ⟨n, List.mem_cons_self, hc.1, hc.2, h⟩
    · exact .inr ⟨m, List.mem_cons_of_mem _ hm, h1, by rw [hr m hm h1]; exact h2, h3⟩
theorem nd_take {ls : List ByteArray} (h : Nd ls) (k : Nat) (hk : k < ls.length) : hasP (ls.take k) ls[k] = false := by
  have e : ls = ls.take k ++ ls[k] :: ls.drop (k + 1) := by rw [← List.drop_eq_getElem_cons hk, List.take_append_drop]
  have h' : Nd (ls.take k ++ ls[k] :: ls.drop (k + 1)) := by rw [← e]; exact h
  have := (List.pairwise_append.1 h').2.2
  unfold hasP
  rw [List.any_eq_false]
  intro x hx
  have := this x hx ls[k] List.mem_cons_self
  simpa using this
theorem hasP_mem {ls : List ByteArray} {s : ByteArray} (h : s ∈ ls) : hasP ls s = true := by
  unfold hasP
  rw [List.any_eq_true]
  exact ⟨s, h, by simp⟩
/-- What is held is held for something that is open. -/
def heldP (l : List Note) (s : ByteArray) : Bool := l.any fun n => (n.1 == 1) && ((openP l).contains n.2.1 && hasP n.2.2.1 s)
theorem locks_held {l : List Note} {s : ByteArray} (h : s ∈ locksP l) : heldP l s = true := by
  rcases locksR_mem l [] s h with h | ⟨n, hn, h1, h2, h3⟩
  · cases h
  · unfold heldP
    rw [List.any_eq_true]
    refine ⟨n, hn, ?_⟩
    rw [open_of, h1, h2, hasP_mem h3]
    rfl
end Go.Proofs.YtkjeicijcecmlaaDoor.E
end
section
namespace Go.Proofs.YtkjeicijcecmlaaDoor.E
open Go
theorem jaIn_f (l : List Int) (n : Int) (hl : l.length ≤ 1048576) : g_Aw_jaIn l n = true ∧ g_Vw_jaIn_0 l n = !l.all (fun x => !(x == n)) := by
  have h := loop_list (e := .int .i64) (step := g_Sw_jaIn_0 l n) l (fun i : Nat => (i : Int)) (fun x => !(x == n)) (.inl true) (.inr ()) (fun i hi => by
      have k1 : (i : Int) < l.length := by omega
      have k2 : (0 : Int) ≤ (i : Int) := by omega
      have hw : IntKind.wrap .i64 ((i : Int) + 1) = ((i + 1 : Nat) : Int) := by rw [wrap64 (by omega)]; omega
      simp only [g_Sw_jaIn_0, RT.sel, cond_true, k1, k2, hw, decide_true, and_self, Int.toNat_natCast]
      cases hb : (at_ (.int .i64) l i == n) <;> rfl) (by simp [g_Sw_jaIn_0, RT.sel])
  have h : g_Lw_jaIn_0 l n 0 = _ := h
  refine ⟨by simp [g_Aw_jaIn, h, okO], ?_⟩
  simp only [g_Vw_jaIn_0, h, valO, Option.getD_some]
  cases l.all (fun x => !(x == n)) <;> rfl
theorem jaIn_c (l : List Int) (n : Int) (hl : l.length ≤ 1048576) : g_Aw_jaIn l n = true ∧ g_Vw_jaIn_0 l n = l.contains n := by
  obtain ⟨h1, h2⟩ := jaIn_f l n hl
  refine ⟨h1, h2.trans ?_⟩
  rw [Bool.eq_iff_iff]
  simp
theorem jaHas_f (l : List ByteArray) (s : ByteArray) (hl : l.length ≤ 1048576) : g_Aw_jaHas l s = true ∧ g_Vw_jaHas_0 l s = hasP l s := by
  have h := loop_list (e := .str) (step := g_Sw_jaHas_0 l s) l (fun i : Nat => (i : Int)) (fun x => !(x.toList == s.toList)) (.inl true) (.inr ()) (fun i hi => by
      have k1 : (i : Int) < l.length := by omega
      have k2 : (0 : Int) ≤ (i : Int) := by omega
      have hw : IntKind.wrap .i64 ((i : Int) + 1) = ((i + 1 : Nat) : Int) := by rw [wrap64 (by omega)]; omega
      simp only [g_Sw_jaHas_0, RT.sel, cond_true, k1, k2, hw, decide_true, and_self, Int.toNat_natCast]
      cases hb : ((at_ .str l i).toList == s.toList) <;> rfl) (by simp [g_Sw_jaHas_0, RT.sel])
  have h : g_Lw_jaHas_0 l s 0 = _ := h
  have e : hasP l s = !l.all (fun x => !(x.toList == s.toList)) := by
    unfold hasP
    rw [Bool.eq_iff_iff]
    simp
  refine ⟨by simp [g_Aw_jaHas, h, okO], ?_⟩
  simp only [g_Vw_jaHas_0, h, valO, Option.getD_some, e]
  cases l.all (fun x => !(x.toList == s.toList)) <;> rfl
end Go.Proofs.YtkjeicijcecmlaaDoor.E
end
section
namespace Go.Proofs.YtkjeicijcecmlaaDoor.E
open Go
set_option maxRecDepth 100000
theorem jaInts_self (l : List (Int)) (hl : l.length ≤ 1048576) : g_Aw_jaInts l l = true ∧ g_Vw_jaInts_0 l l = true := by
  have h : g_Lw_jaInts_0 l l 0 = some (.inr ()) := by
    have := loop_all (step := g_Sw_jaInts_0 l l) (fun i : Nat => (i : Int)) (fun _ => true) (.inl false) (.inr ()) l.length (fun i hi => by
      have k1 : (i : Int) < l.length := by omega
      have k2 : (0 : Int) ≤ (i : Int) := by omega
      have hw : IntKind.wrap .i64 ((i : Int) + 1) = ((i + 1 : Nat) : Int) := by rw [wrap64 (by omega)]; omega
      simp only [g_Sw_jaInts_0, RT.sel, cond_true, k1, k2, hw, decide_true, and_self, Int.toNat_natCast, bne_self_eq_false, BEq.rfl, Bool.not_true, cond_false]) (by simp [g_Sw_jaInts_0, RT.sel])
    rw [show (List.range l.length).all (fun _ => true) = true by simp] at this
    exact this
  simp [g_Aw_jaInts, g_Vw_jaInts_0, h, okO, valO, isL]
end Go.Proofs.YtkjeicijcecmlaaDoor.E
end
section
namespace Go.Proofs.YtkjeicijcecmlaaDoor.E
open Go
theorem jaTexts_self (l : List (ByteArray)) (hl : l.length ≤ 1048576) : g_Aw_jaTexts l l = true ∧ g_Vw_jaTexts_0 l l = true := by
  have h : g_Lw_jaTexts_0 l l 0 = some (.inr ()) := by
    have := loop_all (step := g_Sw_jaTexts_0 l l) (fun i : Nat => (i : Int)) (fun _ => true) (.inl false) (.inr ()) l.length (fun i hi => by
      have k1 : (i : Int) < l.length := by omega
      have k2 : (0 : Int) ≤ (i : Int) := by omega
      have hw : IntKind.wrap .i64 ((i : Int) + 1) = ((i + 1 : Nat) : Int) := by rw [wrap64 (by omega)]; omega
      simp only [g_Sw_jaTexts_0, RT.sel, cond_true, k1, k2, hw, decide_true, and_self, Int.toNat_natCast, bne_self_eq_false, BEq.rfl, Bool.not_true, cond_false]) (by simp [g_Sw_jaTexts_0, RT.sel])
    rw [show (List.range l.length).all (fun _ => true) = true by simp] at this
    exact this
  simp [g_Aw_jaTexts, g_Vw_jaTexts_0, h, okO, valO, isL]
end Go.Proofs.YtkjeicijcecmlaaDoor.E
end
section
namespace Go.Proofs.YtkjeicijcecmlaaDoor.E
open Go
set_option maxHeartbeats 4000000
set_option maxRecDepth 100000
theorem cond_nf (a b : Bool) : (bif !a then false else b) = (a && b) := by cases a <;> rfl
theorem cond_f (a b : Bool) : (bif a then b else false) = (a && b) := by cases a <;> rfl
/-! draws: a reader's place stays small -/
theorem wrapS {x : Int} (h : 0 ≤ x ∧ x ≤ 100000) : IntKind.wrap .i64 (x + 1) = x + 1 := wrap64 (by omega)
theorem wrapL {x : Int} (h : 0 ≤ x ∧ x ≤ 100000) : IntKind.wrap .i64 x = x := wrap64 (by omega)
theorem pickA_f (r0 : List Int) (r1 n : Int) (h : 0 ≤ r1 ∧ r1 ≤ 100000) (hn : 1 ≤ n) (hl : r0.length ≤ 1048576) : g_pickA r0 r1 n = true := by
  have e1 : IntKind.wrap .i64 (IntKind.wrap .i64 (r1 + 1) - 1) = r1 := by rw [wrapS h, wrap64 (by omega)]; omega
  have e2 : IntKind.wrap .i64 (IntKind.wrap .i64 (r1 * 7) + 3) = r1 * 7 + 3 := by rw [wrap64 (x := r1 * 7) (by omega), wrap64 (by omega)]
  have e3 : (n == 0) = false := by simpa using (by omega : n ≠ 0)
  unfold g_pickA
  simp only [g_As_l20Rd_pick0, e1, e2, e3]
  by_cases hz : r0.length = 0
  · simp [hz]
  · have hp : (0 : Int) < (r0.length : Int) := by omega
    have t1 : 0 ≤ Int.tmod r1 r0.length := Int.tmod_nonneg _ h.1
    have t2 : Int.tmod r1 r0.length < r0.length := Int.tmod_lt_of_pos _ hp
    have t3 : 0 ≤ Int.tmod (r1 * 7 + 3) r0.length := Int.tmod_nonneg _ (by omega)
    have t4 : Int.tmod (r1 * 7 + 3) r0.length < r0.length := Int.tmod_lt_of_pos _ hp
    have z : ((r0.length : Int) == 0) = false := by simpa using hz
    by_cases hlt : r1 < (r0.length : Int)
    · simp [hlt, h.1]
    · simp only [decide_eq_false hlt, cond_false, z, Bool.not_false, Bool.true_and, t1, t2, t3, t4, and_self, decide_true, Bool.or_true]
theorem oddA_f (r0 : List Int) (r1 n : Int) (h : 0 ≤ r1 ∧ r1 ≤ 100000) (hl : r0.length ≤ 1048576) : g_As_l20Rd_odd r0 r1 n = true := by
  unfold g_As_l20Rd_odd
  by_cases hn : n > 0
  · rw [pickA_f r0 r1 n h (by omega) hl]; simp
  · simp [hn]
theorem open_f (a : List Int) : g_As_l20Open a = true ∧ (g_Vs_l20Open_0 a).length ≤ 2000 ∧ g_Vs_l20Open_1 a = 0 := by
  refine ⟨?_, ?_, ?_⟩
  · unfold g_As_l20Open
    by_cases h : (a.length : Int) > 2000
    · have : (2000 : Int) ≤ a.length := by omega
      simp [h, this]
    · simp [h]
      cases decide ((2000 : Int) ≤ a.length) <;> rfl
  · unfold g_Vs_l20Open_0
    by_cases h : (a.length : Int) > 2000
    · rw [decide_eq_true h, cond_true]; exact Nat.le_trans (by rw [List.length_drop]; exact Nat.sub_le _ _) (List.length_take_le 2000 a)
    · rw [decide_eq_false h, cond_false]; omega
  · unfold g_Vs_l20Open_1
    generalize decide ((a.length : Int) > 2000) = p
    cases p <;> rfl
/-- A reader's bytes. -/
def RdOk (r0 : List Int) : Prop := r0.length ≤ 1048576 ∧ ∀ n ∈ r0, 0 ≤ n ∧ n < 256
theorem at_u8 {r0 : List Int} (h : RdOk r0) (i : Nat) : ∃ x : Int, at_ (.int .u8) r0 i = x ∧ 0 ≤ x ∧ x < 256 := by
  by_cases hi : i < r0.length
  · exact ⟨_, rfl, h.2 _ (at_mem (e := .int .u8) hi)⟩
  · refine ⟨0, by simp [at_, List.getElem?_eq_none (by omega : r0.length ≤ i), Ty.zero], by omega, by omega⟩
theorem xor_small {x y : Int} (hx : 0 ≤ x ∧ x < 16777216) (hy : 0 ≤ y ∧ y < 16777216) : ((BitVec.toNat (BitVec.ofInt 64 x ^^^ BitVec.ofInt 64 y) : Nat) : Int) < 16777216 := by
  have key : ∀ z : Int, 0 ≤ z ∧ z < 16777216 → (BitVec.ofInt 64 z).toNat < 2 ^ 24 := by
    intro z hz
    rw [BitVec.toNat_ofInt]
    have : z % ((2 ^ 64 : Nat) : Int) = z := Int.emod_eq_of_lt hz.1 (by omega)
    rw [this]
    omega
  have := Nat.xor_lt_two_pow (key x hx) (key y hy)
  rw [BitVec.toNat_xor]
  omega
theorem pick_f (r0 : List Int) (r1 n : Int) (h : 0 ≤ r1 ∧ r1 ≤ 100000) (hn : 1 ≤ n) (hr : RdOk r0) : 0 ≤ g_pick r0 r1 n ∧ g_pick r0 r1 n < n := by
  have e1 : IntKind.wrap .i64 (IntKind.wrap .i64 (r1 + 1) - 1) = r1 := by rw [wrapS h, wrap64 (by omega)]; omega
  have e2 : IntKind.wrap .i64 (IntKind.wrap .i64 (r1 * 7) + 3) = r1 * 7 + 3 := by rw [wrap64 (x := r1 * 7) (by omega), wrap64 (by omega)]
  have tm : ∀ x : Int, 0 ≤ x → 0 ≤ Int.tmod x n ∧ Int.tmod x n < n := fun x hx => ⟨Int.tmod_nonneg _ hx, Int.tmod_lt_of_pos _ (by omega)⟩
  unfold g_pick
  simp only [g_Vs_l20Rd_pick0_0, e1, e2]
  rw [decide_eq_false (by omega : ¬ n < 1), cond_false]
  by_cases hz : r0.length = 0
  · rw [show ((r0.length : Int) == 0) = true by simp [hz], cond_true]; omega
  · have hp : (0 : Int) < (r0.length : Int) := by omega
    rw [show ((r0.length : Int) == 0) = false by simpa using hz, cond_false]
    by_cases hlt : r1 < (r0.length : Int)
    · rw [decide_eq_true hlt, cond_true]
      obtain ⟨x, e, b⟩ := at_u8 hr r1.toNat
      rw [e, wrap64 (by omega)]
      exact tm _ b.1
    · rw [decide_eq_false hlt, cond_false]
      obtain ⟨x1, y1, b1⟩ := at_u8 hr (Int.tmod r1 r0.length).toNat
      obtain ⟨x2, y2, b2⟩ := at_u8 hr (Int.tmod (r1 * 7 + 3) r0.length).toNat
      have d0 : 0 ≤ Int.tdiv r1 r0.length := Int.tdiv_nonneg h.1 (by omega)
      have d1 : Int.tdiv r1 r0.length ≤ r1 := by
        rw [Int.tdiv_eq_ediv_of_nonneg h.1]
        exact Int.ediv_le_self _ h.1
      rw [y1, y2]
      generalize Int.tdiv r1 r0.length = q at d0 d1 ⊢
      rw [wrap64 (x := x1) (by omega), wrap64 (x := x2) (by omega), wrap64 (x := x1 * 131) (by omega), wrap64 (x := x2 * 1117) (by omega), wrap64 (x := r1 * 29) (by omega), wrap64 (x := q) (by omega), wrap64 (x := q * 53) (by omega), wrap64 (x := x1 * 131 + x2 * 1117) (by omega), wrap64 (x := x1 * 131 + x2 * 1117 + r1 * 29) (by omega), wrap64 (x := x1 * 131 + x2 * 1117 + r1 * 29 + q * 53) (by omega)]
      generalize hX : x1 * 131 + x2 * 1117 + r1 * 29 + q * 53 = X
      have hX0 : 0 ≤ X ∧ X < 16777216 := by omega
      have hD : 0 ≤ Int.tdiv X 64 ∧ Int.tdiv X 64 < 16777216 := by
        rw [Int.tdiv_eq_ediv_of_nonneg hX0.1]
        omega
      rw [wrap64 (x := Int.tdiv X 64) (by omega)]
      have hx := xor_small hX0 hD
      have hx : (((BitVec.ofInt (nat_lit 64) X ^^^ BitVec.ofInt (nat_lit 64) (Int.tdiv X 64)).toNat : Nat) : Int) < 16777216 := hx
      generalize (BitVec.ofInt (nat_lit 64) X ^^^ BitVec.ofInt (nat_lit 64) (Int.tdiv X 64)).toNat = Y at hx ⊢
      rw [wrap64 (by omega)]
      exact tm _ (by omega)
theorem open_ok (a : List Int) (h : ∀ n ∈ a, (Lit.int .u8 n).wf = true) : RdOk (g_Vs_l20Open_0 a) := by
  have hb : ∀ n ∈ a, 0 ≤ n ∧ n < 256 := by
    intro n hn
    have := h n hn
    simp [Lit.wf, IntKind.min, IntKind.max, IntKind.bits, IntKind.signed] at this
    omega
  refine ⟨by have := (open_f a).2.1; omega, fun n hn => hb n ?_⟩
  unfold g_Vs_l20Open_0 at hn
  generalize decide ((a.length : Int) > 2000) = p at hn
  cases p
  · exact hn
  · exact List.mem_of_mem_take (List.mem_of_mem_drop hn)
/-! The same for what is drawn: it is there, and so many bytes on. -/
theorem pickD_f (r0 : List Int) (r1 n m : Int) (h : 0 ≤ r1 ∧ r1 ≤ 100000) (hn : 1 ≤ n ∧ n ≤ m) (hr : RdOk r0) : decide (0 ≤ g_pick r0 r1 n ∧ g_pick r0 r1 n < m) = true := by
  have := pick_f r0 r1 n h hn.1 hr
  exact decide_eq_true ⟨this.1, by omega⟩
theorem pickN_f (r0 : List Int) (r1 n : Int) (m : Nat) (h : 0 ≤ r1 ∧ r1 ≤ 100000) (hn : 1 ≤ n ∧ n ≤ m) (hr : RdOk r0) : decide ((g_pick r0 r1 n).toNat < m) = true := by
  have := pick_f r0 r1 n h hn.1 hr
  exact decide_eq_true (by omega)
theorem pickA_f' (r0 : List Int) (r1 n : Int) (h : 0 ≤ r1 ∧ r1 ≤ 100000) (hn : 1 ≤ n) (hr : RdOk r0) : g_pickA r0 r1 n = true := pickA_f r0 r1 n h hn hr.1
theorem oddA_f' (r0 : List Int) (r1 n : Int) (h : 0 ≤ r1 ∧ r1 ≤ 100000) (hr : RdOk r0) : g_As_l20Rd_odd r0 r1 n = true := oddA_f r0 r1 n h hr.1
def oddD (n : Int) : Int := if n > 0 then 1 else 0
theorem oddP_f (r0 : List Int) (r1 n : Int) (h : 0 ≤ r1 ∧ r1 ≤ 99999) : g_Vs_l20Rd_odd_2 r0 r1 n = r1 + oddD n % 2 := by
  unfold g_Vs_l20Rd_odd_2 oddD
  by_cases hn : n > 0
  · simp only [hn, decide_true, cond_true, if_true]; rw [wrapL (by omega)]; omega
  · simp only [hn, decide_false, cond_false, if_false]; omega
theorem at_all {e : Ty} {l : List e.den} {P : e.den → Prop} (hl : ∀ x ∈ l, P x) {i : Nat} (hi : i < l.length) : P (at_ e l i) := hl _ (at_mem hi)
theorem digit_size (n : Int) : (g_Vs_l3Digit_0 n).size = 1 := rfl
theorem plain_f (a : Int) (h : 0 ≤ a ∧ a ≤ 99) : g_As_l3Plain a = true ∧ (g_Vs_l3Plain_0 a).size ≤ 2 := by
  have e0 : (lit []).size = 0 := rfl
  have key : ∃ r, g_Ls_l3Plain_0 (a, lit []) = some r ∧ r.2.size ≤ 1 := by
    by_cases h9 : a > 9
    · refine ⟨(Int.tdiv a 10, g_Vs_l3Digit_0 (Int.tmod a 10) ++ lit []), ?_, ?_⟩
      · have d : Int.tdiv a 10 = a / 10 := Int.tdiv_eq_ediv_of_nonneg h.1
        have s1 : (g_Ss_l3Plain_0 (a, lit [])).sel = .go (Int.tdiv a 10, g_Vs_l3Digit_0 (Int.tmod a 10) ++ lit []) := by
          rw [d]
          simp only [g_Ss_l3Plain_0, RT.sel, h9, decide_true, cond_true, digit_size, e0]
          rw [d, wrapL (by omega)]
          rfl
        unfold g_Ls_l3Plain_0
        rw [loopO_eq, s1]
        show loopO _ _ = _
        rw [loopO_eq]
        have s2 : (g_Ss_l3Plain_0 (Int.tdiv a 10, g_Vs_l3Digit_0 (Int.tmod a 10) ++ lit [])).sel = .out (Int.tdiv a 10, g_Vs_l3Digit_0 (Int.tmod a 10) ++ lit []) := by
          rw [d]
          simp only [g_Ss_l3Plain_0, RT.sel, cond_true, decide_eq_false (by omega : ¬ a / 10 > 9), cond_false]
        rw [s2]
      · rw [ByteArray.size_append, digit_size, e0]; omega
    · refine ⟨(a, lit []), ?_, by rw [e0]; omega⟩
      unfold g_Ls_l3Plain_0
      rw [loopO_eq]
      have s2 : (g_Ss_l3Plain_0 (a, lit [])).sel = .out (a, lit []) := by
        simp only [g_Ss_l3Plain_0, RT.sel, cond_true, decide_eq_false h9, cond_false]
      rw [s2]
  obtain ⟨r, h1, h2⟩ := key
  refine ⟨?_, ?_⟩
  · simp only [g_As_l3Plain, h1, okO, valO, Option.isSome_some, Option.getD_some, digit_size, Bool.true_and]
    exact decide_eq_true (by omega)
  · simp only [g_Vs_l3Plain_0, h1, valO, Option.getD_some]
    rw [ByteArray.size_append, digit_size]
    omega
end Go.Proofs.YtkjeicijcecmlaaDoor.E
end
section
namespace Go.Proofs.YtkjeicijcecmlaaDoor.E
open Go
theorem jaOk_f : g_Aw_jaOk = true ∧ g_Vw_jaOk_0 = true := by
  unfold g_Aw_jaOk g_Vw_jaOk_0
  obtain ⟨a, b⟩ := i_WrtOk_f (lit [97, 49]) false [1] (by decide)
  rw [a, b]
  refine ⟨rfl, ?_⟩
  decide +kernel
end Go.Proofs.YtkjeicijcecmlaaDoor.E
end
section
namespace Go.Proofs.YtkjeicijcecmlaaDoor.E
open Go
set_option maxHeartbeats 4000000
set_option maxRecDepth 100000
noncomputable def keyD (r0 : List Int) (r1 n : Int) : Int := g_Vs_l20Key_2 r0 r1 n - r1
theorem two_at (a b c : Int) (i : Nat) (ha : 0 ≤ a ∧ a ≤ c) (hb : 0 ≤ b ∧ b ≤ c) (hi : i < 2) : 0 ≤ at_ (.int .i64) [a, b] i ∧ at_ (.int .i64) [a, b] i ≤ c := by
  have : i = 0 ∨ i = 1 := by omega
  rcases this with rfl | rfl
  · exact ha
  · exact hb
theorem key_f (r0 : List Int) (r1 n : Int) (h : 0 ≤ r1 ∧ r1 ≤ 99990) (hr : RdOk r0) : g_As_l20Key r0 r1 n = true ∧ g_Vs_l20Key_2 r0 r1 n = r1 + keyD r0 r1 n % 8 ∧ (g_Vs_l20Key_0 r0 r1 n).size ≤ 4 := by
  have p4 := pick_f r0 (r1 + 1) 4 (by omega) (by omega) hr
  have p30 := pick_f r0 (r1 + 1 + 1) 30 (by omega) (by omega) hr
  have p2 := pick_f r0 (r1 + 1 + 1 + 1) 2 (by omega) (by omega) hr
  have pl := two_at (g_pick r0 (r1 + 1) 4) (g_pick r0 (r1 + 1 + 1) 30) 29 (g_pick r0 (r1 + 1 + 1 + 1) 2).toNat (by omega) (by omega) (by omega)
  obtain ⟨q1, q2⟩ := plain_f (at_ (.int .i64) [g_pick r0 (r1 + 1) 4, g_pick r0 (r1 + 1 + 1) 30] (g_pick r0 (r1 + 1 + 1 + 1) 2).toNat) ⟨pl.1, Int.le_trans pl.2 (by decide)⟩
  have s1 : ∀ i, i < 5 → (at_ .str [lit [115], lit [99], lit [102], lit [117], lit [97]] i).size = 1 := fun i hi => at_all (e := .str) (P := fun x : ByteArray => x.size = 1) (by intro x hx; simp at hx; rcases hx with rfl | rfl | rfl | rfl | rfl <;> rfl) hi
  have s2 : ∀ i, i < 6 → (at_ .str [lit [], lit [115], lit [83, 49], lit [115, 49, 50, 51], lit [49, 115], lit [115, 97]] i).size ≤ 4 := fun i hi => at_all (e := .str) (P := fun x : ByteArray => x.size ≤ 4) (by intro x hx; simp at hx; rcases hx with rfl | rfl | rfl | rfl | rfl | rfl <;> decide) hi
  have p5 := pick_f r0 r1 5 (by omega) (by omega) hr
  have s1 := s1 (g_pick r0 r1 5).toNat (by omega)
  refine ⟨?_, ?_, ?_⟩
  · unfold g_As_l20Key
    simp (disch := first | omega | assumption) only [wrapL, pickA_f', oddA_f', oddP_f, pickD_f, pickN_f, List.length_cons, List.length_nil, Bool.true_and, q1, s1]
    rw [decide_eq_true (by omega)]
    simp (disch := first | omega | assumption) [pickA_f', pickD_f, pickN_f]
  · unfold keyD g_Vs_l20Key_2
    simp (disch := first | omega | assumption) only [wrapL, oddP_f]
    generalize g_Vs_l20Rd_odd_0 r0 _ n = b
    cases b <;> simp only [cond_true, cond_false] <;> omega
  · unfold g_Vs_l20Key_0
    simp (disch := first | omega | assumption) only [wrapL, oddP_f]
    generalize g_Vs_l20Rd_odd_0 r0 _ n = b
    cases b
    · rw [cond_false, ByteArray.size_append]; omega
    · rw [cond_true]
      have p6 := pick_f r0 (r1 + 1 + 1 + 1 + 1 + oddD n % 2) 6 (by omega) (by omega) hr
      exact s2 _ (by omega)
noncomputable def valD (r0 : List Int) (r1 n : Int) : Int := g_Vs_l20Val_2 r0 r1 n - r1
theorem val_f (r0 : List Int) (r1 n : Int) (h : 0 ≤ r1 ∧ r1 ≤ 99980) (hr : RdOk r0) : g_As_l20Val r0 r1 n = true ∧ g_Vs_l20Val_2 r0 r1 n = r1 + valD r0 r1 n % 16 ∧ (g_Vs_l20Val_0 r0 r1 n).length ≤ 4 := by
  have p4 := pick_f r0 r1 4 (by omega) (by omega) hr
  have p3 := pick_f r0 (r1 + 1) 3 (by omega) (by omega) hr
  have L : ∃ r, g_Ls_l20Val_0 n r0 ([g_pick r0 r1 4], g_pick r0 (r1 + 1) 3, r1 + 1 + 1) = some r ∧ r.1.length ≤ 4 ∧ 0 ≤ r.2 - r1 ∧ r.2 - r1 ≤ 6 := by
    refine loop_inv (step := g_Ss_l20Val_0 n r0) (fun x => x.1.length + x.2.1.toNat ≤ 3 ∧ 0 ≤ x.2.2 - r1 ∧ x.2.2 - r1 + x.2.1.toNat ≤ 6) (fun r => r.1.length ≤ 4 ∧ 0 ≤ r.2 - r1 ∧ r.2 - r1 ≤ 6) (fun x => x.2.1.toNat) ?_ _ ⟨by simp; omega, by simp; omega, by simp; omega⟩
    rintro ⟨l, k, p⟩ ⟨i1, i2, i3⟩
    simp only at i1 i2 i3
    by_cases hk : k > 0
    · refine .inl ⟨(l ++ [g_pick r0 p 12], k - 1, p + 1), ?_, ?_, ?_⟩
      · simp only [g_Ss_l20Val_0, RT.sel, hk, decide_true, cond_true]
        rw [pickA_f' r0 p 12 (by omega) (by omega) hr, cond_true, decide_eq_true (by simp only [List.length_cons, List.length_nil]; omega), cond_true, wrap64 (by omega), wrapL (by omega)]
      · simp only [List.length_append, List.length_cons, List.length_nil]
        omega
      · simp only; omega
    · refine .inr ⟨(l, p), ?_, ?_⟩
      · simp only [g_Ss_l20Val_0, RT.sel, hk, decide_false, cond_true, cond_false]
      · simp only; omega
  obtain ⟨⟨l, p⟩, e, b1, b2, b3⟩ := L
  simp only at b1 b2 b3
  have s2 : ∀ i, i < 4 → (at_ (.sl 3 (.int .i64)) [[], [-1], [10000], [1, 2, 3, 4]] i).length ≤ 4 := fun i hi => at_all (e := .sl 3 (.int .i64)) (P := fun x : List Int => x.length ≤ 4) (by intro x hx; simp at hx; rcases hx with rfl | rfl | rfl | rfl <;> decide) hi
  refine ⟨?_, ?_, ?_⟩
  · unfold g_As_l20Val
    simp (disch := first | omega | assumption) only [wrapL, e, okO, valO, Option.isSome_some, Option.getD_some, pickA_f', oddA_f', oddP_f, pickD_f, pickN_f, Bool.true_and, Bool.and_true, Bool.or_true]
  · unfold valD g_Vs_l20Val_2
    simp (disch := first | omega | assumption) only [wrapL, e, valO, Option.getD_some, oddP_f]
    generalize g_Vs_l20Rd_odd_0 r0 _ n = b
    cases b <;> simp only [cond_true, cond_false] <;> omega
  · unfold g_Vs_l20Val_0
    simp (disch := first | omega | assumption) only [wrapL, e, valO, Option.getD_some, oddP_f]
    generalize g_Vs_l20Rd_odd_0 r0 _ n = b
    cases b
    · exact b1
    · rw [cond_true]
      have p6 := pick_f r0 (p + oddD n % 2) 4 (by omega) (by omega) hr
      exact s2 _ (by omega)
noncomputable def writeD (r0 : List Int) (r1 n : Int) : Int := g_Vs_l20Write_4 r0 r1 n - r1
theorem write_f (r0 : List Int) (r1 n : Int) (h : 0 ≤ r1 ∧ r1 ≤ 99900) (hr : RdOk r0) : g_As_l20Write r0 r1 n = true ∧ g_Vs_l20Write_4 r0 r1 n = r1 + writeD r0 r1 n % 32 ∧ (g_Vs_l20Write_0 r0 r1 n).size ≤ 4 ∧ (g_Vs_l20Write_2 r0 r1 n).length ≤ 4 := by
  obtain ⟨k1, k2, k3⟩ := key_f r0 r1 n (by omega) hr
  have p3 := pick_f r0 (r1 + keyD r0 r1 n % 8) 3 (by omega) (by omega) hr
  obtain ⟨v1, v2, v3⟩ := val_f r0 (r1 + keyD r0 r1 n % 8 + 1) n (by omega) hr
  refine ⟨?_, ?_, ?_, ?_⟩
  · unfold g_As_l20Write
    simp (disch := first | omega | assumption) only [k1, k2, v1, wrapL, pickA_f', oddA_f', Bool.true_and, Bool.cond_self]
  · unfold writeD g_Vs_l20Write_4
    simp (disch := first | omega | assumption) only [k2, v2, wrapL, oddP_f, Bool.cond_self]
    cases (g_pick r0 (r1 + keyD r0 r1 n % 8) 3 == 0) <;> simp only [cond_true, cond_false] <;> omega
  · unfold g_Vs_l20Write_0
    simp only [Bool.cond_self]
    exact k3
  · unfold g_Vs_l20Write_2
    simp (disch := first | omega | assumption) only [k2, wrapL]
    cases (g_pick r0 (r1 + keyD r0 r1 n % 8) 3 == 0)
    · exact v3
    · rw [cond_true]
      generalize g_Vs_l20Rd_odd_0 r0 _ n = b
      cases b <;> decide
end Go.Proofs.YtkjeicijcecmlaaDoor.E
end
section
namespace Go.Proofs.YtkjeicijcecmlaaDoor.E
open Go
set_option maxHeartbeats 8000000
set_option maxRecDepth 100000
theorem capD_f (a b k : Nat) (h : a + b ≤ 100000) (hk : k ≤ 1000) : decide ((a + b) * k ≤ nat_lit 140737488355328 ∧ a + b ≤ nat_lit 9223372036854775807) = true := by
  refine decide_eq_true ⟨Nat.le_trans (Nat.mul_le_mul h hk) (by decide), by show a + b ≤ 9223372036854775807; omega⟩
/-- Writes that are small. -/
def smallW (w : ByteArray × Bool × List Int) : Prop := w.1.size ≤ 4 ∧ w.2.2.length ≤ 4
noncomputable def writesD (r0 : List Int) (r1 n : Int) : Int := g_Vs_l20Writes_2 r0 r1 n - r1
theorem writes_f (r0 : List Int) (r1 n : Int) (h : 0 ≤ r1 ∧ r1 ≤ 99000) (hr : RdOk r0) : g_As_l20Writes r0 r1 n = true ∧ g_Vs_l20Writes_2 r0 r1 n = r1 + writesD r0 r1 n % 256 ∧ (g_Vs_l20Writes_0 r0 r1 n).length ≤ 6 ∧ ∀ w ∈ g_Vs_l20Writes_0 r0 r1 n, smallW w := by
  have p6 := pick_f r0 r1 6 (by omega) (by omega) hr
  have L : ∃ r, g_Ls_l20Writes_0 n r0 ([], g_pick r0 r1 6, r1 + 1) = some r ∧ r.1.length ≤ 5 ∧ (∀ w ∈ r.1, smallW w) ∧ 0 ≤ r.2 - r1 ∧ r.2 - r1 ≤ 156 := by
    refine loop_inv (step := g_Ss_l20Writes_0 n r0) (fun x => x.1.length + x.2.1.toNat ≤ 5 ∧ (∀ w ∈ x.1, smallW w) ∧ 0 ≤ x.2.2 - r1 ∧ x.2.2 - r1 + 31 * x.2.1.toNat ≤ 156) (fun r => r.1.length ≤ 5 ∧ (∀ w ∈ r.1, smallW w) ∧ 0 ≤ r.2 - r1 ∧ r.2 - r1 ≤ 156) (fun x => x.2.1.toNat) ?_ _ ⟨by simp; omega, by simp, by simp; omega, by simp; omega⟩
    rintro ⟨l, k, p⟩ ⟨i1, i2, i3, i4⟩
    simp only at i1 i2 i3 i4
    by_cases hk : k > 0
    · obtain ⟨w1, w2, w3, w4⟩ := write_f r0 p 0 (by omega) hr
      refine .inl ⟨(l ++ [(g_Vs_l20Write_0 r0 p 0, g_Vs_l20Write_1 r0 p 0, g_Vs_l20Write_2 r0 p 0)], k - 1, p + writeD r0 p 0 % 32), ?_, ?_, ?_⟩
      · simp only [g_Ss_l20Writes_0, RT.sel, hk, decide_true, cond_true, w1, w2]
        rw [capD_f _ _ _ (by simp only [List.length_cons, List.length_nil]; omega) (by decide), cond_true, wrap64 (by omega)]
      · refine ⟨by simp only [List.length_append, List.length_cons, List.length_nil]; omega, ?_, by simp only; omega, by simp only; omega⟩
        intro w hw
        simp only [List.mem_append, List.mem_cons, List.not_mem_nil, or_false] at hw
        rcases hw with hw | rfl
        · exact i2 w hw
        · exact ⟨w3, w4⟩
      · simp only; omega
    · refine .inr ⟨(l, p), ?_, ?_⟩
      · simp only [g_Ss_l20Writes_0, RT.sel, hk, decide_false, cond_true, cond_false]
      · exact ⟨by simp only; omega, i2, by simp only; omega, by simp only; omega⟩
  obtain ⟨⟨l, p⟩, e, b1, b2, b3, b4⟩ := L
  simp only at b1 b2 b3 b4
  obtain ⟨w1, w2, w3, w4⟩ := write_f r0 (p + oddD n % 2) 2 (by omega) hr
  refine ⟨?_, ?_, ?_, ?_⟩
  · unfold g_As_l20Writes
    simp (disch := first | omega | assumption) only [wrapL, e, okO, valO, Option.isSome_some, Option.getD_some, pickA_f', oddA_f', oddP_f, w1, Bool.true_and]
    rw [capD_f _ _ _ (by simp only [List.length_cons, List.length_nil]; omega) (by decide), Bool.or_true]
  · unfold writesD g_Vs_l20Writes_2
    simp (disch := first | omega | assumption) only [wrapL, e, valO, Option.getD_some, oddP_f, w2]
    generalize g_Vs_l20Rd_odd_0 r0 _ n = b
    cases b <;> simp only [cond_true, cond_false] <;> omega
  · unfold g_Vs_l20Writes_0
    simp (disch := first | omega | assumption) only [wrapL, e, valO, Option.getD_some, oddP_f]
    generalize g_Vs_l20Rd_odd_0 r0 _ n = b
    cases b
    · rw [cond_false]; omega
    · rw [cond_true, List.length_append, List.length_cons, List.length_nil]; omega
  · unfold g_Vs_l20Writes_0
    simp (disch := first | omega | assumption) only [wrapL, e, valO, Option.getD_some, oddP_f]
    generalize g_Vs_l20Rd_odd_0 r0 _ n = b
    cases b
    · exact b2
    · rw [cond_true]
      intro w hw
      simp only [List.mem_append, List.mem_cons, List.not_mem_nil, or_false] at hw
      rcases hw with hw | rfl
      · exact b2 w hw
      · exact ⟨w3, w4⟩
end Go.Proofs.YtkjeicijcecmlaaDoor.E
end
section
namespace Go.Proofs.YtkjeicijcecmlaaDoor.E
open Go
set_option maxHeartbeats 8000000
set_option maxRecDepth 100000
theorem noteLoop_f (a b c : Int) (d : List ByteArray) (e : List (ByteArray × Bool × List Int)) (f g : Int) (ws : List (ByteArray × Bool × List Int)) (h : List Int) (i : Int) (hw : ws.length ≤ 1000) :
    g_Ls_l20Note_0 a b c d e f g ws h i (0, []) = some (ws.map (·.1)) := by
  obtain ⟨r, h1, h2⟩ := loop_inv (step := g_Ss_l20Note_0 a b c d e f g ws h i) (fun x => 0 ≤ x.1 ∧ x.1.toNat ≤ ws.length ∧ x.2 = (ws.take x.1.toNat).map (·.1)) (fun r => r = ws.map (·.1)) (fun x => ws.length - x.1.toNat) (fun x hx => by
    obtain ⟨k, l⟩ := x
    obtain ⟨i1, i2, i3⟩ := hx
    simp only at i1 i2 i3
    by_cases hk : k < (ws.length : Int)
    · have hn : k.toNat < ws.length := by omega
      have hl : l.length = k.toNat := by rw [i3, List.length_map, List.length_take]; omega
      refine .inl ⟨(k + 1, l ++ [ws[k.toNat].1]), ?_, ?_, ?_⟩
      · simp only [g_Ss_l20Note_0, RT.sel, hk, decide_true, cond_true, i1, and_self, hn]
        rw [capD_f _ _ _ (by simp only [List.length_cons, List.length_nil]; omega) (by decide), cond_true, wrap64 (by omega), at_eq hn]
      · refine ⟨by simp only; omega, by simp only; omega, ?_⟩
        simp only
        rw [i3, show (k + 1).toNat = k.toNat + 1 by omega, List.take_succ_eq_append_getElem hn, List.map_append]
        rfl
      · simp only; omega
    · refine .inr ⟨l, ?_, ?_⟩
      · simp only [g_Ss_l20Note_0, RT.sel, hk, decide_false, cond_true, cond_false]
      · rw [i3, List.take_of_length_le (by omega)]) (0, []) ⟨by simp, by simp, by simp⟩
  rw [← h2]
  exact h1
noncomputable def noteD (r0 : List Int) (r1 n : Int) : Int := g_Vs_l20Note_5 r0 r1 n - r1
theorem noteA_f (r0 : List Int) (r1 n : Int) (h : 0 ≤ r1 ∧ r1 ≤ 98000) (hr : RdOk r0) : g_As_l20Note r0 r1 n = true := by
  obtain ⟨w1, w2, w3, w4⟩ := writes_f r0 (r1 + 1 + 1) 0 (by omega) hr
  unfold g_As_l20Note
  simp (disch := first | omega | assumption) only [wrapL, pickA_f', oddA_f', pickD_f, pickN_f, Bool.true_and, w1, w2, noteLoop_f, okO, valO, Option.isSome_some, Option.getD_some, oddP_f, key_f, write_f, capD_f, List.length_map, List.length_append, List.length_cons, List.length_nil, Bool.and_true, Bool.or_true, Bool.cond_self]
theorem noteP_f (r0 : List Int) (r1 n : Int) (h : 0 ≤ r1 ∧ r1 ≤ 98000) (hr : RdOk r0) : g_Vs_l20Note_5 r0 r1 n = r1 + noteD r0 r1 n % 1024 := by
  obtain ⟨w1, w2, w3, w4⟩ := writes_f r0 (r1 + 1 + 1) 0 (by omega) hr
  unfold noteD g_Vs_l20Note_5
  simp (disch := first | omega | assumption) only [wrapL, w2, oddP_f, key_f, write_f, Bool.cond_self]
  simp only [Bool.cond_eq_ite]
  repeat' split
  all_goals omega
theorem smallW_one (k : ByteArray) (d : Bool) (l : List Int) (hk : k.size ≤ 4) (hl : l.length ≤ 4) (ws : List (ByteArray × Bool × List Int)) (h : ∀ w ∈ ws, smallW w) : ∀ w ∈ ws ++ [(k, d, l)], smallW w := by
  intro w hw
  simp only [List.mem_append, List.mem_cons, List.not_mem_nil, or_false] at hw
  rcases hw with hw | rfl
  · exact h w hw
  · exact ⟨hk, hl⟩
theorem noteS_f (r0 : List Int) (r1 n : Int) (h : 0 ≤ r1 ∧ r1 ≤ 98000) (hr : RdOk r0) : (g_Vs_l20Note_2 r0 r1 n).length ≤ 8 ∧ (g_Vs_l20Note_3 r0 r1 n).length ≤ 7 ∧ ∀ w ∈ g_Vs_l20Note_3 r0 r1 n, smallW w := by
  obtain ⟨w1, w2, w3, w4⟩ := writes_f r0 (r1 + 1 + 1) 0 (by omega) hr
  refine ⟨?_, ?_, ?_⟩
  · unfold g_Vs_l20Note_2
    simp (disch := first | omega | assumption) only [wrapL, w2, oddP_f, key_f, write_f, Bool.cond_self, noteLoop_f, valO, Option.getD_some]
    simp only [Bool.cond_eq_ite]
    repeat' split
    all_goals try simp only [List.length_append, List.length_map, List.length_cons, List.length_nil]
    all_goals omega
  · unfold g_Vs_l20Note_3
    simp (disch := first | omega | assumption) only [wrapL, w2, oddP_f, key_f, write_f, Bool.cond_self, noteLoop_f, valO, Option.getD_some]
    simp only [Bool.cond_eq_ite]
    repeat' split
    all_goals try simp only [List.length_append, List.length_map, List.length_cons, List.length_nil]
    all_goals omega
  · unfold g_Vs_l20Note_3
    simp (disch := first | omega | assumption) only [wrapL, w2, oddP_f, key_f, write_f, Bool.cond_self, noteLoop_f, valO, Option.getD_some]
    have nil : ∀ w ∈ ([] : List (ByteArray × Bool × List Int)), smallW w := by simp
    simp only [Bool.cond_eq_ite]
    repeat' split
    all_goals first
      | exact w4
      | exact nil
      | exact smallW_one _ _ _ (by decide) (by decide) _ w4
      | exact smallW_one _ _ _ (by decide) (by decide) _ nil
      | exact smallW_one _ _ _ (write_f _ _ _ (by omega) hr).2.2.1 (write_f _ _ _ (by omega) hr).2.2.2 _ w4
      | exact smallW_one _ _ _ (write_f _ _ _ (by omega) hr).2.2.1 (write_f _ _ _ (by omega) hr).2.2.2 _ nil
end Go.Proofs.YtkjeicijcecmlaaDoor.E
end
section
namespace Go.Proofs.YtkjeicijcecmlaaDoor.E
open Go
set_option maxRecDepth 100000
abbrev WI_ : Ty := .pair .str (.pair .bool (.sl 3 (.int .i64)))
theorem writesOf_f (l : List (ByteArray × Bool × List Int)) (hl : l.length ≤ 1048576) (hit : ∀ w ∈ l, w.2.2.length ≤ 1048576) : g_Ai_writesOf l = true ∧ g_Vi_writesOf_0 l = l := by
  have L : g_Li_writesOf_0 l (l.length : Int) ([], 0) = some (l.map id) := by
    refine loop_app (e := WI_) (step := g_Si_writesOf_0 l (l.length : Int)) l (fun i r => (r, i)) id id (fun i r hi hr => ?_) (fun r hr => by simp only [g_Si_writesOf_0, RT.sel, cond_true, Int.lt_irrefl, decide_false, cond_false, id])
    have k1 : (i : Int) < l.length := by omega
    have k2 : (0 : Int) ≤ (i : Int) := by omega
    have hx := hit _ (at_mem (e := WI_) hi)
    simp only [g_Si_writesOf_0, RT.sel, cond_true, k1, k2, decide_true, and_self, Int.toNat_natCast, g_Aslices_Clone_int_int_b, id]
    rw [cap0_f _ _ hx (by decide), capF_f _ _ _ (by simp only [List.length_cons, List.length_nil]; omega) (by decide), cond_true, cond_true, wrap64 (x := (i : Int) + 1) (by omega)]
    rfl
  rw [List.map_id] at L
  simp only [g_Ai_writesOf, g_Vi_writesOf_0, L, okO, valO, Option.isSome_some, Option.getD_some, and_self]
theorem i_noteCopied_f (k t : Int) (ls : List ByteArray) (ws : List (ByteArray × Bool × List Int)) (h1 : ls.length ≤ 1048576) (h2 : ws.length ≤ 1048576) (h3 : ∀ w ∈ ws, w.2.2.length ≤ 1048576) : g_Ai_LogNote_copied k t ls ws = true := by
  obtain ⟨a, _⟩ := writesOf_f ws h2 h3
  rw [g_Ai_LogNote_copied, a, g_Aslices_Clone_string_string_b, cap0_f _ _ h1 (by decide)]
  rfl
theorem i_copied_f (l : List Note) (safe : Int) (hl : l.length ≤ 1048576) (hit : ∀ x ∈ l, smallN x) : g_Ai_LogDisk_copied l safe = true ∧ g_Vi_LogDisk_copied_0 l safe = l := by
  have L : g_Li_LogDisk_copied_0 l (l.length : Int) 0 [] safe (0, []) = some (l.map id) := by
    refine loop_app (e := NI_) (step := g_Si_LogDisk_copied_0 l (l.length : Int) 0 [] safe) l (fun i r => (i, r)) id id (fun i r hi hr => ?_) (fun r hr => by simp only [g_Si_LogDisk_copied_0, RT.sel, cond_true, Int.lt_irrefl, decide_false, cond_false, id])
    have k1 : (i : Int) < l.length := by omega
    have k2 : (0 : Int) ≤ (i : Int) := by omega
    have hx := hit _ (at_mem (e := NI_) hi)
    have c := i_noteCopied_f (at_ NI_ l i).1 (at_ NI_ l i).2.1 (at_ NI_ l i).2.2.1 (at_ NI_ l i).2.2.2 hx.1 hx.2.1 hx.2.2
    obtain ⟨_, c2⟩ := writesOf_f (at_ NI_ l i).2.2.2 hx.2.1 hx.2.2
    simp only [g_Si_LogDisk_copied_0, RT.sel, cond_true, k1, k2, decide_true, and_self, Int.toNat_natCast, c, c2, id]
    rw [capF_f _ _ _ (by simp only [List.length_cons, List.length_nil]; omega) (by decide), cond_true, wrap64 (x := (i : Int) + 1) (by omega)]
    rfl
  rw [List.map_id] at L
  simp only [g_Ai_LogDisk_copied, g_Vi_LogDisk_copied_0, L, okO, valO, Option.isSome_some, Option.getD_some, and_self]
theorem s_l2Note_f (k t : Int) (ls : List ByteArray) (ws : List (ByteArray × Bool × List Int)) (h1 : ls.length ≤ 1048576) (h2 : ws.length ≤ 1048576) (h3 : ∀ w ∈ ws, w.2.2.length ≤ 1048576) : g_As_l2Note k t ls ws = true ∧ g_Vs_l2Note_0 k t ls ws = ls ∧ g_Vs_l2Note_1 k t ls ws = ws := by
  have L : g_Ls_l2Note_0 k t ls ws 0 0 [] [] k t ([] ++ ls) (0, []) = some (ws.map id) := by
    refine loop_app (e := WI_) (step := g_Ss_l2Note_0 k t ls ws 0 0 [] [] k t ([] ++ ls)) ws (fun i r => (i, r)) id id (fun i r hi hr => ?_) (fun r hr => by simp only [g_Ss_l2Note_0, RT.sel, cond_true, Int.lt_irrefl, decide_false, cond_false, id])
    have k1 : (i : Int) < ws.length := by omega
    have k2 : (0 : Int) ≤ (i : Int) := by omega
    have hx := h3 _ (at_mem (e := WI_) hi)
    simp only [g_Ss_l2Note_0, RT.sel, cond_true, k1, k2, decide_true, and_self, Int.toNat_natCast, List.nil_append, id]
    rw [cap0_f _ _ hx (by decide), capF_f _ _ _ (by simp only [List.length_cons, List.length_nil]; omega) (by decide), cond_true, cond_true, wrap64 (x := (i : Int) + 1) (by omega)]
    rfl
  rw [List.map_id] at L
  unfold g_As_l2Note g_Vs_l2Note_0 g_Vs_l2Note_1
  rw [L, cap0_f _ 16 h1 (by decide)]
  exact ⟨rfl, rfl, rfl⟩
theorem s_l2Copy_f (l : List Note) (safe : Int) (hl : l.length ≤ 1048576) (hit : ∀ x ∈ l, smallN x) : g_As_l2Copy l safe = true ∧ g_Vs_l2Copy_0 l safe = l := by
  have L : g_Ls_l2Copy_0 l safe 0 [] safe (0, []) = some (l.map id) := by
    refine loop_app (e := NI_) (step := g_Ss_l2Copy_0 l safe 0 [] safe) l (fun i r => (i, r)) id id (fun i r hi hr => ?_) (fun r hr => by simp only [g_Ss_l2Copy_0, RT.sel, cond_true, Int.lt_irrefl, decide_false, cond_false, id])
    have k1 : (i : Int) < l.length := by omega
    have k2 : (0 : Int) ≤ (i : Int) := by omega
    have hx := hit _ (at_mem (e := NI_) hi)
    obtain ⟨c1, c2, c3⟩ := s_l2Note_f (at_ NI_ l i).1 (at_ NI_ l i).2.1 (at_ NI_ l i).2.2.1 (at_ NI_ l i).2.2.2 hx.1 hx.2.1 hx.2.2
    simp only [g_Ss_l2Copy_0, RT.sel, cond_true, k1, k2, decide_true, and_self, Int.toNat_natCast, c1, c2, c3, id]
    rw [capF_f _ _ _ (by simp only [List.length_cons, List.length_nil]; omega) (by decide), cond_true, wrap64 (x := (i : Int) + 1) (by omega)]
    rfl
  rw [List.map_id] at L
  simp only [g_As_l2Copy, g_Vs_l2Copy_0, L, okO, valO, Option.isSome_some, Option.getD_some, and_self]
/-- A place's notes behind one more. -/
def addP_ (l : List Note) (safe : Int) (n : Note) (b : Bool) : List Note × Int × Bool :=
  bif diskP l safe && noteQ n then bif decide (l.length = 120) then (l, safe, false) else (l ++ [n], bif b then (l.length : Int) + 1 else safe, true) else ([], 0, false)
theorem len120 (l : List Note) : ((l.length : Int) == 120) = decide (l.length = 120) := by
  rw [Bool.eq_iff_iff, beq_iff_eq, decide_eq_true_eq]; omega
theorem s_DiskAdd_f (l : List Note) (safe : Int) (n : Note) (b : Bool) (hl : l.length ≤ 1048576) (hit : ∀ x ∈ l, smallN x) (hn : smallN n) :
    g_As_DiskAdd l safe n.1 n.2.1 n.2.2.1 n.2.2.2 b = true ∧ g_Vs_DiskAdd_0 l safe n.1 n.2.1 n.2.2.1 n.2.2.2 b = (addP_ l safe n b).1 ∧ g_Vs_DiskAdd_1 l safe n.1 n.2.1 n.2.2.1 n.2.2.2 b = (addP_ l safe n b).2.1 ∧ g_Vs_DiskAdd_2 l safe n.1 n.2.1 n.2.2.1 n.2.2.2 b = (addP_ l safe n b).2.2 := by
  obtain ⟨a1, a2⟩ := s_DiskOk_f l safe hl hit
  obtain ⟨b1, b2⟩ := s_NoteOk_f n.1 n.2.1 n.2.2.1 n.2.2.2 hn.1 hn.2.1 hn.2.2
  obtain ⟨c1, c2⟩ := s_l2Copy_f l safe hl hit
  obtain ⟨d1, d2, d3⟩ := s_l2Note_f n.1 n.2.1 n.2.2.1 n.2.2.2 hn.1 hn.2.1 hn.2.2
  have b2 : g_Vs_NoteOk_0 n.1 n.2.1 n.2.2.1 n.2.2.2 = noteQ n := b2
  have e : ∀ p : Note, decide ((List.length l + List.length [p]) * nat_lit 64 ≤ nat_lit 140737488355328 ∧ List.length l + List.length [p] ≤ nat_lit 9223372036854775807) = true := fun p => capF_f _ _ _ (by simp only [List.length_cons, List.length_nil]; omega) (by decide)
  simp only [g_As_DiskAdd, g_Vs_DiskAdd_0, g_Vs_DiskAdd_1, g_Vs_DiskAdd_2, a1, a2, b1, b2, c1, c2, d1, d2, d3, len120, addP_, e]
  cases diskP l safe <;> cases noteQ n <;> cases decide (l.length = 120) <;> cases b <;> simp
theorem i_DiskAdd_f (l : List Note) (safe : Int) (n : Note) (b : Bool) (hl : l.length ≤ 1048576) (hit : ∀ x ∈ l, smallN x) (hn : smallN n) :
    g_Ai_DiskAdd l safe n.1 n.2.1 n.2.2.1 n.2.2.2 b = true ∧ g_Vi_DiskAdd_0 l safe n.1 n.2.1 n.2.2.1 n.2.2.2 b = (addP_ l safe n b).1 ∧ g_Vi_DiskAdd_1 l safe n.1 n.2.1 n.2.2.1 n.2.2.2 b = (addP_ l safe n b).2.1 ∧ g_Vi_DiskAdd_2 l safe n.1 n.2.1 n.2.2.1 n.2.2.2 b = (addP_ l safe n b).2.2 := by
  obtain ⟨a1, a2⟩ := i_DiskOk_f l safe hl hit
  obtain ⟨b1, b2⟩ := i_NoteOk_f n.1 n.2.1 n.2.2.1 n.2.2.2 hn.1 hn.2.1 hn.2.2
  obtain ⟨c1, c2⟩ := i_copied_f l safe hl hit
  have d1 := i_noteCopied_f n.1 n.2.1 n.2.2.1 n.2.2.2 hn.1 hn.2.1 hn.2.2
  obtain ⟨_, d2⟩ := writesOf_f n.2.2.2 hn.2.1 hn.2.2
  have b2 : g_Vi_NoteOk_0 n.1 n.2.1 n.2.2.1 n.2.2.2 = noteQ n := b2
  have e : ∀ p : Note, decide ((List.length l + List.length [p]) * nat_lit 64 ≤ nat_lit 140737488355328 ∧ List.length l + List.length [p] ≤ nat_lit 9223372036854775807) = true := fun p => capF_f _ _ _ (by simp only [List.length_cons, List.length_nil]; omega) (by decide)
  simp only [g_Ai_DiskAdd, g_Vi_DiskAdd_0, g_Vi_DiskAdd_1, g_Vi_DiskAdd_2, g_Ai_LogDisk_add, g_Vi_LogDisk_add_0, g_Vi_LogDisk_add_1, g_Vi_LogDisk_add_2, a1, a2, b1, b2, c1, c2, d1, d2, len120, addP_, e]
  cases diskP l safe <;> cases noteQ n <;> cases decide (l.length = 120) <;> cases b <;> simp
end Go.Proofs.YtkjeicijcecmlaaDoor.E
end
section
namespace Go.Proofs.YtkjeicijcecmlaaDoor.E
open Go
set_option maxHeartbeats 8000000
set_option maxRecDepth 100000
/-- A note that is small. -/
def tinyN (x : Note) : Prop := x.2.2.1.length ≤ 8 ∧ x.2.2.2.length ≤ 7 ∧ ∀ w ∈ x.2.2.2, smallW w
theorem tiny_small {x : Note} (h : tinyN x) : smallN x := ⟨by have := h.1; omega, by have := h.2.1; omega, fun w hw => by have := (h.2.2 w hw).2; omega⟩
theorem note_f (r0 : List Int) (r1 n : Int) (h : 0 ≤ r1 ∧ r1 ≤ 98000) (hr : RdOk r0) : tinyN (g_Vs_l20Note_0 r0 r1 n, g_Vs_l20Note_1 r0 r1 n, g_Vs_l20Note_2 r0 r1 n, g_Vs_l20Note_3 r0 r1 n) := noteS_f r0 r1 n h hr
theorem add_small {l : List Note} {safe : Int} {n : Note} {b : Bool} {k : Nat} (h1 : l.length ≤ k) (h2 : ∀ x ∈ l, tinyN x) (h3 : tinyN n) : (addP_ l safe n b).1.length ≤ k + 1 ∧ ∀ x ∈ (addP_ l safe n b).1, tinyN x := by
  unfold addP_
  cases diskP l safe && noteQ n
  · simp
  · cases decide (l.length = 120)
    · refine ⟨by simp only [cond_true, cond_false, List.length_append, List.length_cons, List.length_nil]; omega, fun x hx => ?_⟩
      simp only [cond_true, cond_false, List.mem_append, List.mem_singleton] at hx
      rcases hx with hx | rfl
      · exact h2 x hx
      · exact h3
    · exact ⟨by simp only [cond_true]; omega, h2⟩
theorem diskLoop_f (r0 : List Int) (r1 n c : Int) (hc : 0 ≤ c ∧ c < 10) (h : 0 ≤ r1 ∧ r1 ≤ 80001) (hr : RdOk r0) :
    ∃ r, g_Ls_l20Disk_0 n 0 [] r0 (c, 0, [], r1) = some r ∧ (r1 ≤ r.2.2 ∧ r.2.2 ≤ r1 + 11000) ∧ r.2.1.length ≤ 10 ∧ ∀ x ∈ r.2.1, tinyN x := by
  refine loop_inv (step := g_Ss_l20Disk_0 n 0 [] r0) (fun x => 0 ≤ x.1 ∧ x.1 ≤ 10 ∧ (r1 ≤ x.2.2.2 ∧ x.2.2.2 ≤ r1 + (10 - x.1) * 1100) ∧ (x.2.2.1.length : Int) ≤ 10 - x.1 ∧ ∀ y ∈ x.2.2.1, tinyN y) _ (fun x => x.1.toNat) ?_ _ ⟨by simp only; omega, by simp only; omega, by simp only; omega, by simp only [List.length_nil]; omega, by simp⟩
  rintro ⟨k, s, l, p⟩ ⟨i1, i2, i3, i4, i5⟩
  simp only at i1 i2 i3 i4 i5
  by_cases hk : k > 0
  · have hp : 0 ≤ p ∧ p ≤ 98000 := by omega
    have a := noteA_f r0 p 0 hp hr
    have b := noteP_f r0 p 0 hp hr
    have t := note_f r0 p 0 hp hr
    have hb : 0 ≤ noteD r0 p 0 % 1024 ∧ noteD r0 p 0 % 1024 < 1024 := by omega
    have pa := pickA_f' r0 (g_Vs_l20Note_5 r0 p 0) 2 (by rw [b]; omega) (by decide) hr
    obtain ⟨d1, d2, d3, _⟩ := s_DiskAdd_f l s (g_Vs_l20Note_0 r0 p 0, g_Vs_l20Note_1 r0 p 0, g_Vs_l20Note_2 r0 p 0, g_Vs_l20Note_3 r0 p 0) (g_pick r0 (g_Vs_l20Note_5 r0 p 0) 2 == 0) (by omega) (fun x hx => tiny_small (i5 x hx)) (tiny_small t)
    simp only at d1 d2 d3
    have ad := add_small (safe := s) (b := g_pick r0 (g_Vs_l20Note_5 r0 p 0) 2 == 0) (Nat.le_refl l.length) i5 t
    refine .inl ⟨(k - 1, (addP_ l s (g_Vs_l20Note_0 r0 p 0, g_Vs_l20Note_1 r0 p 0, g_Vs_l20Note_2 r0 p 0, g_Vs_l20Note_3 r0 p 0) (g_pick r0 (g_Vs_l20Note_5 r0 p 0) 2 == 0)).2.1, (addP_ l s (g_Vs_l20Note_0 r0 p 0, g_Vs_l20Note_1 r0 p 0, g_Vs_l20Note_2 r0 p 0, g_Vs_l20Note_3 r0 p 0) (g_pick r0 (g_Vs_l20Note_5 r0 p 0) 2 == 0)).1, g_Vs_l20Note_5 r0 p 0 + 1), ?_, ?_, ?_⟩
    · simp only [g_Ss_l20Disk_0, RT.sel, hk, decide_true, cond_true, a, pa, d1, d2, d3]
      rw [wrap64 (x := k - 1) (by omega), wrap64 (x := g_Vs_l20Note_5 r0 p 0 + 1) (by rw [b]; omega)]
    · refine ⟨by simp only; omega, by simp only; omega, by simp only; rw [b]; omega, by simp only; have := ad.1; omega, ad.2⟩
    · simp only; omega
  · refine .inr ⟨(s, l, p), ?_, ?_⟩
    · simp only [g_Ss_l20Disk_0, RT.sel, hk, decide_false, cond_true, cond_false]
    · exact ⟨⟨by simp only; omega, by simp only; omega⟩, by simp only; omega, i5⟩
/-- A place's notes that are small. -/
def smallD (l : List Note) : Prop := l.length ≤ 125 ∧ ∀ x ∈ l, tinyN x
theorem tiny_no : tinyN ((3 : Int), (0 : Int), [], []) := ⟨by simp, by simp, by simp⟩
theorem smallD_one {l : List Note} (h1 : l.length ≤ 120) (h2 : ∀ x ∈ l, tinyN x) {n : Note} (hn : tinyN n) : smallD (l ++ [n]) := by
  refine ⟨by rw [List.length_append, List.length_cons, List.length_nil]; omega, fun x hx => ?_⟩
  simp only [List.mem_append, List.mem_cons, List.not_mem_nil, or_false] at hx
  rcases hx with hx | rfl
  · exact h2 x hx
  · exact hn
theorem diskLoop3_f (a : Int) (b : List Note) (c : Int) (d : List Int) (e : Int) (l : List Note) (h1 : l.length ≤ 120) (h2 : ∀ x ∈ l, tinyN x) : ∃ r, g_Ls_l20Disk_3 a b c d e l = some r ∧ smallD r := by
  refine loop_inv (step := g_Ss_l20Disk_3 a b c d e) (fun y => y.length ≤ 121 ∧ ∀ x ∈ y, tinyN x) _ (fun y => 200 - y.length) ?_ _ ⟨by omega, h2⟩
  rintro y ⟨i1, i2⟩
  by_cases hk : (y.length : Int) ≤ 120
  · refine .inl ⟨y ++ [((3 : Int), (0 : Int), [], [])], ?_, ?_, ?_⟩
    · simp only [g_Ss_l20Disk_3, RT.sel, hk, decide_true, cond_true]
      rw [capF_f y.length 1 64 (by omega) (by decide), cond_true]
    · exact ⟨by rw [List.length_append, List.length_cons, List.length_nil]; omega, (smallD_one (by omega) i2 tiny_no).2⟩
    · rw [List.length_append, List.length_cons, List.length_nil]; omega
  · refine .inr ⟨y, ?_, by omega, i2⟩
    simp only [g_Ss_l20Disk_3, RT.sel, hk, decide_false, cond_true, cond_false]
noncomputable def diskD (r0 : List Int) (r1 n : Int) : Int := g_Vs_l20Disk_3 r0 r1 n - r1
theorem disk_f (r0 : List Int) (r1 n : Int) (h : 0 ≤ r1 ∧ r1 ≤ 80000) (hr : RdOk r0) : g_As_l20Disk r0 r1 n = true ∧ g_Vs_l20Disk_3 r0 r1 n = r1 + diskD r0 r1 n % 16384 ∧ smallD (g_Vs_l20Disk_0 r0 r1 n) := by
  have pk := pick_f r0 r1 10 ⟨h.1, by omega⟩ (by decide) hr
  obtain ⟨⟨s, l, p⟩, L, p1, p2, p3⟩ := diskLoop_f r0 (r1 + 1) n (g_pick r0 r1 10) ⟨pk.1, pk.2⟩ (by omega) hr
  simp only at p1 p2 p3
  have w1 : IntKind.wrap .i64 (r1 + 1) = r1 + 1 := wrap64 (by omega)
  have od := oddA_f' r0 p n (by omega) hr
  have op := oddP_f r0 p n (by omega)
  have hod : 0 ≤ oddD n % 2 ∧ oddD n % 2 < 2 := by omega
  obtain ⟨l3, L3, L3s⟩ := diskLoop3_f 0 [] s r0 (p + oddD n % 2 + 1) l (by omega) p3
  refine ⟨?_, ?_, ?_⟩
  · unfold g_As_l20Disk
    rw [w1, L]
    simp only [valO, Option.getD_some, od, op]
    have nA := noteA_f r0 (p + oddD n % 2 + 1) 1 (by omega) hr
    simp (disch := first | omega | assumption) only [wrapL, pickA_f', Bool.true_and, okO, Option.isSome_some, nA, L3, Bool.and_true, Bool.or_true, Bool.cond_self, pickN_f]
    rw [capF_f l.length _ 64 (by show l.length + 1 ≤ _; omega) (by decide)]
    have k1 := pick_f r0 (p + oddD n % 2 + 1) 2 (by omega) (by decide) hr
    have k2 : ∀ x : Int, decide (0 ≤ g_pick r0 (p + oddD n % 2 + 1) 2 ∧ g_pick r0 (p + oddD n % 2 + 1) 2 < (([(-1 : Int), x].length : Nat) : Int)) = true := fun x => decide_eq_true ⟨k1.1, k1.2⟩
    have k3 : ∀ x : Int, decide ((g_pick r0 (p + oddD n % 2 + 1) 2).toNat < [(-1 : Int), x].length) = true := fun x => decide_eq_true (by show _ < 2; omega)
    rw [k2, k3]
    simp only [Bool.and_self, Bool.cond_self, Bool.or_true]
  · unfold diskD g_Vs_l20Disk_3
    rw [w1, L]
    simp only [valO, Option.getD_some, op]
    simp (disch := first | omega | assumption) only [wrapL, noteP_f]
    simp only [Bool.cond_eq_ite]
    repeat' split
    all_goals omega
  · unfold g_Vs_l20Disk_0
    rw [w1, L]
    simp only [valO, Option.getD_some, op]
    simp (disch := first | omega | assumption) only [wrapL, L3, Option.getD_some]
    have nt := note_f r0 (p + oddD n % 2 + 1) 1 (by omega) hr
    simp only [Bool.cond_eq_ite]
    have base : smallD l := ⟨by omega, p3⟩
    repeat' split
    all_goals first | exact base | exact L3s | exact smallD_one (by omega) p3 nt
end Go.Proofs.YtkjeicijcecmlaaDoor.E
end
section
namespace Go.Proofs.YtkjeicijcecmlaaDoor.E
open Go
/-- Behind one note more, that is one, notes are ok. -/
theorem addP_ok {l : List Note} {safe : Int} {n : Note} {b : Bool} (h1 : diskP l safe = true) (h2 : noteQ n = true) (h3 : l.length ≠ 120) : diskP (l ++ [n]) (bif b then (l.length : Int) + 1 else safe) = true := by
  simp only [diskP, Bool.and_eq_true, decide_eq_true_eq, List.all_eq_true] at h1 ⊢
  refine ⟨by rw [List.length_append, List.length_cons, List.length_nil]; omega, ?_, fun x hx => ?_⟩
  · rw [List.length_append, List.length_cons, List.length_nil]
    cases b
    · simp only [cond_false]; omega
    · simp only [cond_true]; omega
  · rcases List.mem_append.1 hx with hx | hx
    · exact h1.2.2 x hx
    · rw [List.mem_singleton.1 hx]; exact h2
end Go.Proofs.YtkjeicijcecmlaaDoor.E
end
section
namespace Go.Proofs.YtkjeicijcecmlaaDoor.E
open Go
set_option maxRecDepth 100000
def heldF (o : List Int) (s : ByteArray) (r : List Note) (a : Bool) : Bool := match r with | [] => a | n :: _ => a || ((n.1 == 1) && (o.contains n.2.1 && hasP n.2.2.1 s))
theorem held_loop_f (l : List Note) (hl : l.length ≤ 1048576) (hit : ∀ x ∈ l, smallN x) (safe : Int) (ls : List ByteArray) (k : Nat) (hk : k < ls.length) (ho : (openP l).length ≤ 1048576) : g_Lw_FnDiskOpen_4 (openP l) ls (k : Int) safe l (false, 0) = some (heldP l ls[k]) := by
  have hat2 : at_ .str ls k = ls[k] := at_eq (e := .str) hk
  obtain ⟨L, _⟩ := loop_foldS (e := NI_) (step := g_Sw_FnDiskOpen_4 (openP l) ls (k : Int) safe l) l (fun i a => (a, i)) (heldF (openP l) ls[k]) id (fun _ _ => True) (fun i a hi _ => by
    have k1 : (i : Int) < l.length := by omega
    have k2 : (0 : Int) ≤ (i : Int) := by omega
    have m1 : (k : Int) < ls.length := by omega
    have m2 : (0 : Int) ≤ (k : Int) := by omega
    refine ⟨?_, trivial⟩
    have hat : at_ NI_ l i = l[i] := at_eq (e := NI_) hi
    have hx := hit _ (List.getElem_mem hi)
    rw [List.drop_eq_getElem_cons hi]
    obtain ⟨c1, c2⟩ := jaIn_c (openP l) l[i].2.1 ho
    obtain ⟨h1, h2⟩ := jaHas_f l[i].2.2.1 ls[k] hx.1
    simp only [g_Sw_FnDiskOpen_4, RT.sel, cond_true, k1, k2, hi, m1, m2, hk, decide_true, and_self, Int.toNat_natCast, wrap64 (x := (i : Int) + 1) (by omega), hat, hat2, c1, c2, h1, h2]
    simp only [heldF]
    cases a <;> cases (l[i].1 == 1) <;> cases (openP l).contains l[i].2.1 <;> simp) (fun a => by simp only [g_Sw_FnDiskOpen_4, RT.sel, cond_true, Int.lt_irrefl, decide_false, cond_false, id]) false trivial
  have key : ∀ (r : List Note) (a : Bool), foldS (heldF (openP l) ls[k]) r a = (a || r.any fun n => (n.1 == 1) && ((openP l).contains n.2.1 && hasP n.2.2.1 ls[k])) := by
    intro r
    induction r with
    | nil => intro a; simp [foldS]
    | cons n r ih => intro a; rw [foldS, ih, List.any_cons]; simp only [heldF, Bool.or_assoc]
  rw [key, Bool.false_or] at L
  exact L
theorem diskP_len {l : List Note} {safe : Int} (h : diskP l safe = true) : l.length ≤ 120 := by
  simp only [diskP, Bool.and_eq_true, decide_eq_true_eq] at h
  exact h.1
theorem manyL_tiny (l : List Note) (h : ∀ x ∈ l, tinyN x) : manyL l ≤ 8 * l.length := by
  induction l with
  | nil => simp [manyL]
  | cons n l ih =>
    have := ih fun x hx => h x (List.mem_cons_of_mem _ hx)
    have h8 := (h n List.mem_cons_self).1
    unfold manyL at *
    rw [List.map_cons, List.sum_cons, List.length_cons]
    omega
theorem pure_FnDiskOpen (a : List Int) (ok : a.length ≤ maxLen ∧ ∀ n ∈ a, (Lit.int .u8 n).wf = true) (b : List Int) (ok2 : b.length ≤ maxLen ∧ ∀ n ∈ b, (Lit.int .u8 n).wf = true) : Fw_FnDiskOpen [argRV false (.sl 5 (.int .u8)) a, argRV false (.sl 5 (.int .u8)) b] = some (true, .val false [.bool true], []) := by
  show some (g_Aw_FnDiskOpen a b, RV.val false [Cell.bool (g_Vw_FnDiskOpen_0 a b)], []) = _
  have key : g_Aw_FnDiskOpen a b = true ∧ g_Vw_FnDiskOpen_0 a b = true := by
    by_cases hl : (a.length : Int) > 1048576
    · unfold g_Aw_FnDiskOpen g_Vw_FnDiskOpen_0
      rw [decide_eq_true hl]; exact ⟨rfl, rfl⟩
    · by_cases hl2 : (b.length : Int) > 1048576
      · unfold g_Aw_FnDiskOpen g_Vw_FnDiskOpen_0
        rw [decide_eq_false hl, decide_eq_true hl2]; exact ⟨rfl, rfl⟩
      · obtain ⟨p1, p2, p3⟩ := open_f a
        obtain ⟨d1, _, d3⟩ := disk_f (g_Vs_l20Open_0 a) (g_Vs_l20Open_1 a) 9 (by omega) (open_ok a ok.2)
        obtain ⟨p4, p5, p6⟩ := open_f b
        obtain ⟨e1, _, e3⟩ := disk_f (g_Vs_l20Open_0 b) (g_Vs_l20Open_1 b) 9 (by omega) (open_ok b ok2.2)
        have dd : g_As_DrawDiskOpen a = true := by unfold g_As_DrawDiskOpen; rw [p1, d1]; rfl
        have de : g_As_DrawDiskLocks b = true := by unfold g_As_DrawDiskLocks; rw [p4, e1]; rfl
        have d3 : smallD (g_Vs_DrawDiskOpen_0 a) := d3
        have e3 : smallD (g_Vs_DrawDiskLocks_0 b) := e3
        unfold g_Aw_FnDiskOpen g_Vw_FnDiskOpen_0
        rw [decide_eq_false hl, decide_eq_false hl2, dd, de]
        generalize g_Vs_DrawDiskOpen_0 a = l at d3
        generalize g_Vs_DrawDiskOpen_1 a = safe
        generalize g_Vs_DrawDiskLocks_0 b = l2 at e3
        generalize g_Vs_DrawDiskLocks_1 b = safe2
        have s1 : ∀ x ∈ l, smallN x := fun x hx => tiny_small (d3.2 x hx)
        have s2 : ∀ x ∈ l2, smallN x := fun x hx => tiny_small (e3.2 x hx)
        have hl3 : l.length ≤ 1048576 := by have := d3.1; omega
        have hl4 : l2.length ≤ 1048576 := by have := e3.1; omega
        have ml := manyL_tiny l d3.2
        have ml2 := manyL_tiny l2 e3.2
        have q1 := d3.1
        have q2 := e3.1
        obtain ⟨o1, o2⟩ := i_DiskOpen_f l safe hl3 s1
        obtain ⟨o3, o4⟩ := s_DiskOpen_f l safe hl3 s1
        obtain ⟨k1, k2, k3⟩ := i_DiskLocks_f l safe hl3 s1 (by omega)
        obtain ⟨k4, k5⟩ := s_DiskLocks_f l safe hl3 s1 (by omega)
        obtain ⟨m1, m2, m3⟩ := i_DiskLocks_f l2 safe2 hl4 s2 (by omega)
        obtain ⟨m4, m5⟩ := s_DiskLocks_f l2 safe2 hl4 s2 (by omega)
        obtain ⟨_, _, o5⟩ := i_open_f l safe hl3
        obtain ⟨r1, r2⟩ := s_DiskOk_f l safe hl3 s1
        have hv1 : (bif diskP l safe then openP l else []).length ≤ 1048576 := by cases diskP l safe; simp; simp only [cond_true]; omega
        have hv2 : (bif diskP l safe then locksP l else []).length ≤ 1048576 := by cases diskP l safe; simp; exact k3
        have hv3 : (bif diskP l2 safe2 then locksP l2 else []).length ≤ 1048576 := by cases diskP l2 safe2; simp; exact m3
        obtain ⟨j1, j2⟩ := jaInts_self _ hv1
        obtain ⟨j3, j4⟩ := jaTexts_self _ hv2
        obtain ⟨j5, j6⟩ := jaTexts_self _ hv3
        rw [o1, o2, o3, o4, k1, k2, k4, k5, m1, m2, m4, m5, r1, r2, j1, j2, j3, j4, j5, j6, jaOk_f.1, jaOk_f.2]
        cases hd : diskP l safe
        · exact ⟨rfl, rfl⟩
        · have L0 : ∃ r, g_Lw_FnDiskOpen_0 (openP l) (locksP l) safe l 0 = some r ∧ r = .inr () := by
            refine loop_inv (step := g_Sw_FnDiskOpen_0 (openP l) (locksP l) safe l) (fun x => 0 ≤ x ∧ x ≤ 30) _ (fun x => (30 - x).toNat) ?_ _ ⟨by omega, by omega⟩
            rintro x ⟨i1, i2⟩
            by_cases hx : x ≤ 29
            · obtain ⟨c1, c2⟩ := jaIn_c (openP l) x (by omega)
              have t1 : g_Ai_DiskOf l safe x = true ∧ g_Vi_DiskOf_0 l safe x = ofP l x := by
                obtain ⟨a1, a2⟩ := i_DiskOk_f l safe hl3 s1
                unfold g_Ai_DiskOf g_Vi_DiskOf_0 g_Ai_LogDisk_of
                rw [a1, a2, of_eq, decide_eq_true hl3, hd]
                exact ⟨rfl, rfl⟩
              refine .inl ⟨x + 1, ?_, ⟨by omega, by omega⟩, by omega⟩
              have e : ((ofP l x == 1) == (ofP l x == 1)) = true := by simp
              simp only [g_Sw_FnDiskOpen_0, RT.sel, decide_eq_true hx, cond_true, c1, c2, t1.1, t1.2, open_of, e, Bool.not_true, cond_false, wrap64 (x := x + 1) (by omega)]
            · refine .inr ⟨.inr (), ?_, rfl⟩
              simp only [g_Sw_FnDiskOpen_0, RT.sel, decide_eq_false hx, cond_true, cond_false]
          have L2 : ∃ r, g_Lw_FnDiskOpen_2 (openP l) (locksP l) safe l 0 = some r ∧ r = .inr () := by
            refine loop_inv (step := g_Sw_FnDiskOpen_2 (openP l) (locksP l) safe l) (fun x => 0 ≤ x ∧ x ≤ (locksP l).length) _ (fun x => ((locksP l).length - x).toNat) ?_ _ ⟨by omega, by omega⟩
            rintro x ⟨i1, i2⟩
            by_cases hx : x < (locksP l).length
            · have hn : x.toNat < (locksP l).length := by omega
              have ex : ((x.toNat : Nat) : Int) = x := by omega
              have hh := held_loop_f l hl3 s1 safe (locksP l) x.toNat hn (by omega)
              rw [ex, locks_held (List.getElem_mem hn)] at hh
              have hat : at_ .str (locksP l) x.toNat = (locksP l)[x.toNat] := at_eq (e := .str) hn
              have e0 : ∀ z : List ByteArray, List.drop (nat_lit 0) z = z := fun z => rfl
              obtain ⟨c1, c2⟩ := jaHas_f ((locksP l).take x.toNat) (locksP l)[x.toNat] (by have := List.length_take_le' x.toNat (locksP l); omega)
              rw [nd_take (ls := locksP l) (locksR_nd l [] List.Pairwise.nil) x.toNat hn] at c2
              have u1 : decide ((0 : Int) ≤ x ∧ x ≤ ((locksP l).length : Int)) = true := decide_eq_true (by omega)
              have u2 : decide ((0 : Int) ≤ x ∧ x < ((locksP l).length : Int)) = true := decide_eq_true (by omega)
              refine .inl ⟨x + 1, ?_, ⟨by omega, by omega⟩, by omega⟩
              simp only [g_Sw_FnDiskOpen_2, RT.sel, decide_eq_true hx, cond_true, hh, okO, valO, Option.isSome_some, Option.getD_some, Bool.not_true, cond_false, u1, u2, e0, hat, c1, c2, wrap64 (x := x + 1) (by omega)]
            · refine .inr ⟨.inr (), ?_, rfl⟩
              simp only [g_Sw_FnDiskOpen_2, RT.sel, decide_eq_false hx, cond_true, cond_false]
          obtain ⟨r0, z1, z2⟩ := L0
          obtain ⟨r2', z3, z4⟩ := L2
          subst z2
          subst z4
          simp only [cond_true]
          rw [z1, z3]
          exact ⟨rfl, rfl⟩
  rw [key.1, key.2]
end Go.Proofs.YtkjeicijcecmlaaDoor.E
end
