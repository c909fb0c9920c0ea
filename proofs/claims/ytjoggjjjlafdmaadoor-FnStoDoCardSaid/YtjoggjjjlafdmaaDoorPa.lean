/- What these values are, in plain words: for the proof (laws.FnStoDo): part 1. No conditions. -/
import Derived.Test.YtjoggjjjlafdmaaDoorGb
import Derived.Lib.SlTrimSet
set_option linter.all false
section
namespace Go.Proofs.YtjoggjjjlafdmaaDoor.E
open Go
theorem wrap64 {x : Int} (h : -9223372036854775808 ≤ x ∧ x < 9223372036854775808) : IntKind.wrap .i64 x = x := by
  simp only [IntKind.wrap, IntKind.bits, IntKind.signed]
  simp
  omega
def forR {α ρ : Type} (f : Nat → α → α ⊕ ρ) (fin : α → ρ) : Nat → Nat → α → ρ
  | 0, _, a => fin a
  | k + 1, i, a => match f i a with
    | .inl a' => forR f fin k (i + 1) a'
    | .inr r => r
section
variable {σ ρ α β : Type} {step : σ → RT σ ρ}
theorem loop_for (mk : Nat → α → σ) (f : Nat → α → α ⊕ ρ) (fin : α → ρ) (n : Nat) (J : Nat → α → Prop)
    (h1 : ∀ i a, i < n → J i a → (step (mk i a)).sel = (match f i a with | .inl a' => .go (mk (i + 1) a') | .inr r => .out r) ∧ ∀ a', f i a = .inl a' → J (i + 1) a')
    (h2 : ∀ a, J n a → (step (mk n a)).sel = .out (fin a)) : ∀ (k i : Nat) (a : α), i + k = n → J i a → loopO step (mk i a) = some (forR f fin k i a) := by
  intro k
  induction k with
  | zero =>
    intro i a hi hJ
    have hi : i = n := by omega
    subst hi
    rw [loopO_eq, h2 a hJ]
    rfl
  | succ k ih =>
    intro i a hi hJ
    obtain ⟨h3, h4⟩ := h1 i a (by omega) hJ
    rw [loopO_eq, h3]
    unfold forR
    cases hf : f i a with
    | inl a' => simp only; exact ih (i + 1) a' (by omega) (h4 a' hf)
    | inr r => rfl
/-- A loop that looks whether something is so of all. -/
theorem loop_all (mk : Nat → σ) (p : Nat → Bool) (e fin : ρ) (n : Nat) (h1 : ∀ i, i < n → (step (mk i)).sel = bif p i then .go (mk (i + 1)) else .out e) (h2 : (step (mk n)).sel = .out fin) :
    loopO step (mk 0) = some (bif (List.range n).all p then fin else e) := by
  have key : ∀ k i, i + k = n → loopO step (mk i) = some (bif (List.range' i k).all p then fin else e) := by
    intro k
    induction k with
    | zero =>
      intro i hi
      have hi : i = n := by omega
      subst hi
      rw [loopO_eq, h2]
      rfl
    | succ k ih =>
      intro i hi
      rw [loopO_eq, h1 i (by omega), List.range'_succ, List.all_cons]
      cases p i with
      | true => simp only [cond_true, Bool.true_and]; exact ih (i + 1) (by omega)
      | false => rfl
  rw [key n 0 (by omega), List.range_eq_range']
theorem range_all {e : Ty} (l : List e.den) (p : e.den → Bool) : (List.range l.length).all (fun i => p (at_ e l i)) = l.all p := by
  rw [Bool.eq_iff_iff, List.all_eq_true, List.all_eq_true]
  constructor
  · intro h x hx
    obtain ⟨i, hi, rfl⟩ := List.getElem_of_mem hx
    have := h i (List.mem_range.2 hi)
    simpa [at_, hi] using this
  · intro h i hi
    have hi := List.mem_range.1 hi
    have := h l[i] (List.getElem_mem hi)
    simpa [at_, hi] using this
theorem at_mem {e : Ty} {l : List e.den} {i : Nat} (h : i < l.length) : at_ e l i ∈ l := by
  have : at_ e l i = l[i] := by simp [at_, h]
  rw [this]
  exact List.getElem_mem h
theorem at_eq {e : Ty} {l : List e.den} {i : Nat} (h : i < l.length) : at_ e l i = l[i] := by simp [at_, h]
/-- The same, over the elements of a list. -/
theorem loop_list {e : Ty} (l : List e.den) (mk : Nat → σ) (p : e.den → Bool) (x fin : ρ) (h1 : ∀ i, i < l.length → (step (mk i)).sel = bif p (at_ e l i) then .go (mk (i + 1)) else .out x) (h2 : (step (mk l.length)).sel = .out fin) :
    loopO step (mk 0) = some (bif l.all p then fin else x) := by
  rw [loop_all mk (fun i => p (at_ e l i)) x fin l.length h1 h2, range_all]
/-- A loop that makes a list out of a list. -/
theorem loop_map {e : Ty} (l : List e.den) {ρ : Type} {step : List β × Int → RT (List β × Int) ρ} (g : e.den → β) (out : List β → ρ)
    (h1 : ∀ (i : Nat) (r : List β), i < l.length → r.length = l.length → (step (r, (i : Int))).sel = .go (r.set i (g (at_ e l i)), ((i + 1 : Nat) : Int)))
    (h2 : ∀ r : List β, r.length = l.length → (step (r, (l.length : Int))).sel = .out (out r)) (r0 : List β) (h0 : r0.length = l.length) : loopO step (r0, 0) = some (out (l.map g)) := by
  have key : ∀ (k i : Nat) (r : List β), i + k = l.length → r.length = l.length → r.take i = (l.map g).take i → loopO step (r, (i : Int)) = some (out (l.map g)) := by
    intro k
    induction k with
    | zero =>
      intro i r hi hr ht
      have hi : i = l.length := by omega
      subst hi
      rw [loopO_eq, h2 r hr]
      have e1 : r.take l.length = r := by rw [← hr, List.take_length]
      have e2 : (l.map g).take l.length = l.map g := by rw [List.take_of_length_le (by simp)]
      rw [e1, e2] at ht
      rw [ht]
    | succ k ih =>
      intro i r hi hr ht
      rw [loopO_eq, h1 i r (by omega) hr]
      simp only
      refine ih (i + 1) _ (by omega) (by simp [hr]) ?_
      have hil : i < l.length := by omega
      rw [List.take_succ, List.take_succ, List.take_set_of_le (by omega), ht]
      congr 1
      simp [hr, hil, at_]
  exact key l.length 0 r0 (by omega) h0 (by simp)
/-- The sum of the sizes from i on. -/
def sumF (t : Nat → Nat) : Nat → Nat → Nat
  | 0, _ => 0
  | k + 1, i => t i + sumF t k (i + 1)
theorem sumF_le {t : Nat → Nat} : ∀ {k i j : Nat}, i ≤ j → j < i + k → t j ≤ sumF t k i
  | 0, i, j, h1, h2 => absurd h2 (by omega)
  | k + 1, i, j, h1, h2 => by
    unfold sumF
    by_cases e : i = j
    · subst e; omega
    · have := sumF_le (t := t) (k := k) (i := i + 1) (j := j) (by omega) (by omega)
      omega
/-- What is left of a number. -/
def left_ (t : Nat) (left : Int) : Int := if (t : Int) ≤ left then left - t else -1
theorem left_pos {t : Nat} {left : Int} (h : ¬ left_ t left < 0) : (t : Int) ≤ left := by
  unfold left_ at h
  split at h
  · assumption
  · exact absurd (by decide : (-1 : Int) < 0) h
/-- A loop that counts what is left. -/
theorem loop_sz {step : Int × Int → RT (Int × Int) ((Int × Int) ⊕ Int)} (t : Nat → Nat) (n : Nat) (h1 : ∀ (i : Nat) (left : Int), i < n → 0 ≤ left → left ≤ 1048576 → (step (left, (i : Int))).sel = bif decide ((t i : Int) ≤ left) then .go (left - t i, ((i + 1 : Nat) : Int)) else .out (.inl (-1, -1)))
    (h2 : ∀ left : Int, (step (left, (n : Int))).sel = .out (.inr left)) (left : Int) (h0 : 0 ≤ left) (hl : left ≤ 1048576) :
    ∃ r, loopO step (left, 0) = some r ∧ (bif isL r then (getL r).2 else getR r) = left_ (sumF t n 0) left := by
  have key : ∀ (k i : Nat) (left : Int), i + k = n → 0 ≤ left → left ≤ 1048576 → ∃ r, loopO step (left, (i : Int)) = some r ∧ (bif isL r then (getL r).2 else getR r) = left_ (sumF t k i) left := by
    intro k
    induction k with
    | zero =>
      intro i left hi h0 hl
      have hi : i = n := by omega
      subst hi
      refine ⟨.inr left, by rw [loopO_eq, h2], ?_⟩
      simp [isL, getR, left_, sumF, h0]
    | succ k ih =>
      intro i left hi h0 hl
      rw [loopO_eq, h1 i left (by omega) h0 hl]
      by_cases hc : (t i : Int) ≤ left
      · simp only [hc, decide_true, cond_true]
        obtain ⟨r, e1, e2⟩ := ih (i + 1) (left - t i) (by omega) (by omega) (by omega)
        refine ⟨r, e1, ?_⟩
        rw [e2]
        unfold left_
        have e3 : sumF t (k + 1) i = t i + sumF t k (i + 1) := rfl
        rw [e3]
        by_cases hc2 : (sumF t k (i + 1) : Int) ≤ left - t i
        · rw [if_pos hc2, if_pos (by omega)]; omega
        · rw [if_neg hc2, if_neg (by omega)]
      · simp only [hc, decide_false, cond_false]
        refine ⟨_, rfl, ?_⟩
        have e3 : sumF t (k + 1) i = t i + sumF t k (i + 1) := rfl
        simp only [isL, getL, cond_true, left_]
        rw [e3, if_neg (by omega)]
  exact key n 0 left (by omega) h0 hl
/-- A loop that looks for the first of which something is so. -/
theorem loop_idx {e : Ty} (l : List e.den) {step : Int → RT Int (Int ⊕ Unit)} (q : e.den → Bool) (h1 : ∀ i : Nat, i < l.length → (step (i : Int)).sel = bif q (at_ e l i) then .out (.inl (i : Int)) else .go ((i + 1 : Nat) : Int))
    (h2 : (step (l.length : Int)).sel = .out (.inr ())) : ∃ r, loopO step 0 = some r ∧ decide ((bif isL r then getL r else (-1 : Int)) ≥ 0) = l.any q := by
  have key : ∀ (k i : Nat), i + k = l.length → ∃ r, loopO step (i : Int) = some r ∧ decide ((bif isL r then getL r else (-1 : Int)) ≥ 0) = (l.drop i).any q := by
    intro k
    induction k with
    | zero =>
      intro i hi
      have hi : i = l.length := by omega
      subst hi
      refine ⟨_, by rw [loopO_eq, h2], ?_⟩
      simp [isL]
    | succ k ih =>
      intro i hi
      rw [loopO_eq, h1 i (by omega)]
      have hil : i < l.length := by omega
      rw [List.drop_eq_getElem_cons hil, List.any_cons, at_eq hil]
      cases hq : q l[i] with
      | true => exact ⟨_, rfl, by simp [isL, getL]⟩
      | false => simp only [cond_false, Bool.false_or]; exact ih (i + 1) (by omega)
  exact key l.length 0 (by omega)
end
theorem dropWhile_nil {α : Type} (p : α → Bool) (l : List α) : l.dropWhile p = [] ↔ ∀ x ∈ l, p x = true := by
  induction l with
  | nil => simp
  | cons a l ih =>
    by_cases h : p a = true
    · rw [List.dropWhile_cons_of_pos h, ih]; simp [h]
    · rw [List.dropWhile_cons_of_neg h]; simp [h]
theorem trimS_nil (l cs : List UInt8) : (Lib.trimS l cs = []) ↔ l.all (cs.contains ·) = true := by
  unfold Lib.trimS Lib.trimLeftS Lib.trimRightS
  constructor
  · intro h
    rw [dropWhile_nil] at h
    rw [List.all_eq_true]
    intro x hx
    have h2 : ∀ (m : List UInt8), (∀ y ∈ (m.dropWhile (cs.contains ·)).reverse, cs.contains y = true) → ∀ y ∈ m, cs.contains y = true := by
      intro m
      induction m with
      | nil => intro _ y hy; cases hy
      | cons a m ih =>
        intro hm y hy
        by_cases ha : cs.contains a = true
        · rw [List.dropWhile_cons_of_pos ha] at hm
          rcases List.mem_cons.1 hy with rfl | hy
          · exact ha
          · exact ih hm y hy
        · rw [List.dropWhile_cons_of_neg ha] at hm
          exact hm y (List.mem_reverse.2 hy)
    exact h2 l.reverse (fun y hy => h y hy) x (by simpa using hx)
  · intro h
    rw [List.all_eq_true] at h
    rw [dropWhile_nil]
    intro x hx
    have : x ∈ l := by
      have h3 := List.mem_reverse.1 hx
      have := (List.dropWhile_sublist (fun x => cs.contains x) (l := l.reverse)).subset h3
      simpa using this
    exact h x this
/-- The first place where p holds, or -1. -/
def idxF {α : Type} (p : α → Bool) (l : List α) : Int := match l.findIdx? p with | some i => (i : Int) | none => -1
def numOk (n : Int) : Bool := decide (0 ≤ n) && decide (n ≤ 9999)
def valOk (l : List Int) : Bool := decide (1 ≤ l.length) && decide (l.length ≤ 3) && l.all numOk
end Go.Proofs.YtjoggjjjlafdmaaDoor.E
end
section
namespace Go.Proofs.YtjoggjjjlafdmaaDoor.E
open Go
/-! A loop, by what holds at its head. -/
theorem loop_inv {σ ρ : Type} {step : σ → RT σ ρ} (I : σ → Prop) (R : ρ → Prop) (μ : σ → Nat) (h : ∀ x, I x → (∃ y, (step x).sel = .go y ∧ I y ∧ μ y < μ x) ∨ ∃ r, (step x).sel = .out r ∧ R r) : ∀ x, I x → ∃ r, loopO step x = some r ∧ R r := by
  have key : ∀ n x, μ x ≤ n → I x → ∃ r, loopO step x = some r ∧ R r := by
    intro n
    induction n with
    | zero =>
      intro x hx hI
      rcases h x hI with ⟨y, _, _, h3⟩ | ⟨r, h1, h2⟩
      · omega
      · exact ⟨r, by rw [loopO_eq, h1], h2⟩
    | succ n ih =>
      intro x hx hI
      rcases h x hI with ⟨y, h1, h2, h3⟩ | ⟨r, h1, h2⟩
      · obtain ⟨r, e1, e2⟩ := ih y (by omega) h2
        exact ⟨r, by rw [loopO_eq, h1]; exact e1, e2⟩
      · exact ⟨r, by rw [loopO_eq, h1], h2⟩
  exact fun x hI => key (μ x) x (Nat.le_refl _) hI
theorem cond_f' (a b : Bool) : (bif a then b else false) = (a && b) := by cases a <;> rfl
end Go.Proofs.YtjoggjjjlafdmaaDoor.E
end
section
namespace Go.Proofs.YtjoggjjjlafdmaaDoor.E
open Go
theorem capF_f (a b k : Nat) (h : a + b ≤ 2200000) (hk : k ≤ 1000) : decide ((a + b) * k ≤ nat_lit 140737488355328 ∧ a + b ≤ nat_lit 9223372036854775807) = true := by
  have : (a + b) * k ≤ 2200000 * 1000 := Nat.mul_le_mul h hk
  exact decide_eq_true ⟨Nat.le_trans this (by decide), Nat.le_trans h (by decide)⟩
theorem cap0_f (b k : Nat) (h : b ≤ 1048576) (hk : k ≤ 1000) : decide ((nat_lit 0 + b) * k ≤ nat_lit 140737488355328 ∧ nat_lit 0 + b ≤ nat_lit 9223372036854775807) = true := capF_f 0 b k (by omega) hk
/-- A loop that lays one thing behind the other. -/
theorem loop_app {e : Ty} {σ ρ β : Type} {step : σ → RT σ ρ} (l : List e.den) (mk : Int → List β → σ) (g : e.den → β) (out : List β → ρ)
    (h1 : ∀ (i : Nat) (r : List β), i < l.length → r.length = i → (step (mk (i : Int) r)).sel = .go (mk ((i + 1 : Nat) : Int) (r ++ [g (at_ e l i)])))
    (h2 : ∀ r : List β, r.length = l.length → (step (mk (l.length : Int) r)).sel = .out (out r)) : loopO step (mk 0 []) = some (out (l.map g)) := by
  have key : ∀ (k i : Nat) (r : List β), i + k = l.length → r = (l.take i).map g → loopO step (mk (i : Int) r) = some (out (l.map g)) := by
    intro k
    induction k with
    | zero =>
      intro i r hi hr
      have hi : i = l.length := by omega
      subst hi
      rw [List.take_length] at hr
      rw [loopO_eq, h2 r (by rw [hr, List.length_map]), hr]
    | succ k ih =>
      intro i r hi hr
      have hil : i < l.length := by omega
      rw [loopO_eq, h1 i r hil (by rw [hr, List.length_map, List.length_take]; omega)]
      simp only
      refine ih (i + 1) _ (by omega) ?_
      rw [hr, at_eq hil, List.take_succ_eq_append_getElem hil, List.map_append]
      rfl
  exact key l.length 0 [] (by omega) (by simp)
/-- A fold that sees what is still to come. -/
def foldS {α β : Type} (f : List β → α → α) : List β → α → α
  | [], a => a
  | x :: r, a => foldS f r (f (x :: r) a)
theorem loop_foldS {e : Ty} {σ ρ α : Type} {step : σ → RT σ ρ} (l : List e.den) (mk : Int → α → σ) (f : List e.den → α → α) (out : α → ρ) (J : Nat → α → Prop)
    (h1 : ∀ (i : Nat) (a : α), i < l.length → J i a → (step (mk (i : Int) a)).sel = .go (mk ((i + 1 : Nat) : Int) (f (l.drop i) a)) ∧ J (i + 1) (f (l.drop i) a))
    (h2 : ∀ a : α, (step (mk (l.length : Int) a)).sel = .out (out a)) (a0 : α) (h0 : J 0 a0) : loopO step (mk 0 a0) = some (out (foldS f l a0)) ∧ J l.length (foldS f l a0) := by
  have key : ∀ (k i : Nat) (a : α), i + k = l.length → J i a → loopO step (mk (i : Int) a) = some (out (foldS f (l.drop i) a)) ∧ J l.length (foldS f (l.drop i) a) := by
    intro k
    induction k with
    | zero =>
      intro i a hi hJ
      have hi : i = l.length := by omega
      subst hi
      rw [loopO_eq, h2 a, List.drop_length]
      exact ⟨rfl, hJ⟩
    | succ k ih =>
      intro i a hi hJ
      have hil : i < l.length := by omega
      obtain ⟨e1, e2⟩ := h1 i a hil hJ
      rw [loopO_eq, e1]
      have := ih (i + 1) _ (by omega) e2
      rw [List.drop_eq_getElem_cons hil] at this ⊢
      exact this
  exact key l.length 0 a0 (by omega) h0
end Go.Proofs.YtjoggjjjlafdmaaDoor.E
end
section
namespace Go.Proofs.YtjoggjjjlafdmaaDoor.E
open Go
theorem byte_range (s : ByteArray) (i : Nat) : 0 ≤ byteAt s i ∧ byteAt s i < 256 := by
  unfold byteAt
  have := (s.data[i]?.getD 0).toNat_lt
  omega
theorem i_in_f (a b c : Int) : g_Ai_in a b c = true ∧ g_Vi_in_0 a b c = decide (b ≤ a ∧ a ≤ c) := by
  constructor
  · simp [g_Ai_in]
  · unfold g_Vi_in_0
    by_cases h : a ≥ b
    · simp [h]
    · simp [h]
theorem s_l1In_f (a b c : Int) : g_As_l1In a b c = true ∧ g_Vs_l1In_0 a b c = decide (b ≤ a ∧ a ≤ c) := by
  constructor
  · simp [g_As_l1In]
  · unfold g_Vs_l1In_0
    by_cases h : a ≥ b
    · simp [h]
    · simp [h]
def dig (b : UInt8) : Bool := decide (48 ≤ b.toNat ∧ b.toNat ≤ 57)
/-- A name: a small letter, and one or two digits. -/
def keyP (s : ByteArray) : Bool := decide (2 ≤ s.size ∧ s.size ≤ 3) && (decide (97 ≤ byteAt s 0 ∧ byteAt s 0 ≤ 122) && (s.data.toList.drop 1).all dig)
def valP (l : List Int) : Bool := decide (1 ≤ l.length ∧ l.length ≤ 3) && l.all fun n => decide (0 ≤ n ∧ n ≤ 9999)
def wrtP (k : ByteArray) (d : Bool) (l : List Int) : Bool := keyP k && bif d then l.isEmpty else valP l
theorem dig_mem (b : UInt8) : [48, 49, 50, 51, 52, 53, 54, 55, 56, 57].contains b = dig b := by
  have h : ∀ b : Fin 256, [48, 49, 50, 51, 52, 53, 54, 55, 56, 57].contains (UInt8.ofNat b.val) = dig (UInt8.ofNat b.val) := by decide +kernel
  have := h ⟨b.toNat, b.toNat_lt⟩
  simpa using this
theorem i_keyOk_f (s : ByteArray) : g_Ai_keyOk s = true ∧ g_Vi_keyOk_0 s = keyP s := by
  have hb := byte_range s 0
  have hw : IntKind.wrap .i64 (byteAt s 0) = byteAt s 0 := wrap64 (by omega)
  have e1 : ∀ n : Nat, decide ((2 : Int) ≤ (n : Int) ∧ (n : Int) ≤ 3) = decide (2 ≤ n ∧ n ≤ 3) := fun n => decide_eq_decide.2 (by omega)
  constructor
  · simp only [g_Ai_keyOk, (i_in_f _ _ _).1, (i_in_f _ _ _).2, hw, e1]
    by_cases h : 2 ≤ s.size ∧ s.size ≤ 3
    · have h1 : (0 : Int) < s.size := by omega
      have h2 : (1 : Int) ≤ s.size := by omega
      have h3 : (s.extract 1 s.size).size ≤ 9223372036854775807 := by rw [ByteArray.size_extract]; omega
      have h4 : g_ascii (lit [48, 49, 50, 51, 52, 53, 54, 55, 56, 57]) = true := by decide +kernel
      simp only [h, h1, h2, h3, h4, and_self, decide_true, Bool.true_and, Bool.and_true, Bool.not_true, Bool.false_or, Int.le_refl, Bool.or_true, show (0 : Int) ≤ 1 from by decide]
    · simp [h]
  · simp only [g_Vi_keyOk_0, (i_in_f _ _ _).2, hw, e1, keyP]
    have e2 : (ByteArray.toList (g_trim (s.extract 1 s.size) (lit [48, 49, 50, 51, 52, 53, 54, 55, 56, 57])) == []) = (s.data.toList.drop 1).all dig := by
      rw [ByteArray.toList_eq]
      show ((Lib.trimS (s.extract 1 s.size).data.toList [48, 49, 50, 51, 52, 53, 54, 55, 56, 57]) == []) = _
      have e3 : (s.extract 1 s.size).data.toList = s.data.toList.drop 1 := by
        simp only [ByteArray.data_extract, Array.toList_extract, List.extract_eq_take_drop]
        rw [List.take_of_length_le (by rw [List.length_drop, Array.length_toList]; exact Nat.le_refl _)]
      rw [e3, Bool.eq_iff_iff, beq_iff_eq]
      refine (trimS_nil (List.drop 1 s.data.toList) [48, 49, 50, 51, 52, 53, 54, 55, 56, 57]).trans ?_
      simp only [dig_mem]
    rw [e2]
    cases decide (2 ≤ s.size ∧ s.size ≤ 3) <;> cases decide (97 ≤ byteAt s 0 ∧ byteAt s 0 ≤ 122) <;> rfl
theorem s_l1Key_loop (s : ByteArray) (hs : s.size < 1000) (h1 : 1 ≤ s.size) : g_Ls_l1Key_0 s 1 = some (bif (s.data.toList.drop 1).all dig then .inr () else .inl false) := by
  have h := loop_all (step := g_Ss_l1Key_0 s) (fun i : Nat => ((i + 1 : Nat) : Int)) (fun i => dig ((s.data[i + 1]?).getD 0)) (Sum.inl false) (Sum.inr ()) (s.size - 1) (fun i hi => by
      have h1 : ((i + 1 : Nat) : Int) < s.size := by omega
      have h2 : (0 : Int) ≤ ((i + 1 : Nat) : Int) := by omega
      have hw : IntKind.wrap .i64 (((i + 1 : Nat) : Int) + 1) = ((i + 1 + 1 : Nat) : Int) := by rw [wrap64 (by omega)]; omega
      simp only [g_Ss_l1Key_0, RT.sel, cond_true, h1, h2, hw, decide_true, and_self, Int.toNat_natCast]
      have hb : byteAt s (i + 1) = (((s.data[i + 1]?).getD 0).toNat : Int) := rfl
      simp only [hb]
      generalize (s.data[i + 1]?).getD 0 = b
      unfold dig
      by_cases k1 : b.toNat < 48
      · have k2 : ¬ 48 ≤ b.toNat := by omega
        have k3 : (b.toNat : Int) < 48 := by omega
        simp [k2, k3]
      · have k2 : 48 ≤ b.toNat := by omega
        have k3 : ¬ (b.toNat : Int) < 48 := by omega
        by_cases k4 : b.toNat ≤ 57
        · have k5 : ¬ (b.toNat : Int) > 57 := by omega
          simp [k2, k3, k4, k5, RT.sel]
        · have k5 : (b.toNat : Int) > 57 := by omega
          simp [k2, k3, k4, k5, RT.sel]) (by
      have hn : ((s.size - 1 + 1 : Nat) : Int) = (s.size : Int) := by omega
      simp only [g_Ss_l1Key_0, RT.sel, hn, cond_true, Int.lt_irrefl, decide_false, cond_false])
  unfold g_Ls_l1Key_0
  refine Eq.trans h ?_
  congr 2
  rw [Bool.eq_iff_iff, List.all_eq_true, List.all_eq_true]
  have hsz : s.size = s.data.toList.length := Array.length_toList.symm
  constructor
  · intro h x hx
    obtain ⟨i, hi, rfl⟩ := List.getElem_of_mem hx
    have hi' : i + 1 < s.data.toList.length := by simp at hi ⊢; omega
    have := h i (List.mem_range.2 (by omega))
    have e : (s.data[i + 1]?).getD 0 = s.data.toList[i + 1] := by rw [Array.getElem?_eq_getElem (by simpa using hi')]; simp
    rw [e] at this
    simpa [Nat.add_comm] using this
  · intro h i hi
    have hi := List.mem_range.1 hi
    have hi' : i + 1 < s.data.toList.length := by omega
    have e : (s.data[i + 1]?).getD 0 = s.data.toList[i + 1] := by rw [Array.getElem?_eq_getElem (by simpa using hi')]; simp
    rw [e]
    refine h _ ?_
    rw [List.mem_iff_getElem]
    exact ⟨i, by simp at hi' ⊢; omega, by simp [Nat.add_comm]⟩
theorem s_l1Key_f (s : ByteArray) : g_As_l1Key s = true ∧ g_Vs_l1Key_0 s = keyP s := by
  have e1 : ∀ n : Nat, decide ((2 : Int) ≤ (n : Int) ∧ (n : Int) ≤ 3) = decide (2 ≤ n ∧ n ≤ 3) := fun n => decide_eq_decide.2 (by omega)
  by_cases h : 2 ≤ s.size ∧ s.size ≤ 3
  · have h0 : (0 : Int) < s.size := by omega
    have hl := s_l1Key_loop s (by omega) (by omega)
    constructor
    · simp only [g_As_l1Key, (s_l1In_f _ _ _).1, (s_l1In_f _ _ _).2, e1, hl, okO, h, h0, Option.isSome_some, and_self, decide_true, Bool.true_and, Bool.or_true, Int.le_refl]
    · simp only [g_Vs_l1Key_0, (s_l1In_f _ _ _).2, e1, hl, okO, valO, keyP, Option.getD_some]
      by_cases k1 : byteAt s 0 < 97
      · simp [h, k1, show ¬ (97 ≤ byteAt s 0) by omega]
      · by_cases k2 : byteAt s 0 > 122
        · simp [h, k1, k2, show ¬ (byteAt s 0 ≤ 122) by omega]
        · simp only [h, k1, k2, show 97 ≤ byteAt s 0 by omega, show byteAt s 0 ≤ 122 by omega]
          cases (s.data.toList.drop 1).all dig <;> rfl
  · constructor
    · simp only [g_As_l1Key, (s_l1In_f _ _ _).1, (s_l1In_f _ _ _).2, e1]
      simp [h]
    · simp only [g_Vs_l1Key_0, (s_l1In_f _ _ _).2, e1, keyP]
      simp [h]
theorem s_l1Val_loop (l : List Int) (hl : l.length ≤ 1048576) : g_Ls_l1Val_0 l 0 = some (bif l.all (fun n => decide (0 ≤ n ∧ n ≤ 9999)) then .inr () else .inl false) := by
  refine loop_list (ρ := Bool ⊕ Unit) (e := .int .i64) l (fun i : Nat => (i : Int)) (fun n => decide (0 ≤ n ∧ n ≤ 9999)) (Sum.inl false) (Sum.inr ()) (fun i hi => ?_) ?_
  · have h1 : (i : Int) < l.length := by omega
    have h2 : (0 : Int) ≤ (i : Int) := by omega
    have hw : IntKind.wrap .i64 ((i : Int) + 1) = ((i + 1 : Nat) : Int) := by rw [wrap64 (by omega)]; omega
    simp only [g_Ss_l1Val_0, RT.sel, cond_true, h1, h2, hw, decide_true, and_self, Int.toNat_natCast, (s_l1In_f _ _ _).1, (s_l1In_f _ _ _).2]
    cases decide (0 ≤ at_ (.int .i64) l i ∧ at_ (.int .i64) l i ≤ 9999) <;> rfl
  · simp [g_Ss_l1Val_0, RT.sel]
theorem s_l1Val_f (l : List Int) (hl : l.length ≤ 1048576) : g_As_l1Val l = true ∧ g_Vs_l1Val_0 l = valP l := by
  have hk := s_l1Val_loop l hl
  have e1 : decide ((1 : Int) ≤ (l.length : Int) ∧ (l.length : Int) ≤ 3) = decide (1 ≤ l.length ∧ l.length ≤ 3) := decide_eq_decide.2 (by omega)
  constructor
  · simp only [g_As_l1Val, hk, okO, valO, (s_l1In_f _ _ _).1]; simp
  · simp only [g_Vs_l1Val_0, hk, valO, (s_l1In_f _ _ _).2, e1, valP, Option.getD_some]
    cases l.all (fun n => decide (0 ≤ n ∧ n ≤ 9999)) <;> cases decide (1 ≤ l.length ∧ l.length ≤ 3) <;> rfl
theorem i_valOk_1_f (n : Int) : g_Ai_valOk_1 n = true ∧ g_Vi_valOk_1_0 n = !decide (0 ≤ n ∧ n ≤ 9999) := ⟨(i_in_f _ _ _).1, congrArg not (i_in_f _ _ _).2⟩
theorem i_valOk_f (l : List Int) (hl : l.length ≤ 1048576) : g_Ai_valOk l = true ∧ g_Vi_valOk_0 l = valP l := by
  obtain ⟨r, h1, h2⟩ := loop_idx (e := .int .i64) l (step := g_Sslices_IndexFunc_int_int__i_valOk_1_0 l (l.length : Int)) (fun n => !decide (0 ≤ n ∧ n ≤ 9999)) (fun i hi => by
    have h1 : (i : Int) < l.length := by omega
    have h2 : (0 : Int) ≤ (i : Int) := by omega
    have hw : IntKind.wrap .i64 ((i : Int) + 1) = ((i + 1 : Nat) : Int) := by rw [wrap64 (by omega)]; omega
    simp only [g_Sslices_IndexFunc_int_int__i_valOk_1_0, RT.sel, cond_true, h1, h2, hw, decide_true, and_self, Int.toNat_natCast, (i_valOk_1_f _).1, (i_valOk_1_f _).2]) (by simp [g_Sslices_IndexFunc_int_int__i_valOk_1_0, RT.sel])
  have h1 : g_Lslices_IndexFunc_int_int__i_valOk_1_0 l (l.length : Int) 0 = some r := h1
  have e1 : decide ((1 : Int) ≤ (l.length : Int) ∧ (l.length : Int) ≤ 3) = decide (1 ≤ l.length ∧ l.length ≤ 3) := decide_eq_decide.2 (by omega)
  constructor
  · simp [g_Ai_valOk, (i_in_f _ _ _).1, g_Aslices_ContainsFunc_int_int__i_valOk_1, g_Aslices_IndexFunc_int_int__i_valOk_1, h1, okO]
  · simp only [g_Vi_valOk_0, (i_in_f _ _ _).2, e1, g_Vslices_ContainsFunc_int_int__i_valOk_1_0, g_Vslices_IndexFunc_int_int__i_valOk_1_0, h1, valO, Option.getD_some, h2, valP]
    rw [show (l.any fun n => !decide (0 ≤ n ∧ n ≤ 9999)) = !(l.all fun n => decide (0 ≤ n ∧ n ≤ 9999)) by rw [List.not_all_eq_any_not], Bool.not_not]
    cases decide (1 ≤ l.length ∧ l.length ≤ 3) <;> rfl
theorem s_WrtOk_f (k : ByteArray) (d : Bool) (l : List Int) (hl : l.length ≤ 1048576) : g_As_WrtOk k d l = true ∧ g_Vs_WrtOk_0 k d l = wrtP k d l := by
  constructor
  · simp [g_As_WrtOk, (s_l1Key_f _).1, (s_l1Val_f _ hl).1]
  · simp only [g_Vs_WrtOk_0, (s_l1Key_f _).2, (s_l1Val_f _ hl).2, wrtP]
    cases d <;> cases keyP k <;> cases l <;> simp <;> omega
end Go.Proofs.YtjoggjjjlafdmaaDoor.E
end
section
namespace Go.Proofs.YtjoggjjjlafdmaaDoor.E
open Go
theorem i_WrtOk_f (k : ByteArray) (d : Bool) (l : List Int) (hl : l.length ≤ 1048576) : g_Ai_WrtOk k d l = true ∧ g_Vi_WrtOk_0 k d l = wrtP k d l := by
  constructor
  · simp [g_Ai_WrtOk, (i_keyOk_f _).1, (i_valOk_f _ hl).1]
  · simp only [g_Vi_WrtOk_0, (i_keyOk_f _).2, (i_valOk_f _ hl).2, wrtP]
    cases d <;> cases keyP k <;> cases l <;> simp <;> omega
end Go.Proofs.YtjoggjjjlafdmaaDoor.E
end
section
namespace Go.Proofs.YtjoggjjjlafdmaaDoor.E
open Go
def lessB (a b : ByteArray) : Bool := Go.Op.bytesLess a.toList b.toList
theorem leq_not : ∀ a b : List UInt8, (Go.Op.bytesLess a b || a == b) = !(Go.Op.bytesLess b a)
  | [], [] => rfl
  | [], _ :: _ => rfl
  | _ :: _, [] => rfl
  | a :: x, b :: y => by
    have ih := leq_not x y
    simp only [Go.Op.bytesLess]
    rcases Nat.lt_trichotomy a.toNat b.toNat with h | h | h
    · have h1 : decide (a < b) = true := decide_eq_true (UInt8.lt_iff_toNat_lt.2 h)
      have h2 : decide (b < a) = false := decide_eq_false (fun e => by have := UInt8.lt_iff_toNat_lt.1 e; omega)
      have h3 : (b == a) = false := by rw [beq_eq_false_iff_ne]; rintro rfl; omega
      simp [h1, h2, h3]
    · obtain rfl : a = b := UInt8.toNat_inj.1 h
      have h1 : decide (a < a) = false := decide_eq_false (fun e => by have := UInt8.lt_iff_toNat_lt.1 e; omega)
      have h2 : (a :: x == a :: y) = (x == y) := by simp
      rw [h2, h1]
      simpa using ih
    · have h1 : decide (a < b) = false := decide_eq_false (fun e => by have := UInt8.lt_iff_toNat_lt.1 e; omega)
      have h2 : decide (b < a) = true := decide_eq_true (UInt8.lt_iff_toNat_lt.2 h)
      have h3 : (a == b) = false := by rw [beq_eq_false_iff_ne]; rintro rfl; omega
      have h4 : (a :: x == b :: y) = false := by rw [beq_eq_false_iff_ne]; intro e; injection e with e1 _; subst e1; omega
      rw [h1, h2, h3, h4]
      simp
/-- What '<=' and '>=' of strings come to, as the walk spells them. -/
abbrev TI_ : Ty := .pair .str (.sl 3 (.int .i64))
/-- Names rise. -/
def risesP (l : List (ByteArray × List Int)) (i : Nat) : Bool := decide (i = 0) || Op.bytesLess (at_ TI_ l (i - 1)).1.toList (at_ TI_ l i).1.toList
def itemP (l : List (ByteArray × List Int)) (i : Nat) : Bool := keyP (at_ TI_ l i).1 && (valP (at_ TI_ l i).2 && risesP l i)
/-- What is kept is ok. -/
def storeP (l : List (ByteArray × List Int)) : Bool := decide (l.length ≤ 40) && (List.range l.length).all (itemP l)
def okI (x : ByteArray × List Int) : Prop := x.1.size ≤ maxLen ∧ (x.2.length ≤ maxLen ∧ ∀ n ∈ x.2, (Lit.int .i64 n).wf = true)
def szI (x : ByteArray × List Int) : Nat := x.1.size + x.2.length
theorem s_StoOk_loop (l : List (ByteArray × List Int)) (hl : l.length ≤ 1048576) (hit : ∀ x ∈ l, x.2.length ≤ 1048576) : g_Ls_StoOk_0 l 0 = some (bif (List.range l.length).all (itemP l) then .inr () else .inl false) := by
  refine loop_all (ρ := Bool ⊕ Unit) (step := g_Ss_StoOk_0 l) (fun i : Nat => (i : Int)) (itemP l) (Sum.inl false) (Sum.inr ()) l.length (fun i hi => ?_) ?_
  · have k1 : (i : Int) < l.length := by omega
    have k2 : (0 : Int) ≤ (i : Int) := by omega
    have hw : IntKind.wrap .i64 ((i : Int) + 1) = ((i + 1 : Nat) : Int) := by rw [wrap64 (by omega)]; omega
    obtain ⟨q1, q2⟩ := s_l1Val_f (at_ TI_ l i).2 (hit _ (at_mem (e := TI_) hi))
    simp only [g_Ss_StoOk_0, RT.sel, cond_true, k1, k2, hw, decide_true, and_self, Int.toNat_natCast, (s_l1Key_f _).1, (s_l1Key_f _).2, q1, q2, itemP, risesP]
    generalize keyP (at_ TI_ l i).1 = p
    generalize valP (at_ TI_ l i).2 = q
    by_cases h0 : i = 0
    · subst h0
      cases p <;> cases q <;> simp [RT.sel]
    · have h1 : (i : Int) > 0 := by omega
      have h2 : IntKind.wrap .i64 ((i : Int) - 1) = ((i - 1 : Nat) : Int) := by rw [wrap64 (by omega)]; omega
      have h3 : (0 : Int) ≤ ((i - 1 : Nat) : Int) ∧ ((i - 1 : Nat) : Int) < l.length := by omega
      simp only [h1, h2, h3, decide_true, cond_true, and_self, Int.toNat_natCast, RT.sel, h0, decide_false, Bool.false_or]
      generalize Op.bytesLess _ _ = r
      cases p <;> cases q <;> cases r <;> rfl
  · simp [g_Ss_StoOk_0, RT.sel]
theorem i_StoOk_loop (l : List (ByteArray × List Int)) (hl : l.length ≤ 1048576) (hit : ∀ x ∈ l, x.2.length ≤ 1048576) : g_Li_StoOk_0 l (l.length : Int) l 0 = some (bif (List.range l.length).all (itemP l) then .inr () else .inl false) := by
  refine loop_all (ρ := Bool ⊕ Unit) (step := g_Si_StoOk_0 l (l.length : Int) l) (fun i : Nat => (i : Int)) (itemP l) (Sum.inl false) (Sum.inr ()) l.length (fun i hi => ?_) ?_
  · have k1 : (i : Int) < l.length := by omega
    have k2 : (0 : Int) ≤ (i : Int) := by omega
    have hw : IntKind.wrap .i64 ((i : Int) + 1) = ((i + 1 : Nat) : Int) := by rw [wrap64 (by omega)]; omega
    obtain ⟨q1, q2⟩ := i_valOk_f (at_ TI_ l i).2 (hit _ (at_mem (e := TI_) hi))
    simp only [g_Si_StoOk_0, RT.sel, cond_true, k1, k2, hw, decide_true, and_self, Int.toNat_natCast, (i_keyOk_f _).1, (i_keyOk_f _).2, q1, q2, itemP, risesP, leq_not]
    generalize keyP (at_ TI_ l i).1 = p
    generalize valP (at_ TI_ l i).2 = q
    by_cases h0 : i = 0
    · subst h0
      cases p <;> cases q <;> simp [RT.sel]
    · have h1 : (i : Int) > 0 := by omega
      have h2 : IntKind.wrap .i64 ((i : Int) - 1) = ((i - 1 : Nat) : Int) := by rw [wrap64 (by omega)]; omega
      have h3 : (0 : Int) ≤ ((i - 1 : Nat) : Int) ∧ ((i - 1 : Nat) : Int) < l.length := by omega
      simp only [h1, h2, h3, decide_true, cond_true, and_self, Int.toNat_natCast, RT.sel, h0, decide_false, Bool.false_or]
      generalize Op.bytesLess _ _ = r
      cases p <;> cases q <;> cases r <;> rfl
  · simp [g_Si_StoOk_0, RT.sel]
theorem s_StoOk_f (l : List (ByteArray × List Int)) (hl : l.length ≤ 1048576) (hit : ∀ x ∈ l, x.2.length ≤ 1048576) : g_As_StoOk l = true ∧ g_Vs_StoOk_0 l = storeP l := by
  have h := s_StoOk_loop l hl hit
  have e2 : decide ((l.length : Int) > 40) = !decide (l.length ≤ 40) := by rw [Bool.eq_iff_iff]; simp; omega
  constructor
  · simp [g_As_StoOk, h, okO]
  · simp only [g_Vs_StoOk_0, h, valO, Option.getD_some, e2, storeP]
    cases (List.range l.length).all (itemP l) <;> cases decide (l.length ≤ 40) <;> rfl
theorem i_StoOk_f (l : List (ByteArray × List Int)) (hl : l.length ≤ 1048576) (hit : ∀ x ∈ l, x.2.length ≤ 1048576) : g_Ai_StoOk l = true ∧ g_Vi_StoOk_0 l = storeP l := by
  have h := i_StoOk_loop l hl hit
  have e2 : decide ((l.length : Int) ≤ 40) = decide (l.length ≤ 40) := decide_eq_decide.2 (by omega)
  constructor
  · simp [g_Ai_StoOk, h, okO]
  · simp only [g_Vi_StoOk_0, h, valO, Option.getD_some, e2, storeP]
    cases (List.range l.length).all (itemP l) <;> cases decide (l.length ≤ 40) <;> rfl
end Go.Proofs.YtjoggjjjlafdmaaDoor.E
end
section
namespace Go.Proofs.YtjoggjjjlafdmaaDoor.E
open Go
theorem less_irrefl : ∀ a : List UInt8, Op.bytesLess a a = false
  | [] => rfl
  | x :: a => by simp [Op.bytesLess, less_irrefl a]
theorem less_trans : ∀ a b c : List UInt8, Op.bytesLess a b = true → Op.bytesLess b c = true → Op.bytesLess a c = true
  | [], [], _, h, _ => by simp [Op.bytesLess] at h
  | [], _ :: _, [], _, h => by simp [Op.bytesLess] at h
  | [], _ :: _, _ :: _, _, _ => rfl
  | _ :: _, [], _, h, _ => by simp [Op.bytesLess] at h
  | _ :: _, _ :: _, [], _, h => by simp [Op.bytesLess] at h
  | x :: a, y :: b, z :: c, h1, h2 => by
    simp only [Op.bytesLess] at h1 h2 ⊢
    have t := less_trans a b c
    simp only [Bool.or_eq_true, Bool.and_eq_true, decide_eq_true_eq, beq_iff_eq] at h1 h2 ⊢
    simp only [UInt8.lt_iff_toNat_lt] at h1 h2 ⊢
    rcases h1 with h1 | ⟨rfl, h1⟩
    · rcases h2 with h2 | ⟨rfl, h2⟩
      · left; omega
      · left; exact h1
    · rcases h2 with h2 | ⟨rfl, h2⟩
      · left; exact h2
      · right; exact ⟨rfl, t h1 h2⟩
theorem compare_lt : ∀ a b : List UInt8, decide (Lib.compareBytes a b < 0) = Op.bytesLess a b
  | [], [] => rfl
  | [], _ :: _ => rfl
  | _ :: _, [] => rfl
  | x :: a, y :: b => by
    simp only [Lib.compareBytes, Op.bytesLess]
    by_cases h : x < y
    · simp [h]
    · by_cases h2 : y < x
      · have : x ≠ y := fun e => by subst e; exact h h2
        simp [h, h2, this]
      · have : x = y := by
          apply UInt8.toNat_inj.1
          rw [UInt8.lt_iff_toNat_lt] at h h2
          omega
        subst this
        simp [h, compare_lt a b]
theorem compare_eq : ∀ a b : List UInt8, (Lib.compareBytes a b == 0) = (a == b)
  | [], [] => rfl
  | [], _ :: _ => rfl
  | _ :: _, [] => rfl
  | x :: a, y :: b => by
    simp only [Lib.compareBytes]
    by_cases h : x < y
    · have : x ≠ y := fun e => by subst e; rw [UInt8.lt_iff_toNat_lt] at h; omega
      simp [h, this]
    · by_cases h2 : y < x
      · have : x ≠ y := fun e => by subst e; exact h h2
        simp [h, h2, this]
      · have : x = y := by
          apply UInt8.toNat_inj.1
          rw [UInt8.lt_iff_toNat_lt] at h h2
          omega
        subst this
        have := compare_eq a b
        simp [h]
        simpa using this
/-- Names rise: of any two. -/
theorem rises_lt {l : List (ByteArray × List Int)} (h : storeP l = true) : ∀ (d i : Nat), i + (d + 1) < l.length → Op.bytesLess (at_ TI_ l i).1.toList (at_ TI_ l (i + (d + 1))).1.toList = true := by
  simp only [storeP, Bool.and_eq_true, List.all_eq_true, itemP] at h
  have one : ∀ i, i + 1 < l.length → Op.bytesLess (at_ TI_ l i).1.toList (at_ TI_ l (i + 1)).1.toList = true := by
    intro i hi
    have := (h.2 (i + 1) (List.mem_range.2 hi)).2.2
    simpa [risesP] using this
  intro d
  induction d with
  | zero => intro i hi; exact one i hi
  | succ d ih =>
    intro i hi
    exact less_trans _ _ _ (ih i (by omega)) (one (i + (d + 1)) (by omega))
/-- Where a name is, or would be. -/
def posP (l : List (ByteArray × List Int)) (key : ByteArray) : Nat := (l.takeWhile fun x => Op.bytesLess x.1.toList key.toList).length
theorem pos_le (l : List (ByteArray × List Int)) (key : ByteArray) : posP l key ≤ l.length := (List.takeWhile_sublist _).length_le
theorem pos_lt {l : List (ByteArray × List Int)} (h : storeP l = true) (key : ByteArray) (i : Nat) (hi : i < l.length) : Op.bytesLess (at_ TI_ l i).1.toList key.toList = decide (i < posP l key) := by
  have h1 : ∀ (l : List (ByteArray × List Int)) (i : Nat), i < posP l key → ∃ h : i < l.length, Op.bytesLess (l[i]'h).1.toList key.toList = true := by
    intro l
    induction l with
    | nil => intro i hi; simp [posP] at hi
    | cons x l ih =>
      intro i hi
      unfold posP at hi
      by_cases hx : Op.bytesLess x.1.toList key.toList = true
      · rw [List.takeWhile_cons_of_pos (p := fun x : ByteArray × List Int => Op.bytesLess x.1.toList key.toList) hx] at hi
        cases i with
        | zero => exact ⟨by simp, hx⟩
        | succ i =>
          obtain ⟨a, b⟩ := ih i (by unfold posP; simpa using hi)
          exact ⟨by simp; omega, by simpa using b⟩
      · rw [List.takeWhile_cons_of_neg (p := fun x : ByteArray × List Int => Op.bytesLess x.1.toList key.toList) hx] at hi
        simp at hi
  have h2 : ∀ (l : List (ByteArray × List Int)) (h : posP l key < l.length), Op.bytesLess (l[posP l key]'h).1.toList key.toList = false := by
    intro l
    induction l with
    | nil => intro h; simp at h
    | cons x l ih =>
      intro h
      by_cases hx : Op.bytesLess x.1.toList key.toList = true
      · have e : posP (x :: l) key = posP l key + 1 := by unfold posP; rw [List.takeWhile_cons_of_pos (p := fun x : ByteArray × List Int => Op.bytesLess x.1.toList key.toList) hx]; rfl
        have := ih (by rw [e] at h; simpa using h)
        simp only [e, List.getElem_cons_succ]
        exact this
      · have e : posP (x :: l) key = 0 := by unfold posP; rw [List.takeWhile_cons_of_neg (p := fun x : ByteArray × List Int => Op.bytesLess x.1.toList key.toList) hx]; rfl
        simp only [e, List.getElem_cons_zero]
        simpa using hx
  by_cases hp : i < posP l key
  · obtain ⟨a, b⟩ := h1 l i hp
    rw [at_eq (e := TI_) hi, decide_eq_true hp]
    exact b
  · rw [decide_eq_false hp]
    have hp2 : posP l key < l.length := by omega
    have hb := h2 l hp2
    cases hl : Op.bytesLess (at_ TI_ l i).1.toList key.toList with
    | false => rfl
    | true =>
      exfalso
      by_cases e : i = posP l key
      · subst e
        rw [at_eq (e := TI_) hi] at hl
        rw [hl] at hb
        cases hb
      · have hr := rises_lt h (i - posP l key - 1) (posP l key) (by omega)
        rw [show posP l key + (i - posP l key - 1 + 1) = i by omega] at hr
        have := less_trans _ _ _ hr hl
        rw [at_eq (e := TI_) hp2] at this
        rw [this] at hb
        cases hb
/-- The numbers of a name. -/
def getP (l : List (ByteArray × List Int)) (key : ByteArray) : Option (List Int) := (l.find? fun x => x.1.toList == key.toList).map (·.2)
/-- A name is kept at one place alone. -/
theorem pos_of {l : List (ByteArray × List Int)} (h : storeP l = true) {key : ByteArray} {i : Nat} (hi : i < l.length) (he : (at_ TI_ l i).1.toList = key.toList) : i = posP l key := by
  have h1 := pos_lt h key i hi
  rw [he, less_irrefl] at h1
  have h1 : ¬ i < posP l key := by simpa using h1.symm
  by_cases e : i = posP l key
  · exact e
  · exfalso
    have hp2 : posP l key < l.length := by omega
    have hr := rises_lt h (i - posP l key - 1) (posP l key) (by omega)
    rw [show posP l key + (i - posP l key - 1 + 1) = i by omega, he] at hr
    have := pos_lt h key (posP l key) hp2
    rw [hr] at this
    simp at this
theorem get_pos {l : List (ByteArray × List Int)} (h : storeP l = true) (key : ByteArray) : getP l key = if posP l key < l.length ∧ (at_ TI_ l (posP l key)).1.toList = key.toList then some (at_ TI_ l (posP l key)).2 else none := by
  unfold getP
  split
  · rename_i hp
    have : l.find? (fun x => x.1.toList == key.toList) = some (at_ TI_ l (posP l key)) := by
      rw [List.find?_eq_some_iff_getElem]
      refine ⟨by simpa using hp.2, posP l key, hp.1, (at_eq (e := TI_) hp.1).symm, fun j hj => ?_⟩
      have hjl : j < l.length := by omega
      simp only [Bool.not_eq_true', beq_eq_false_iff_ne]
      intro e
      have := pos_of (key := key) h hjl (by rw [at_eq (e := TI_) hjl]; exact e)
      omega
    rw [this]
    rfl
  · rename_i hp
    have : l.find? (fun x => x.1.toList == key.toList) = none := by
      rw [List.find?_eq_none]
      intro x hx e
      obtain ⟨i, hi, rfl⟩ := List.getElem_of_mem hx
      have e : l[i].1.toList = key.toList := by simpa using e
      have hi2 := pos_of h (key := key) hi (by rw [at_eq (e := TI_) hi]; exact e)
      apply hp
      rw [← hi2]
      exact ⟨hi, by rw [at_eq (e := TI_) hi]; exact e⟩
    rw [this]
    rfl
end Go.Proofs.YtjoggjjjlafdmaaDoor.E
end
section
namespace Go.Proofs.YtjoggjjjlafdmaaDoor.E
open Go
set_option maxHeartbeats 8000000
set_option maxRecDepth 100000
theorem capE_f (a b k : Nat) (h : a + b ≤ 1100000) (hk : k ≤ 1000) : decide ((a + b) * k ≤ nat_lit 140737488355328 ∧ a + b ≤ nat_lit 9223372036854775807) = true := by
  refine decide_eq_true ⟨Nat.le_trans (Nat.mul_le_mul h hk) (by decide), by show a + b ≤ 9223372036854775807; omega⟩
theorem l1Copy_f (l : List (ByteArray × List Int)) (hl : l.length ≤ 1048576) (hit : ∀ x ∈ l, x.2.length ≤ 1048576) : g_As_l1Copy l = true ∧ g_Vs_l1Copy_0 l = l := by
  have L : g_Ls_l1Copy_0 l [] (0, []) = some l := by
    obtain ⟨r, h1, h2⟩ := loop_inv (step := g_Ss_l1Copy_0 l []) (fun x => 0 ≤ x.1 ∧ x.1.toNat ≤ l.length ∧ x.2 = l.take x.1.toNat) (fun r => r = l) (fun x => l.length - x.1.toNat) (fun x hx => by
      obtain ⟨k, y⟩ := x
      obtain ⟨i1, i2, i3⟩ := hx
      simp only at i1 i2 i3
      by_cases hk : k < (l.length : Int)
      · have hn : k.toNat < l.length := by omega
        have hy : y.length = k.toNat := by rw [i3, List.length_take]; omega
        have hv := hit _ (List.getElem_mem hn)
        refine .inl ⟨(k + 1, y ++ [l[k.toNat]]), ?_, ⟨by simp only; omega, by simp only; omega, ?_⟩, by simp only; omega⟩
        · simp only [g_Ss_l1Copy_0, RT.sel, hk, i1, and_self, decide_true, cond_true, at_eq (e := .pair .str (.sl 3 (.int .i64))) hn]
          rw [capE_f _ _ _ (by omega) (by decide), cond_true, capE_f _ _ _ (by simp only [List.length_cons, List.length_nil]; omega) (by decide), cond_true, wrap64 (by omega)]
          rfl
        · simp only
          rw [i3, show (k + 1).toNat = k.toNat + 1 by omega, List.take_succ_eq_append_getElem hn]
      · refine .inr ⟨y, ?_, by rw [i3, List.take_of_length_le (by omega)]⟩
        simp only [g_Ss_l1Copy_0, RT.sel, hk, decide_false, cond_true, cond_false]) (0, []) ⟨by simp, by simp, by simp⟩
    rw [h2] at h1
    exact h1
  unfold g_As_l1Copy g_Vs_l1Copy_0
  rw [L]
  exact ⟨rfl, rfl⟩
/-- What is written, along what is kept: what is laid so far, and is it done. -/
def wr (k : ByteArray) (d : Bool) (v : List Int) : Bool → List (ByteArray × List Int) → List (ByteArray × List Int) × Bool
  | done, [] => ([], done)
  | done, it :: r =>
    let ins := !done && Op.bytesLess k.toList it.1.toList
    let pre := bif ins then [(k, v)] else []
    bif it.1.toList == k.toList then
      bif !d then (pre ++ (k, v) :: (wr k d v true r).1, (wr k d v true r).2)
      else (pre ++ (wr k d v (done || ins) r).1, (wr k d v (done || ins) r).2)
    else (pre ++ it :: (wr k d v (done || ins) r).1, (wr k d v (done || ins) r).2)
/-- A store, with something written. -/
def writeS (l : List (ByteArray × List Int)) (k : ByteArray) (d : Bool) (v : List Int) : List (ByteArray × List Int) := bif (wr k d v d l).2 then (wr k d v d l).1 else (wr k d v d l).1 ++ [(k, v)]
theorem wr_len (k : ByteArray) (d : Bool) (v : List Int) : ∀ (l : List (ByteArray × List Int)) (done : Bool), (wr k d v done l).1.length ≤ 2 * l.length
  | [], _ => by simp [wr]
  | it :: r, done => by
    have h1 := wr_len k d v r true
    have h2 := wr_len k d v r
    simp only [wr]
    generalize (!done && Op.bytesLess k.toList it.1.toList) = ins
    have h2 := h2 (done || ins)
    generalize (done || ins) = dn at h2 ⊢
    cases (it.1.toList == k.toList) <;> cases d <;> cases ins <;> simp only [cond_true, cond_false, Bool.not_true, Bool.not_false, List.nil_append, List.cons_append, List.length_cons] <;> omega
theorem wr_val (k : ByteArray) (d : Bool) (v : List Int) (B : Nat) (hv : v.length ≤ B) : ∀ (l : List (ByteArray × List Int)) (done : Bool), (∀ x ∈ l, x.2.length ≤ B) → ∀ x ∈ (wr k d v done l).1, x.2.length ≤ B
  | [], _, _ => by simp [wr]
  | it :: r, done, h => by
    have h0 := h it List.mem_cons_self
    have h1 := wr_val k d v B hv r true (fun x hx => h x (List.mem_cons_of_mem _ hx))
    have h2 := fun dn => wr_val k d v B hv r dn (fun x hx => h x (List.mem_cons_of_mem _ hx))
    simp only [wr]
    generalize (!done && Op.bytesLess k.toList it.1.toList) = ins
    have h2 := h2 (done || ins)
    generalize (done || ins) = dn at h2 ⊢
    intro x hx
    cases hq : (it.1.toList == k.toList) <;> cases d <;> cases ins <;> simp only [hq, cond_true, cond_false, Bool.not_true, Bool.not_false, List.nil_append, List.cons_append, List.mem_cons] at hx <;> (try rcases hx with rfl | hx) <;> (try rcases hx with rfl | hx) <;> first | exact hv | exact h0 | exact h1 _ hx | exact h2 _ hx
theorem l1Write_f (l : List (ByteArray × List Int)) (k : ByteArray) (d : Bool) (v : List Int) (hl : l.length ≤ 100000) (hv : v.length ≤ 1048576) : g_As_l1Write l k d v = true ∧ g_Vs_l1Write_0 l k d v = writeS l k d v := by
  have L : g_Ls_l1Write_0 l k d v [] (d, 0, []) = some ((wr k d v d l).2, (wr k d v d l).1) := by
    obtain ⟨r, h1, h2⟩ := loop_inv (step := g_Ss_l1Write_0 l k d v []) (fun x => 0 ≤ x.2.1 ∧ x.2.1.toNat ≤ l.length ∧ x.2.2.length ≤ 2 * x.2.1.toNat ∧ x.2.2 ++ (wr k d v x.1 (l.drop x.2.1.toNat)).1 = (wr k d v d l).1 ∧ (wr k d v x.1 (l.drop x.2.1.toNat)).2 = (wr k d v d l).2) (fun r => r = ((wr k d v d l).2, (wr k d v d l).1)) (fun x => l.length - x.2.1.toNat) (fun x hx => by
      obtain ⟨done, i, y⟩ := x
      obtain ⟨i1, i2, i3, i4, i5⟩ := hx
      simp only at i1 i2 i3 i4 i5
      by_cases hk : i < (l.length : Int)
      · have hn : i.toNat < l.length := by omega
        rw [List.drop_eq_getElem_cons hn] at i4 i5
        have e1 : (i + 1).toNat = i.toNat + 1 := by omega
        have c1 : decide ((nat_lit 0 + List.length v) * nat_lit 8 ≤ nat_lit 140737488355328 ∧ nat_lit 0 + List.length v ≤ nat_lit 9223372036854775807) = true := capE_f _ _ _ (by show 0 + _ ≤ _; omega) (by decide)
        have c2 : ∀ a b : List (ByteArray × List Int), a.length ≤ 200002 → b.length = 1 → decide ((List.length a + List.length b) * nat_lit 40 ≤ nat_lit 140737488355328 ∧ List.length a + List.length b ≤ nat_lit 9223372036854775807) = true := fun a b ha hb => capE_f _ _ _ (by omega) (by decide)
        refine .inl ?_
        generalize hq : (l[i.toNat].1.toList == k.toList) = q at i4 i5
        generalize hb : Op.bytesLess k.toList l[i.toNat].1.toList = b at i4 i5
        have sel : ∃ done' new, (g_Ss_l1Write_0 l k d v [] (done, i, y)).sel = .go (done', i + 1, y ++ new) ∧ new.length ≤ 2 ∧ wr k d v done (l[i.toNat] :: l.drop (i.toNat + 1)) = (new ++ (wr k d v done' (l.drop (i.toNat + 1))).1, (wr k d v done' (l.drop (i.toNat + 1))).2) := by
          refine ⟨done || b || (q && !d), (bif !done && b then [(k, v)] else []) ++ (bif q then (bif d then [] else [(k, v)]) else [l[i.toNat]]), ?_, ?_, ?_⟩
          · simp only [g_Ss_l1Write_0, RT.sel, hk, i1, and_self, decide_true, cond_true, at_eq (e := .pair .str (.sl 3 (.int .i64))) hn, hq, hb, c1, wrap64 (x := i + 1) (by omega)]
            cases done <;> cases b <;> cases q <;> cases d <;> simp only [Bool.not_true, Bool.not_false, cond_true, cond_false, Bool.or_true, Bool.or_false, Bool.true_or, Bool.and_true, Bool.and_false, Bool.false_and, Bool.true_and, List.nil_append, List.append_nil, List.append_assoc, List.cons_append, RT.sel] <;> (try rw [c2 _ _ (by (try simp only [List.length_append, List.length_cons, List.length_nil]); omega) (by simp)]) <;> (try simp only [cond_true, RT.sel, List.append_assoc, List.cons_append, List.nil_append]) <;> (try rw [c2 _ _ (by (try simp only [List.length_append, List.length_cons, List.length_nil]); omega) (by simp)]) <;> (try simp only [cond_true, RT.sel, List.append_assoc, List.cons_append, List.nil_append])
          · cases done <;> cases b <;> cases q <;> cases d <;> simp
          · simp only [wr, hq, hb]
            cases done <;> cases b <;> cases q <;> cases d <;> simp
        obtain ⟨done', new, s1, s2, s3⟩ := sel
        rw [s3] at i4 i5
        refine ⟨_, s1, ⟨by simp only; omega, by simp only; omega, by simp only [List.length_append]; omega, ?_, ?_⟩, by simp only; omega⟩
        · simp only [e1]
          rw [List.append_assoc]
          exact i4
        · simp only [e1]
          exact i5
      · refine .inr ⟨(done, y), ?_, ?_⟩
        · simp only [g_Ss_l1Write_0, RT.sel, hk, decide_false, cond_true, cond_false]
        · rw [List.drop_of_length_le (by omega)] at i4 i5
          simp only [wr, List.append_nil] at i4 i5
          rw [i4, ← i5]) (d, 0, []) ⟨by simp, by simp, by simp, by simp, by simp⟩
    rw [h2] at h1
    exact h1
  have hw := wr_len k d v l d
  unfold g_As_l1Write g_Vs_l1Write_0
  rw [L]
  simp only [okO, valO, Option.isSome_some, Option.getD_some, Bool.true_and]
  refine ⟨?_, ?_⟩
  · have c1 : decide ((nat_lit 0 + List.length v) * nat_lit 8 ≤ nat_lit 140737488355328 ∧ nat_lit 0 + List.length v ≤ nat_lit 9223372036854775807) = true := capE_f _ _ _ (by show 0 + _ ≤ _; omega) (by decide)
    have c2 : decide ((List.length (wr k d v d l).1 + List.length [(k, [] ++ v)]) * nat_lit 40 ≤ nat_lit 140737488355328 ∧ List.length (wr k d v d l).1 + List.length [(k, [] ++ v)] ≤ nat_lit 9223372036854775807) = true := capE_f _ _ _ (by simp only [List.length_cons, List.length_nil]; omega) (by decide)
    simp only [Bool.or_eq_true, Bool.and_eq_true, decide_eq_true_eq]
    exact .inr ⟨of_decide_eq_true c1, decide_eq_true (of_decide_eq_true c2)⟩
  · unfold writeS
    cases (wr k d v d l).2 <;> simp
/-- Some things written, one behind the other; nothing, if one may not be, or there is no room. -/
def doL : List (ByteArray × List Int) → List (ByteArray × Bool × List Int) → Option (List (ByteArray × List Int))
  | l, [] => some l
  | l, w :: ws => bif wrtP w.1 w.2.1 w.2.2 then bif decide ((writeS l w.1 w.2.1 w.2.2).length ≤ 40) then doL (writeS l w.1 w.2.1 w.2.2) ws else none else none
def doS (l : List (ByteArray × List Int)) (ws : List (ByteArray × Bool × List Int)) : List (ByteArray × List Int) := bif storeP l then (doL l ws).getD [] else []
theorem writeS_val (k : ByteArray) (d : Bool) (v : List Int) (B : Nat) (hv : v.length ≤ B) (l : List (ByteArray × List Int)) (h : ∀ x ∈ l, x.2.length ≤ B) : ∀ x ∈ writeS l k d v, x.2.length ≤ B := by
  have := wr_val k d v B hv l d h
  unfold writeS
  cases (wr k d v d l).2
  · intro x hx
    simp only [cond_false, List.mem_append, List.mem_cons, List.not_mem_nil, or_false] at hx
    rcases hx with hx | rfl
    · exact this x hx
    · exact hv
  · exact this
theorem doL_small (B : Nat) : ∀ (ws : List (ByteArray × Bool × List Int)) (l r : List (ByteArray × List Int)), l.length ≤ 40 → (∀ x ∈ l, x.2.length ≤ B) → (∀ w ∈ ws, w.2.2.length ≤ B) → doL l ws = some r → r.length ≤ 40 ∧ ∀ x ∈ r, x.2.length ≤ B
  | [], l, r, h1, h2, _, h => by simp only [doL, Option.some.injEq] at h; subst h; exact ⟨h1, h2⟩
  | w :: ws, l, r, h1, h2, h3, h => by
    simp only [doL] at h
    cases hw : wrtP w.1 w.2.1 w.2.2
    · rw [hw] at h; cases h
    · rw [hw, cond_true] at h
      by_cases hl : (writeS l w.1 w.2.1 w.2.2).length ≤ 40
      · rw [decide_eq_true hl, cond_true] at h
        exact doL_small B ws _ r hl (writeS_val _ _ _ B (h3 w List.mem_cons_self) l h2) (fun x hx => h3 x (List.mem_cons_of_mem _ hx)) h
      · rw [decide_eq_false hl] at h; cases h
theorem doS_small (B : Nat) (l : List (ByteArray × List Int)) (ws : List (ByteArray × Bool × List Int)) (h2 : ∀ x ∈ l, x.2.length ≤ B) (h3 : ∀ w ∈ ws, w.2.2.length ≤ B) : (doS l ws).length ≤ 40 ∧ ∀ x ∈ doS l ws, x.2.length ≤ B := by
  unfold doS
  cases hs : storeP l
  · simp
  · rw [cond_true]
    have h1 : l.length ≤ 40 := by
      simp only [storeP, Bool.and_eq_true, decide_eq_true_eq] at hs
      exact hs.1
    cases hd : doL l ws with
    | none => simp
    | some r => exact doL_small B ws l r h1 h2 h3 hd
theorem s_StoDo_f (l : List (ByteArray × List Int)) (ws : List (ByteArray × Bool × List Int)) (hl : l.length ≤ 1048576) (hit : ∀ x ∈ l, x.2.length ≤ 1048576) (hw : ws.length ≤ 1048576) (hws : ∀ w ∈ ws, w.2.2.length ≤ 1048576) : g_As_StoDo l ws = true ∧ g_Vs_StoDo_0 l ws = doS l ws := by
  obtain ⟨a1, a2⟩ := s_StoOk_f l hl hit
  obtain ⟨c1, c2⟩ := l1Copy_f l hl hit
  unfold g_As_StoDo g_Vs_StoDo_0 doS
  rw [a1, a2, c1, c2]
  cases hs : storeP l
  · simp
  · have h1 : l.length ≤ 40 := by
      simp only [storeP, Bool.and_eq_true, decide_eq_true_eq] at hs
      exact hs.1
    have L : ∃ r, g_Ls_StoDo_0 ws [] (0, l) = some r ∧ match r with
        | .inl p => p.1 = [] ∧ doL l ws = none
        | .inr p => doL l ws = some p := by
      refine loop_inv (step := g_Ss_StoDo_0 ws []) (fun x => 0 ≤ x.1 ∧ x.1.toNat ≤ ws.length ∧ x.2.length ≤ 40 ∧ (∀ y ∈ x.2, y.2.length ≤ 1048576) ∧ doL x.2 (ws.drop x.1.toNat) = doL l ws) _ (fun x => ws.length - x.1.toNat) ?_ _ ⟨by simp, by simp, h1, hit, by simp⟩
      rintro ⟨i, y⟩ ⟨i1, i2, i3, i4, i5⟩
      simp only at i1 i2 i3 i4 i5
      by_cases hk : i < (ws.length : Int)
      · have hn : i.toNat < ws.length := by omega
        rw [List.drop_eq_getElem_cons hn] at i5
        have hv := hws _ (List.getElem_mem hn)
        have e1 : (i + 1).toNat = i.toNat + 1 := by omega
        have hat : at_ (.pair .str (.pair .bool (.sl 3 (.int .i64)))) ws i.toNat = ws[i.toNat] := at_eq (e := .pair .str (.pair .bool (.sl 3 (.int .i64)))) hn
        generalize hw : ws[i.toNat] = w at hv i5 hat
        obtain ⟨q1, q2⟩ := s_WrtOk_f w.1 w.2.1 w.2.2 hv
        obtain ⟨p1, p2⟩ := l1Write_f y w.1 w.2.1 w.2.2 (by omega) hv
        have hl := fun h2 => writeS_val w.1 w.2.1 w.2.2 1048576 hv y h2
        have sel : (g_Ss_StoDo_0 ws [] (i, y)).sel = bif wrtP w.1 w.2.1 w.2.2 then bif decide ((writeS y w.1 w.2.1 w.2.2).length ≤ 40) then .go (i + 1, writeS y w.1 w.2.1 w.2.2) else .out (.inl ([], writeS y w.1 w.2.1 w.2.2)) else .out (.inl ([], y)) := by
          simp only [g_Ss_StoDo_0, RT.sel, hk, i1, and_self, decide_true, cond_true, hat, q1, q2, p1, p2, wrap64 (x := i + 1) (by omega)]
          cases wrtP w.1 w.2.1 w.2.2
          · rfl
          · by_cases hc : (writeS y w.1 w.2.1 w.2.2).length ≤ 40
            · simp only [Bool.not_true, cond_false, cond_true, decide_eq_true hc, decide_eq_false (show ¬ ((writeS y w.1 w.2.1 w.2.2).length : Int) > 40 by omega)]
            · simp only [Bool.not_true, cond_false, cond_true, decide_eq_false hc, decide_eq_true (show ((writeS y w.1 w.2.1 w.2.2).length : Int) > 40 by omega)]
        simp only [doL] at i5
        cases hp : wrtP w.1 w.2.1 w.2.2
        · rw [hp, cond_false] at sel i5
          exact .inr ⟨_, sel, rfl, i5.symm⟩
        · rw [hp, cond_true] at sel i5
          by_cases hc : (writeS y w.1 w.2.1 w.2.2).length ≤ 40
          · rw [decide_eq_true hc, cond_true] at sel i5
            refine .inl ⟨_, sel, ⟨by simp only; omega, by simp only; omega, hc, hl i4, ?_⟩, by simp only; omega⟩
            simp only [e1]
            exact i5
          · rw [decide_eq_false hc, cond_false] at sel i5
            exact .inr ⟨_, sel, rfl, i5.symm⟩
      · refine .inr ⟨.inr y, ?_, ?_⟩
        · simp only [g_Ss_StoDo_0, RT.sel, hk, decide_false, cond_true, cond_false]
        · rw [List.drop_of_length_le (by omega)] at i5
          simp only [doL] at i5
          exact i5.symm
    obtain ⟨r, h2, h3⟩ := L
    rw [h2]
    match r, h3 with
    | .inl p, h3 => simp [okO, valO, isL, getL, h3.1, h3.2]
    | .inr p, h3 =>
      have hsm := doL_small 1048576 ws l p h1 hit hws h3
      obtain ⟨d1, d2⟩ := l1Copy_f p (by omega) hsm.2
      simp [okO, valO, isL, getR, h3, d1, d2]
end Go.Proofs.YtjoggjjjlafdmaaDoor.E
end
section
namespace Go.Proofs.YtjoggjjjlafdmaaDoor.E
open Go
abbrev Item : Type := ByteArray × List Int
abbrev Wrt : Type := ByteArray × Bool × List Int
/-- Names rise. -/
def Lt (a b : ByteArray) : Prop := Op.bytesLess a.toList b.toList = true
def Srt (l : List Item) : Prop := l.Pairwise fun a b => Lt a.1 b.1
instance (a b : ByteArray) : Decidable (Lt a b) := by unfold Lt; infer_instance
theorem toList_inj {a b : ByteArray} (h : a.toList = b.toList) : a = b := by
  rw [ByteArray.toList_eq, ByteArray.toList_eq] at h
  cases a; cases b
  congr
  exact Array.toList_inj.1 h
theorem lt_irrefl (a : ByteArray) : ¬ Lt a a := by unfold Lt; rw [less_irrefl]; simp
theorem lt_trans {a b c : ByteArray} (h1 : Lt a b) (h2 : Lt b c) : Lt a c := less_trans _ _ _ h1 h2
theorem lt_asymm {a b : ByteArray} (h1 : Lt a b) (h2 : Lt b a) : False := lt_irrefl a (lt_trans h1 h2)
theorem lt_tri (a b : ByteArray) : Lt a b ∨ a = b ∨ Lt b a := by
  have h := leq_not a.toList b.toList
  unfold Lt
  cases h1 : Op.bytesLess a.toList b.toList
  · rw [h1, Bool.false_or] at h
    cases h2 : Op.bytesLess b.toList a.toList
    · rw [h2] at h
      exact .inr (.inl (toList_inj (by simpa using h)))
    · exact .inr (.inr rfl)
  · exact .inl rfl
theorem lt_ne {a b : ByteArray} (h : Lt a b) : a ≠ b := fun e => by subst e; exact lt_irrefl _ h
theorem beq_list (a b : ByteArray) : (a.toList == b.toList) = decide (a = b) := by
  rw [Bool.eq_iff_iff, beq_iff_eq, decide_eq_true_eq]
  exact ⟨toList_inj, fun e => by rw [e]⟩
theorem less_dec {a b : ByteArray} : Lt a b → Op.bytesLess a.toList b.toList = true := id
theorem less_not {a b : ByteArray} (h : ¬ Lt a b) : Op.bytesLess a.toList b.toList = false := by
  unfold Lt at h; simpa using h
def okI' (x : Item) : Bool := keyP x.1 && valP x.2
theorem storeP_iff (l : List Item) : storeP l = true ↔ l.length ≤ 40 ∧ (∀ x ∈ l, okI' x = true) ∧ Srt l := by
  constructor
  · intro h
    have h' := h
    simp only [storeP, Bool.and_eq_true, decide_eq_true_eq, List.all_eq_true, itemP] at h
    refine ⟨h.1, fun x hx => ?_, ?_⟩
    · obtain ⟨i, hi, rfl⟩ := List.getElem_of_mem hx
      have := h.2 i (List.mem_range.2 hi)
      rw [at_eq (e := TI_) hi] at this
      simp [okI', this.1, this.2.1]
    · unfold Srt
      rw [List.pairwise_iff_getElem]
      intro i j hi hj hij
      have := rises_lt h' (j - i - 1) i (by omega)
      rw [show i + (j - i - 1 + 1) = j by omega, at_eq (e := TI_) hi, at_eq (e := TI_) hj] at this
      exact this
  · rintro ⟨h1, h2, h3⟩
    simp only [storeP, Bool.and_eq_true, decide_eq_true_eq, List.all_eq_true, itemP]
    refine ⟨h1, fun i hi => ?_⟩
    have hi := List.mem_range.1 hi
    have a := h2 _ (List.getElem_mem hi)
    rw [at_eq (e := TI_) hi]
    simp only [okI', Bool.and_eq_true] at a
    refine ⟨a.1, a.2, ?_⟩
    unfold risesP
    by_cases e : i = 0
    · simp [e]
    · have := (List.pairwise_iff_getElem.1 h3) (i - 1) i (by omega) hi (by omega)
      rw [at_eq (e := TI_) hi, at_eq (e := TI_) (show i - 1 < l.length by omega)]
      unfold Lt at this
      simp only [this, Bool.or_true]
theorem srt_tail {x : Item} {l : List Item} (h : Srt (x :: l)) : Srt l ∧ ∀ y ∈ l, Lt x.1 y.1 := by
  unfold Srt at h
  rw [List.pairwise_cons] at h
  exact ⟨h.2, h.1⟩
/-! writeS, along a list that rises -/
theorem wr_true (k : ByteArray) (d : Bool) (v : List Int) : ∀ r : List Item, (∀ x ∈ r, Lt k x.1) → wr k d v true r = (r, true)
  | [], _ => rfl
  | it :: r, h => by
    have h1 := h it List.mem_cons_self
    have ih := wr_true k d v r (fun x hx => h x (List.mem_cons_of_mem _ hx))
    have e : (it.1.toList == k.toList) = false := by rw [beq_list]; exact decide_eq_false fun e => lt_ne h1 e.symm
    simp only [wr, e, Bool.not_true, Bool.false_and, Bool.or_false, ih, cond_false, List.nil_append]
theorem writeS_nil (k : ByteArray) (d : Bool) (v : List Int) : writeS [] k d v = bif d then [] else [(k, v)] := by
  cases d <;> rfl
theorem writeS_lt {k : ByteArray} {it : Item} (h : Lt it.1 k) (d : Bool) (v : List Int) (r : List Item) : writeS (it :: r) k d v = it :: writeS r k d v := by
  have e : (it.1.toList == k.toList) = false := by rw [beq_list]; exact decide_eq_false (lt_ne h)
  have e2 : Op.bytesLess k.toList it.1.toList = false := less_not fun h2 => lt_asymm h h2
  simp only [writeS, wr, e, e2, Bool.and_false, Bool.or_false, cond_false, List.nil_append]
  cases (wr k d v d r).2 <;> rfl
theorem writeS_eq {k : ByteArray} {it : Item} (h : it.1 = k) (d : Bool) (v : List Int) (r : List Item) (hr : ∀ x ∈ r, Lt k x.1) : writeS (it :: r) k d v = bif d then r else (k, v) :: r := by
  have e : (it.1.toList == k.toList) = true := by rw [h]; simp
  have e2 : Op.bytesLess k.toList it.1.toList = false := by rw [h]; exact less_irrefl _
  cases d
  · simp only [writeS, wr, e, e2, Bool.and_false, Bool.or_false, cond_false, cond_true, List.nil_append, Bool.not_false, wr_true k false v r hr]
  · simp only [writeS, wr, e, e2, Bool.and_false, Bool.or_false, cond_false, cond_true, List.nil_append, Bool.not_true, wr_true k true v r hr]
theorem writeS_gt {k : ByteArray} {it : Item} (h : Lt k it.1) (d : Bool) (v : List Int) (r : List Item) (hr : ∀ x ∈ r, Lt k x.1) : writeS (it :: r) k d v = bif d then it :: r else (k, v) :: it :: r := by
  have e : (it.1.toList == k.toList) = false := by rw [beq_list]; exact decide_eq_false fun e => lt_ne h e.symm
  have e2 : Op.bytesLess k.toList it.1.toList = true := h
  cases d
  · simp only [writeS, wr, e, e2, Bool.not_false, Bool.and_true, Bool.or_true, Bool.true_and, cond_false, cond_true, List.cons_append, List.nil_append, wr_true k false v r hr]
  · simp only [writeS, wr, e, e2, Bool.not_true, Bool.false_and, Bool.or_false, cond_false, cond_true, List.nil_append, wr_true k true v r hr]
theorem writeS_mem {k : ByteArray} (d : Bool) (v : List Int) : ∀ {l : List Item}, Srt l → ∀ x ∈ writeS l k d v, x ∈ l ∨ (d = false ∧ x = (k, v))
  | [], _, x, hx => by
    rw [writeS_nil] at hx
    cases d
    · exact .inr ⟨rfl, by simpa using hx⟩
    · cases hx
  | it :: r, hs, x, hx => by
    obtain ⟨h1, h2⟩ := srt_tail hs
    rcases lt_tri it.1 k with h | h | h
    · rw [writeS_lt h] at hx
      rcases List.mem_cons.1 hx with rfl | hx
      · exact .inl List.mem_cons_self
      · rcases writeS_mem d v h1 x hx with h | h
        · exact .inl (List.mem_cons_of_mem _ h)
        · exact .inr h
    · rw [writeS_eq h d v r (fun y hy => h ▸ h2 y hy)] at hx
      cases d
      · rcases List.mem_cons.1 hx with rfl | hx
        · exact .inr ⟨rfl, rfl⟩
        · exact .inl (List.mem_cons_of_mem _ hx)
      · exact .inl (List.mem_cons_of_mem _ hx)
    · rw [writeS_gt h d v r (fun y hy => lt_trans h (h2 y hy))] at hx
      cases d
      · rcases List.mem_cons.1 hx with rfl | hx
        · exact .inr ⟨rfl, rfl⟩
        · exact .inl hx
      · exact .inl hx
theorem writeS_srt {k : ByteArray} (d : Bool) (v : List Int) : ∀ {l : List Item}, Srt l → Srt (writeS l k d v)
  | [], _ => by rw [writeS_nil]; cases d <;> simp [Srt]
  | it :: r, hs => by
    obtain ⟨h1, h2⟩ := srt_tail hs
    rcases lt_tri it.1 k with h | h | h
    · rw [writeS_lt h]
      refine List.pairwise_cons.2 ⟨fun x hx => ?_, writeS_srt d v h1⟩
      rcases writeS_mem d v h1 x hx with hx | ⟨_, rfl⟩
      · exact h2 x hx
      · exact h
    · rw [writeS_eq h d v r (fun y hy => h ▸ h2 y hy)]
      cases d
      · exact List.pairwise_cons.2 ⟨fun x hx => h ▸ h2 x hx, h1⟩
      · exact h1
    · rw [writeS_gt h d v r (fun y hy => lt_trans h (h2 y hy))]
      cases d
      · refine List.pairwise_cons.2 ⟨fun x hx => ?_, hs⟩
        rcases List.mem_cons.1 hx with rfl | hx
        · exact h
        · exact lt_trans h (h2 x hx)
      · exact hs
theorem writeS_store {l : List Item} (h : storeP l = true) {k : ByteArray} {d : Bool} {v : List Int} (hw : wrtP k d v = true) (hl : (writeS l k d v).length ≤ 40) : storeP (writeS l k d v) = true := by
  rw [storeP_iff] at h ⊢
  refine ⟨hl, fun x hx => ?_, writeS_srt d v h.2.2⟩
  rcases writeS_mem d v h.2.2 x hx with hx | ⟨rfl, rfl⟩
  · exact h.2.1 x hx
  · simpa [wrtP, okI'] using hw
theorem doL_store : ∀ (ws : List Wrt) (l r : List Item), storeP l = true → doL l ws = some r → storeP r = true
  | [], l, r, h, e => by simp only [doL, Option.some.injEq] at e; subst e; exact h
  | w :: ws, l, r, h, e => by
    simp only [doL] at e
    cases hw : wrtP w.1 w.2.1 w.2.2
    · rw [hw] at e; cases e
    · rw [hw, cond_true] at e
      by_cases hl : (writeS l w.1 w.2.1 w.2.2).length ≤ 40
      · rw [decide_eq_true hl, cond_true] at e
        exact doL_store ws _ r (writeS_store h hw hl) e
      · rw [decide_eq_false hl] at e; cases e
theorem storeP_nil : storeP [] = true := by decide
theorem doS_store (l : List Item) (ws : List Wrt) : storeP (doS l ws) = true := by
  unfold doS
  cases h : storeP l
  · exact storeP_nil
  · rw [cond_true]
    cases e : doL l ws with
    | none => exact storeP_nil
    | some r => exact doL_store ws l r h e
/-! what a name has behind it -/
theorem getP_nil (key : ByteArray) : getP [] key = none := rfl
theorem getP_cons (it : Item) (l : List Item) (key : ByteArray) : getP (it :: l) key = bif decide (it.1 = key) then some it.2 else getP l key := by
  unfold getP
  rw [List.find?_cons, beq_list]
  cases decide (it.1 = key) <;> rfl
theorem getP_gt {key : ByteArray} : ∀ {l : List Item}, (∀ x ∈ l, Lt key x.1) → getP l key = none
  | [], _ => rfl
  | it :: l, h => by
    rw [getP_cons, decide_eq_false fun e => lt_ne (h it List.mem_cons_self) e.symm, cond_false]
    exact getP_gt fun x hx => h x (List.mem_cons_of_mem _ hx)
theorem getP_write {k : ByteArray} (d : Bool) (v : List Int) (key : ByteArray) : ∀ {l : List Item}, Srt l → getP (writeS l k d v) key = bif decide (k = key) then (bif d then none else some v) else getP l key
  | [], _ => by
    rw [writeS_nil]
    cases d
    · rw [cond_false, getP_cons]; rfl
    · cases decide (k = key) <;> rfl
  | it :: r, hs => by
    obtain ⟨h1, h2⟩ := srt_tail hs
    rcases lt_tri it.1 k with h | h | h
    · rw [writeS_lt h, getP_cons, getP_cons, getP_write d v key h1]
      by_cases e : k = key
      · subst e
        rw [decide_eq_true rfl, decide_eq_false (lt_ne h)]
        rfl
      · rw [decide_eq_false e]
        rfl
    · rw [writeS_eq h d v r (fun y hy => h ▸ h2 y hy), getP_cons, h]
      cases d
      · rw [cond_false, getP_cons]
        cases decide (k = key) <;> rfl
      · rw [cond_true]
        by_cases e : k = key
        · subst e
          rw [decide_eq_true rfl]
          exact getP_gt fun y hy => h ▸ h2 y hy
        · rw [decide_eq_false e]; rfl
    · rw [writeS_gt h d v r (fun y hy => lt_trans h (h2 y hy))]
      cases d
      · rw [cond_false, getP_cons]; rfl
      · rw [cond_true]
        by_cases e : k = key
        · subst e
          rw [decide_eq_true rfl, cond_true, getP_gt]
          · rfl
          · intro x hx
            rcases List.mem_cons.1 hx with rfl | hx
            · exact h
            · exact lt_trans h (h2 x hx)
        · rw [decide_eq_false e]; rfl
/-- Stores that rise are told by what their names have. -/
theorem srt_ext : ∀ {l m : List Item}, Srt l → Srt m → (∀ key, getP l key = getP m key) → l = m
  | [], [], _, _, _ => rfl
  | [], y :: m, _, _, h => by have := h y.1; rw [getP_nil, getP_cons, decide_eq_true rfl] at this; cases this
  | x :: l, [], _, _, h => by have := h x.1; rw [getP_nil, getP_cons, decide_eq_true rfl] at this; cases this
  | x :: l, y :: m, h1, h2, h => by
    obtain ⟨a1, a2⟩ := srt_tail h1
    obtain ⟨b1, b2⟩ := srt_tail h2
    have hxy : x.1 = y.1 := by
      rcases lt_tri x.1 y.1 with e | e | e
      · have := h x.1
        rw [getP_cons, decide_eq_true rfl, cond_true, getP_gt (l := y :: m)] at this
        · cases this
        · intro z hz
          rcases List.mem_cons.1 hz with rfl | hz
          · exact e
          · exact lt_trans e (b2 z hz)
      · exact e
      · have := h y.1
        rw [getP_cons y m, decide_eq_true rfl, cond_true, getP_gt (l := x :: l)] at this
        · cases this
        · intro z hz
          rcases List.mem_cons.1 hz with rfl | hz
          · exact e
          · exact lt_trans e (a2 z hz)
    have hv : x.2 = y.2 := by
      have := h x.1
      rw [getP_cons, getP_cons, decide_eq_true rfl, hxy, decide_eq_true rfl, cond_true, cond_true] at this
      exact Option.some.inj this
    have e : x = y := Prod.ext hxy hv
    subst e
    rw [srt_ext a1 b1 fun key => ?_]
    by_cases e : x.1 = key
    · subst e
      rw [getP_gt a2, getP_gt b2]
    · have := h key
      rwa [getP_cons, getP_cons, decide_eq_false e, cond_false, cond_false] at this
/-! by places, as the program does it -/
theorem posP_cons (it : Item) (l : List Item) (key : ByteArray) : posP (it :: l) key = if Lt it.1 key then posP l key + 1 else 0 := by
  unfold posP
  by_cases h : Lt it.1 key
  · rw [if_pos h, List.takeWhile_cons_of_pos (p := fun x : Item => Op.bytesLess x.1.toList key.toList) h]; rfl
  · rw [if_neg h, List.takeWhile_cons_of_neg (p := fun x : Item => Op.bytesLess x.1.toList key.toList) (by simp only [less_not h]; simp)]; rfl
def putP (l : List Item) (k : ByteArray) (d : Bool) (v : List Int) : List Item :=
  if (getP l k).isSome then (bif d then l.eraseIdx (posP l k) else l.set (posP l k) (k, v)) else bif d then l else l.take (posP l k) ++ (k, v) :: l.drop (posP l k)
theorem write_put (k : ByteArray) (d : Bool) (v : List Int) : ∀ {l : List Item}, Srt l → writeS l k d v = putP l k d v
  | [], _ => by rw [writeS_nil]; cases d <;> rfl
  | it :: r, hs => by
    obtain ⟨h1, h2⟩ := srt_tail hs
    rcases lt_tri it.1 k with h | h | h
    · rw [writeS_lt h, write_put k d v h1]
      unfold putP
      rw [getP_cons, decide_eq_false (lt_ne h), cond_false, posP_cons, if_pos h]
      split
      · cases d <;> rfl
      · cases d
        · simp
        · rfl
    · rw [writeS_eq h d v r (fun y hy => h ▸ h2 y hy)]
      unfold putP
      rw [getP_cons, decide_eq_true h, cond_true, if_pos (show (some it.2).isSome = true from rfl), posP_cons, if_neg (by rw [h]; exact lt_irrefl k)]
      cases d <;> simp
    · rw [writeS_gt h d v r (fun y hy => lt_trans h (h2 y hy))]
      unfold putP
      rw [getP_gt, posP_cons, if_neg (fun h2 => lt_asymm h h2)]
      · cases d <;> simp
      · intro x hx
        rcases List.mem_cons.1 hx with rfl | hx
        · exact h
        · exact lt_trans h (h2 x hx)
end Go.Proofs.YtjoggjjjlafdmaaDoor.E
end
section
namespace Go.Proofs.YtjoggjjjlafdmaaDoor.E
open Go
/-! what stands behind some writes -/
/-- What is written last of a name. -/
def lastW : List Wrt → ByteArray → Option Wrt
  | [], _ => none
  | w :: ws, key => match lastW ws key with
    | some x => some x
    | none => bif decide (w.1 = key) then some w else none
/-- What a name has behind a write. -/
def afterW (o : Option Wrt) (v : Option (List Int)) : Option (List Int) := match o with
  | none => v
  | some w => bif w.2.1 then none else some w.2.2
theorem lastW_app (key : ByteArray) : ∀ (a b : List Wrt), lastW (a ++ b) key = match lastW b key with | some x => some x | none => lastW a key
  | [], b => by
    show lastW b key = _
    cases lastW b key <;> rfl
  | w :: a, b => by
    show (match lastW (a ++ b) key with | some x => some x | none => bif decide (w.1 = key) then some w else none) = _
    rw [lastW_app key a b]
    cases lastW b key <;> rfl
theorem lastW_none (key : ByteArray) : ∀ {ws : List Wrt}, (∀ w ∈ ws, w.1 ≠ key) → lastW ws key = none
  | [], _ => rfl
  | w :: ws, h => by
    simp only [lastW, lastW_none key (fun x hx => h x (List.mem_cons_of_mem _ hx)), decide_eq_false (h w List.mem_cons_self), cond_false]
theorem lastW_key {key : ByteArray} : ∀ {ws : List Wrt} {w : Wrt}, lastW ws key = some w → w.1 = key ∧ w ∈ ws
  | [], _, h => by cases h
  | x :: ws, w, h => by
    simp only [lastW] at h
    cases e : lastW ws key with
    | some y =>
      rw [e] at h
      cases h
      have := lastW_key e
      exact ⟨this.1, List.mem_cons_of_mem _ this.2⟩
    | none =>
      rw [e] at h
      by_cases hx : x.1 = key
      · rw [decide_eq_true hx] at h
        cases h
        exact ⟨hx, List.mem_cons_self⟩
      · rw [decide_eq_false hx] at h; cases h
theorem lastW_last {ws : List Wrt} {k : Nat} (hk : k < ws.length) (h : ∀ j (hj : j < ws.length), k < j → ws[j].1 ≠ ws[k].1) : lastW ws ws[k].1 = some ws[k] := by
  have e : ws = ws.take k ++ ws[k] :: ws.drop (k + 1) := by rw [List.getElem_cons_drop_succ_eq_drop hk, List.take_append_drop]
  have h2 : lastW (ws.drop (k + 1)) ws[k].1 = none := by
    refine lastW_none _ fun w hw => ?_
    obtain ⟨j, hj, rfl⟩ := List.getElem_of_mem hw
    rw [List.length_drop] at hj
    rw [List.getElem_drop]
    exact h _ _ (by omega)
  generalize hx : ws[k] = x at h2
  rw [hx] at e
  rw [e, lastW_app]
  simp only [lastW, h2, decide_true, cond_true]
theorem getP_doL (key : ByteArray) : ∀ {ws : List Wrt} {l r : List Item}, Srt l → doL l ws = some r → getP r key = afterW (lastW ws key) (getP l key)
  | [], l, r, _, e => by simp only [doL, Option.some.injEq] at e; subst e; rfl
  | w :: ws, l, r, h, e => by
    simp only [doL] at e
    cases hw : wrtP w.1 w.2.1 w.2.2
    · rw [hw] at e; cases e
    · rw [hw, cond_true] at e
      by_cases hl : (writeS l w.1 w.2.1 w.2.2).length ≤ 40
      · rw [decide_eq_true hl, cond_true] at e
        rw [getP_doL key (writeS_srt w.2.1 w.2.2 h) e, getP_write w.2.1 w.2.2 key h]
        simp only [lastW]
        cases lastW ws key with
        | some x => rfl
        | none => cases decide (w.1 = key) <;> rfl
      · rw [decide_eq_false hl] at e; cases e
theorem doL_srt {ws : List Wrt} {l r : List Item} (h : storeP l = true) (e : doL l ws = some r) : Srt r := ((storeP_iff r).1 (doL_store ws l r h e)).2.2
theorem writeS_length {k : ByteArray} (d : Bool) (v : List Int) : ∀ {l : List Item}, Srt l → (writeS l k d v).length + (bif (getP l k).isSome then 1 else 0) = l.length + (bif d then 0 else 1)
  | [], _ => by rw [writeS_nil]; cases d <;> rfl
  | it :: r, hs => by
    obtain ⟨h1, h2⟩ := srt_tail hs
    rcases lt_tri it.1 k with h | h | h
    · have := writeS_length d v h1 (k := k)
      rw [writeS_lt h, getP_cons, decide_eq_false (lt_ne h), cond_false, List.length_cons, List.length_cons]
      omega
    · rw [writeS_eq h d v r (fun y hy => h ▸ h2 y hy), getP_cons, decide_eq_true h]
      cases d <;> simp
    · rw [writeS_gt h d v r (fun y hy => lt_trans h (h2 y hy)), getP_gt]
      · cases d <;> simp
      · intro x hx
        rcases List.mem_cons.1 hx with rfl | hx
        · exact h
        · exact lt_trans h (h2 x hx)
theorem writeS_le {k : ByteArray} (d : Bool) (v : List Int) {l : List Item} (h : Srt l) : (writeS l k d v).length ≤ l.length + 1 := by
  have := writeS_length d v h (k := k)
  cases d <;> simp only [cond_true, cond_false] at this <;> omega
/-- There is room. -/
theorem doL_room : ∀ {ws : List Wrt} {l : List Item}, Srt l → l.length + ws.length ≤ 40 → (∀ w ∈ ws, wrtP w.1 w.2.1 w.2.2 = true) → ∃ r, doL l ws = some r ∧ r.length ≤ l.length + ws.length
  | [], l, _, _, _ => ⟨l, rfl, by simp⟩
  | w :: ws, l, h, hl, hw => by
    have h1 := writeS_le w.2.1 w.2.2 h (k := w.1)
    simp only [List.length_cons] at hl
    obtain ⟨r, e1, e2⟩ := doL_room (ws := ws) (writeS_srt (k := w.1) w.2.1 w.2.2 h) (by omega) (fun x hx => hw x (List.mem_cons_of_mem _ hx))
    refine ⟨r, ?_, by simp only [List.length_cons]; omega⟩
    simp only [doL, hw w List.mem_cons_self, cond_true, decide_eq_true (show (writeS l w.1 w.2.1 w.2.2).length ≤ 40 by omega), e1]
theorem doL_bad : ∀ {ws : List Wrt} {l : List Item}, (∃ w ∈ ws, wrtP w.1 w.2.1 w.2.2 = false) → doL l ws = none
  | [], _, h => by obtain ⟨_, h, _⟩ := h; cases h
  | w :: ws, l, h => by
    simp only [doL]
    cases hw : wrtP w.1 w.2.1 w.2.2
    · rfl
    · have : ∃ w ∈ ws, wrtP w.1 w.2.1 w.2.2 = false := by
        obtain ⟨x, hx, e⟩ := h
        rcases List.mem_cons.1 hx with rfl | hx
        · rw [hw] at e; cases e
        · exact ⟨x, hx, e⟩
      rw [doL_bad this]
      cases decide ((writeS l w.1 w.2.1 w.2.2).length ≤ 40) <;> rfl
theorem doL_app : ∀ (a b : List Wrt) (l : List Item), doL l (a ++ b) = (doL l a).bind fun r => doL r b
  | [], _, _ => rfl
  | w :: a, b, l => by
    simp only [List.cons_append, doL, doL_app a b]
    cases wrtP w.1 w.2.1 w.2.2 <;> cases decide ((writeS l w.1 w.2.1 w.2.2).length ≤ 40) <;> rfl
theorem doS_of {l : List Item} {ws : List Wrt} (h : storeP l = true) : doS l ws = (doL l ws).getD [] := by unfold doS; rw [h]; rfl
theorem doS_bad {l : List Item} {ws : List Wrt} (h : ∃ w ∈ ws, wrtP w.1 w.2.1 w.2.2 = false) : doS l ws = [] := by
  unfold doS
  rw [doL_bad h]
  cases storeP l <;> rfl
end Go.Proofs.YtjoggjjjlafdmaaDoor.E
end
section
namespace Go.Proofs.YtjoggjjjlafdmaaDoor.E
open Go
set_option maxHeartbeats 4000000
theorem cmp_lt (a b : ByteArray) : decide (g_compare a b < 0) = Op.bytesLess a.toList b.toList := by
  rw [ByteArray.toList_eq, ByteArray.toList_eq]
  exact compare_lt _ _
theorem cmp_eq (a b : ByteArray) : (g_compare a b == 0) = (a.toList == b.toList) := by
  rw [ByteArray.toList_eq, ByteArray.toList_eq]
  exact compare_eq _ _
theorem half_f (i j : Int) (h : 0 ≤ i ∧ 0 ≤ j ∧ i ≤ 100000 ∧ j ≤ 100000) : IntKind.wrap .i64 (Int.fdiv (IntKind.wrap .u64 (IntKind.wrap .i64 (i + j))) 2) = (i + j) / 2 := by
  have u : IntKind.wrap .u64 (i + j) = i + j := by
    simp only [IntKind.wrap, IntKind.bits, IntKind.signed]
    simp
    omega
  rw [wrap64 (x := i + j) (by omega), u, Int.fdiv_eq_ediv_of_nonneg _ (by decide), wrap64 (by omega)]
/-- Looking for a name by halves: its place. -/
theorem search_f (l : List (ByteArray × List Int)) (key : ByteArray) (n : Int) (h : storeP l = true) : g_Lslices_BinarySearchFunc_i_StoItem_i_StoItem_string__i_StoStore_find_1_0 l key n (0, (l.length : Int)) = some (posP l key : Int) := by
  have hl : l.length ≤ 40 := by
    simp only [storeP, Bool.and_eq_true, decide_eq_true_eq] at h
    exact h.1
  have hp := pos_le l key
  obtain ⟨r, h1, h2⟩ := loop_inv (step := g_Sslices_BinarySearchFunc_i_StoItem_i_StoItem_string__i_StoStore_find_1_0 l key n) (fun x => 0 ≤ x.1 ∧ x.1 ≤ posP l key ∧ (posP l key : Int) ≤ x.2 ∧ x.2 ≤ l.length) (fun r => r = (posP l key : Int)) (fun x => (x.2 - x.1).toNat) (fun x hx => by
    obtain ⟨i, j⟩ := x
    obtain ⟨i1, i2, i3, i4⟩ := hx
    simp only at i1 i2 i3 i4
    by_cases hij : i < j
    · have hh : 0 ≤ (i + j) / 2 ∧ (i + j) / 2 < l.length := by omega
      have hm : ((i + j) / 2).toNat < l.length := by omega
      have hlt := pos_lt h key ((i + j) / 2).toNat hm
      have sel : (g_Sslices_BinarySearchFunc_i_StoItem_i_StoItem_string__i_StoStore_find_1_0 l key n (i, j)).sel = bif decide (((i + j) / 2).toNat < posP l key) then .go ((i + j) / 2 + 1, j) else .go (i, (i + j) / 2) := by
        simp only [g_Sslices_BinarySearchFunc_i_StoItem_i_StoItem_string__i_StoStore_find_1_0, RT.sel, cond_true, half_f i j (by omega), hij, hh, decide_true, and_self, cmp_lt]
        rw [hlt, wrap64 (x := (i + j) / 2 + 1) (by omega)]
      by_cases hc : ((i + j) / 2).toNat < posP l key
      · rw [decide_eq_true hc, cond_true] at sel
        refine .inl ⟨_, sel, ⟨by simp only; omega, by simp only; omega, i3, i4⟩, by simp only; omega⟩
      · rw [decide_eq_false hc, cond_false] at sel
        refine .inl ⟨_, sel, ⟨i1, i2, by simp only; omega, by simp only; omega⟩, by simp only; omega⟩
    · refine .inr ⟨i, ?_, by omega⟩
      simp only [g_Sslices_BinarySearchFunc_i_StoItem_i_StoItem_string__i_StoStore_find_1_0, RT.sel, cond_true, hij, decide_false, cond_false]) (0, (l.length : Int)) ⟨by simp, by simp, by simp only; omega, by simp⟩
  rw [← h2]
  exact h1
/-- Is a name there. -/
def thereP (l : List (ByteArray × List Int)) (key : ByteArray) : Bool := decide (posP l key < l.length) && (at_ TI_ l (posP l key)).1.toList == key.toList
theorem find_f (l : List (ByteArray × List Int)) (key : ByteArray) (h : storeP l = true) : g_Ai_StoStore_find l key = true ∧ g_Vslices_BinarySearchFunc_i_StoItem_i_StoItem_string__i_StoStore_find_1_0 l key = (posP l key : Int) ∧ g_Vslices_BinarySearchFunc_i_StoItem_i_StoItem_string__i_StoStore_find_1_1 l key = thereP l key := by
  have hs := search_f l key (l.length : Int) h
  refine ⟨?_, ?_, ?_⟩
  · simp only [g_Ai_StoStore_find, g_Aslices_BinarySearchFunc_i_StoItem_i_StoItem_string__i_StoStore_find_1, hs, okO, valO, Option.isSome_some, Option.getD_some, Bool.true_and, Bool.and_true]
    by_cases hp : (posP l key : Int) < (l.length : Int)
    · have h0 : (0 : Int) ≤ (posP l key : Int) := by omega
      simp [hp, h0]
    · simp [hp]
  · simp only [g_Vslices_BinarySearchFunc_i_StoItem_i_StoItem_string__i_StoStore_find_1_0, hs, valO, Option.getD_some, Bool.cond_self]
  · simp only [g_Vslices_BinarySearchFunc_i_StoItem_i_StoItem_string__i_StoStore_find_1_1, hs, valO, Option.getD_some, cmp_eq, thereP, Int.toNat_natCast, cond_f']
    rw [show decide ((posP l key : Int) < (l.length : Int)) = decide (posP l key < l.length) from decide_eq_decide.2 (by omega)]
theorem get_there {l : List (ByteArray × List Int)} (h : storeP l = true) (key : ByteArray) : getP l key = bif thereP l key then some (at_ TI_ l (posP l key)).2 else none := by
  rw [get_pos h key]
  unfold thereP
  by_cases h1 : posP l key < l.length
  · by_cases h2 : (at_ TI_ l (posP l key)).1.toList = key.toList
    · rw [if_pos ⟨h1, h2⟩, decide_eq_true h1, Bool.true_and, h2, BEq.rfl, cond_true]
    · rw [if_neg (fun h => h2 h.2), decide_eq_true h1, Bool.true_and, beq_eq_false_iff_ne.2 h2, cond_false]
  · rw [if_neg (fun h => h1 h.1), decide_eq_false h1, Bool.false_and, cond_false]
theorem get_val {l : List (ByteArray × List Int)} (h : storeP l = true) {key : ByteArray} {v : List Int} (hg : getP l key = some v) : 1 ≤ v.length ∧ v.length ≤ 3 := by
  unfold getP at hg
  simp only [storeP, Bool.and_eq_true, List.all_eq_true, itemP, valP, decide_eq_true_eq] at h
  obtain ⟨x, hx, rfl⟩ := Option.map_eq_some_iff.1 hg
  obtain ⟨i, hi, rfl⟩ := List.getElem_of_mem (List.mem_of_find?_eq_some hx)
  have := (h.2 i (List.mem_range.2 hi)).2.1.1
  rw [at_eq (e := TI_) hi] at this
  exact this
theorem sget_f (l : List (ByteArray × List Int)) (key : ByteArray) (h : storeP l = true) : g_Ai_StoStore_get l key = true ∧ g_Vi_StoStore_get_0 l key = (getP l key).isNone ∧ g_Vi_StoStore_get_1 l key = (getP l key).getD [] := by
  obtain ⟨f1, f2, f3⟩ := find_f l key h
  have hg := get_there h key
  have hv := fun v hv => get_val h (key := key) (v := v) hv
  have hlt : thereP l key = true → posP l key < l.length := fun e => by
    unfold thereP at e
    simp only [Bool.and_eq_true, decide_eq_true_eq] at e
    exact e.1
  cases ht : thereP l key
  · rw [ht, cond_false] at hg
    simp [g_Ai_StoStore_get, g_Vi_StoStore_get_0, g_Vi_StoStore_get_1, f1, f2, f3, ht, hg]
  · rw [ht, cond_true] at hg
    have hb := hv _ hg
    have hl := hlt ht
    have h0 : (0 : Int) ≤ (posP l key : Int) ∧ (posP l key : Int) < (l.length : Int) := by omega
    have hc : g_Aslices_Clone_int_int_nz (at_ TI_ l (posP l key)).2 = true := by
      unfold g_Aslices_Clone_int_int_nz
      rw [decide_eq_true (show nat_lit 0 < (at_ TI_ l (posP l key)).2.length from hb.1), decide_eq_true ⟨by have := hb.2; show (0 + _) * 8 ≤ 140737488355328; omega, by have := hb.2; show 0 + _ ≤ 9223372036854775807; omega⟩]
      rfl
    refine ⟨?_, ?_, ?_⟩
    · simp only [g_Ai_StoStore_get, f1, f2, f3, ht, Int.toNat_natCast, decide_eq_true h0, Bool.true_and, Bool.not_true, Bool.false_or]
      exact hc
    · simp [g_Vi_StoStore_get_0, f3, ht, hg]
    · simp only [g_Vi_StoStore_get_1, f2, f3, ht, hg, Int.toNat_natCast, Bool.not_true, cond_false, Option.getD_some]
      rfl
end Go.Proofs.YtjoggjjjlafdmaaDoor.E
end
section
namespace Go.Proofs.YtjoggjjjlafdmaaDoor.E
open Go
set_option maxHeartbeats 4000000
set_option maxRecDepth 100000
theorem i_scopied_f (l : List Item) (hl : l.length ≤ 1048576) (hit : ∀ x ∈ l, x.2.length ≤ 1048576) : g_Ai_StoStore_copied l = true ∧ g_Vi_StoStore_copied_0 l = l := by
  have L : g_Li_StoStore_copied_0 l (l.length : Int) [] (0, []) = some (l.map id) := by
    refine loop_app (e := TI_) (step := g_Si_StoStore_copied_0 l (l.length : Int) []) l (fun i r => (i, r)) id id (fun i r hi hr => ?_) (fun r hr => by simp only [g_Si_StoStore_copied_0, RT.sel, cond_true, Int.lt_irrefl, decide_false, cond_false, id])
    have k1 : (i : Int) < l.length := by omega
    have k2 : (0 : Int) ≤ (i : Int) := by omega
    have hx := hit _ (at_mem (e := TI_) hi)
    simp only [g_Si_StoStore_copied_0, RT.sel, cond_true, k1, k2, decide_true, and_self, Int.toNat_natCast, g_Aslices_Clone_int_int_b, id]
    rw [cap0_f _ _ hx (by decide), capF_f _ _ _ (by simp only [List.length_cons, List.length_nil]; omega) (by decide), cond_true, cond_true, wrap64 (x := (i : Int) + 1) (by omega)]
    rfl
  rw [List.map_id] at L
  simp only [g_Ai_StoStore_copied, g_Vi_StoStore_copied_0, L, okO, valO, Option.isSome_some, Option.getD_some, and_self]
theorem i_write_f (l : List Item) (h : storeP l = true) (k : ByteArray) (d : Bool) (v : List Int) (hv : v.length ≤ 1048576) : g_Ai_StoStore_write l k d v = true ∧ g_Vi_StoStore_write_0 l k d v = writeS l k d v := by
  have hl := ((storeP_iff l).1 h).1
  have hs := ((storeP_iff l).1 h).2.2
  obtain ⟨f1, f2, f3⟩ := find_f l k h
  have hp := pos_le l k
  have gt := get_there h k
  have w1 : IntKind.wrap .i64 ((posP l k : Int) + 1) = ((posP l k + 1 : Nat) : Int) := by rw [wrap64 (by omega)]; omega
  have e0 : decide ((0 : Int) ≤ (posP l k : Int) ∧ (posP l k : Int) ≤ (l.length : Int)) = true := decide_eq_true (by omega)
  have cl : g_Aslices_Clone_int_int_b v = true := by
    rw [g_Aslices_Clone_int_int_b]
    exact cap0_f _ _ hv (by decide)
  have ins : g_Aslices_Insert_i_StoItem_i_StoItem l (posP l k : Int) [(k, v)] = true := by
    unfold g_Aslices_Insert_i_StoItem_i_StoItem
    refine decide_eq_true ⟨by omega, by simp, by simp only [List.length_cons, List.length_nil]; omega⟩
  have lt : thereP l k = true → posP l k < l.length := fun e => by
    unfold thereP at e
    simp only [Bool.and_eq_true, decide_eq_true_eq] at e
    exact e.1
  unfold g_Ai_StoStore_write g_Vi_StoStore_write_0
  rw [f1, f2, f3, w1, cl, ins, write_put k d v hs]
  unfold putP
  rw [gt]
  cases ht : thereP l k
  · refine ⟨by cases d <;> rfl, ?_⟩
    cases d
    · simp only [cond_false, Option.isSome_none, if_false, Bool.false_eq_true]
      unfold g_Vslices_Insert_i_StoItem_i_StoItem_0
      rw [Int.toNat_natCast]
      rfl
    · rfl
  · have hlt := lt ht
    have del : g_Aslices_Delete_i_StoItem_i_StoItem l (posP l k : Int) ((posP l k + 1 : Nat) : Int) = true := by
      unfold g_Aslices_Delete_i_StoItem_i_StoItem
      exact decide_eq_true (by omega)
    have d1 : decide ((0 : Int) ≤ (posP l k : Int) ∧ (posP l k : Int) < (l.length : Int)) = true := decide_eq_true (by omega)
    have d2 : decide (Int.toNat (posP l k : Int) < l.length) = true := decide_eq_true (by rw [Int.toNat_natCast]; exact hlt)
    rw [del, d1, d2]
    refine ⟨by cases d <;> rfl, ?_⟩
    cases d
    · simp only [cond_false, cond_true, Option.isSome_some, if_true]
      have hk : (at_ TI_ l (posP l k)).1 = k := by
        unfold thereP at ht
        simp only [Bool.and_eq_true, beq_iff_eq] at ht
        exact toList_inj ht.2
      show l.set (Int.toNat (posP l k : Int)) ((at_ TI_ l (Int.toNat (posP l k : Int))).1, v) = _
      rw [Int.toNat_natCast, hk]
    · simp only [cond_true, Option.isSome_some, if_true]
      unfold g_Vslices_Delete_i_StoItem_i_StoItem_0
      rw [Int.toNat_natCast, Int.toNat_natCast, List.eraseIdx_eq_take_drop_succ]
theorem i_anyBad_f (ws : List Wrt) (hw : ws.length ≤ 1048576) (hws : ∀ w ∈ ws, w.2.2.length ≤ 1048576) : g_Aslices_ContainsFunc_i_StoWrite_i_StoWrite__i_StoDo_1 ws = true ∧ g_Vslices_ContainsFunc_i_StoWrite_i_StoWrite__i_StoDo_1_0 ws = ws.any fun w => !wrtP w.1 w.2.1 w.2.2 := by
  obtain ⟨r, h1, h2⟩ := loop_idx (e := .pair .str (.pair .bool (.sl 3 (.int .i64)))) ws (step := g_Sslices_IndexFunc_i_StoWrite_i_StoWrite__i_StoDo_1_0 ws (ws.length : Int)) (fun w => !wrtP w.1 w.2.1 w.2.2) (fun i hi => by
    have k1 : (i : Int) < ws.length := by omega
    have k2 : (0 : Int) ≤ (i : Int) := by omega
    have hx := hws _ (at_mem (e := .pair .str (.pair .bool (.sl 3 (.int .i64)))) hi)
    obtain ⟨q1, q2⟩ := i_WrtOk_f (at_ (.pair .str (.pair .bool (.sl 3 (.int .i64)))) ws i).1 (at_ (.pair .str (.pair .bool (.sl 3 (.int .i64)))) ws i).2.1 (at_ (.pair .str (.pair .bool (.sl 3 (.int .i64)))) ws i).2.2 hx
    simp only [g_Sslices_IndexFunc_i_StoWrite_i_StoWrite__i_StoDo_1_0, RT.sel, cond_true, k1, k2, decide_true, and_self, Int.toNat_natCast, g_Ai_StoDo_1, q1, q2]
    rw [wrap64 (x := (i : Int) + 1) (by omega)]
    rfl) (by simp only [g_Sslices_IndexFunc_i_StoWrite_i_StoWrite__i_StoDo_1_0, RT.sel, cond_true, Int.lt_irrefl, decide_false, cond_false])
  have h1 : g_Lslices_IndexFunc_i_StoWrite_i_StoWrite__i_StoDo_1_0 ws (ws.length : Int) 0 = some r := h1
  unfold g_Aslices_ContainsFunc_i_StoWrite_i_StoWrite__i_StoDo_1 g_Vslices_ContainsFunc_i_StoWrite_i_StoWrite__i_StoDo_1_0 g_Aslices_IndexFunc_i_StoWrite_i_StoWrite__i_StoDo_1 g_Vslices_IndexFunc_i_StoWrite_i_StoWrite__i_StoDo_1_0
  rw [h1]
  exact ⟨rfl, h2⟩
theorem i_StoDo_f (l : List Item) (ws : List Wrt) (hl : l.length ≤ 1048576) (hit : ∀ x ∈ l, x.2.length ≤ 1048576) (hw : ws.length ≤ 1048576) (hws : ∀ w ∈ ws, w.2.2.length ≤ 1048576) : g_Ai_StoDo l ws = true ∧ g_Vi_StoDo_0 l ws = doS l ws := by
  obtain ⟨a1, a2⟩ := i_StoOk_f l hl hit
  obtain ⟨b1, b2⟩ := i_anyBad_f ws hw hws
  obtain ⟨c1, c2⟩ := i_scopied_f l hl hit
  unfold g_Ai_StoDo g_Vi_StoDo_0
  rw [a1, a2, b1, b2, c1, c2]
  cases hs : storeP l
  · unfold doS; rw [hs]; exact ⟨rfl, rfl⟩
  · cases hb : ws.any fun w => !wrtP w.1 w.2.1 w.2.2
    · have hok : ∀ w ∈ ws, wrtP w.1 w.2.1 w.2.2 = true := by
        intro w hw
        have := (List.any_eq_false.1 hb) w hw
        simpa using this
      rw [doS_of hs]
      have L : ∃ r, g_Li_StoDo_0 ws (ws.length : Int) [] (0, l) = some r ∧ match r with
          | .inl p => p.1 = [] ∧ doL l ws = none
          | .inr p => doL l ws = some p := by
        refine loop_inv (step := g_Si_StoDo_0 ws (ws.length : Int) []) (fun x => 0 ≤ x.1 ∧ x.1.toNat ≤ ws.length ∧ storeP x.2 = true ∧ doL x.2 (ws.drop x.1.toNat) = doL l ws) _ (fun x => ws.length - x.1.toNat) ?_ _ ⟨by simp, by simp, hs, by simp⟩
        rintro ⟨i, y⟩ ⟨i1, i2, i3, i4⟩
        simp only at i1 i2 i3 i4
        by_cases hk : i < (ws.length : Int)
        · have hn : i.toNat < ws.length := by omega
          rw [List.drop_eq_getElem_cons hn] at i4
          have hv := hws _ (List.getElem_mem hn)
          have ho := hok _ (List.getElem_mem hn)
          have e1 : (i + 1).toNat = i.toNat + 1 := by omega
          have hat : at_ (.pair .str (.pair .bool (.sl 3 (.int .i64)))) ws i.toNat = ws[i.toNat] := at_eq (e := .pair .str (.pair .bool (.sl 3 (.int .i64)))) hn
          generalize hw : ws[i.toNat] = w at hv i4 hat ho
          obtain ⟨p1, p2⟩ := i_write_f y i3 w.1 w.2.1 w.2.2 hv
          have sel : (g_Si_StoDo_0 ws (ws.length : Int) [] (i, y)).sel = bif decide ((writeS y w.1 w.2.1 w.2.2).length ≤ 40) then .go (i + 1, writeS y w.1 w.2.1 w.2.2) else .out (.inl ([], writeS y w.1 w.2.1 w.2.2)) := by
            simp only [g_Si_StoDo_0, RT.sel, hk, i1, and_self, decide_true, cond_true, hat, p1, p2, wrap64 (x := i + 1) (by omega)]
            by_cases hc : (writeS y w.1 w.2.1 w.2.2).length ≤ 40
            · simp only [cond_false, cond_true, decide_eq_true hc, decide_eq_false (show ¬ ((writeS y w.1 w.2.1 w.2.2).length : Int) > 40 by omega)]
            · simp only [cond_false, cond_true, decide_eq_false hc, decide_eq_true (show ((writeS y w.1 w.2.1 w.2.2).length : Int) > 40 by omega)]
          simp only [doL, ho, cond_true] at i4
          by_cases hc : (writeS y w.1 w.2.1 w.2.2).length ≤ 40
          · rw [decide_eq_true hc, cond_true] at sel i4
            refine .inl ⟨_, sel, ⟨by simp only; omega, by simp only; omega, writeS_store i3 ho hc, ?_⟩, by simp only; omega⟩
            simp only [e1]
            exact i4
          · rw [decide_eq_false hc, cond_false] at sel i4
            exact .inr ⟨_, sel, rfl, i4.symm⟩
        · refine .inr ⟨.inr y, ?_, ?_⟩
          · simp only [g_Si_StoDo_0, RT.sel, hk, decide_false, cond_true, cond_false]
          · rw [List.drop_of_length_le (by omega)] at i4
            simp only [doL] at i4
            exact i4.symm
      obtain ⟨r, h2, h3⟩ := L
      rw [h2]
      match r, h3 with
      | .inl p, h3 => simp [okO, valO, isL, getL, h3.1, h3.2]
      | .inr p, h3 => simp [okO, valO, isL, getR, h3]
    · obtain ⟨w, hw, e⟩ := List.any_eq_true.1 hb
      rw [doS_bad ⟨w, hw, by simpa using e⟩]
      exact ⟨rfl, rfl⟩
end Go.Proofs.YtjoggjjjlafdmaaDoor.E
end
section
namespace Go.Proofs.YtjoggjjjlafdmaaDoor.E
open Go
set_option maxHeartbeats 4000000
theorem i_StoGet_f (l : List (ByteArray × List Int)) (key : ByteArray) (hl : l.length ≤ 1048576) (hit : ∀ x ∈ l, x.2.length ≤ 1048576) : g_Ai_StoGet l key = true ∧ g_Vi_StoGet_0 l key = (bif storeP l then (getP l key).getD [] else []) ∧ g_Vi_StoGet_1 l key = (storeP l && (getP l key).isSome) := by
  obtain ⟨a1, a2⟩ := i_StoOk_f l hl hit
  unfold g_Ai_StoGet g_Vi_StoGet_0 g_Vi_StoGet_1
  rw [a1, a2]
  cases h : storeP l
  · simp
  · obtain ⟨b1, b2, b3⟩ := sget_f l key h
    rw [b1, b2, b3]
    cases getP l key <;> simp
end Go.Proofs.YtjoggjjjlafdmaaDoor.E
end
section
namespace Go.Proofs.YtjoggjjjlafdmaaDoor.E
open Go
set_option maxHeartbeats 4000000
set_option maxRecDepth 100000
theorem wrapL {x : Int} (h : 0 ≤ x ∧ x ≤ 100000) : IntKind.wrap .i64 x = x := wrap64 (by omega)
theorem digit_size (n : Int) : (g_Vs_l3Digit_0 n).size = 1 := rfl
theorem plain_f (a : Int) (h : 0 ≤ a ∧ a ≤ 99) : g_As_l3Plain a = true ∧ (g_Vs_l3Plain_0 a).size ≤ 2 := by
  have e0 : (lit []).size = 0 := rfl
  have key : ∃ r, g_Ls_l3Plain_0 (a, lit []) = some r ∧ r.2.size ≤ 1 := by
    by_cases h9 : a > 9
    · refine ⟨(Int.tdiv a 10, g_Vs_l3Digit_0 (Int.tmod a 10) ++ lit []), ?_, ?_⟩
      · have d : Int.tdiv a 10 = a / 10 := Int.tdiv_eq_ediv_of_nonneg h.1
        have s1 : (g_Ss_l3Plain_0 (a, lit [])).sel = .go (Int.tdiv a 10, g_Vs_l3Digit_0 (Int.tmod a 10) ++ lit []) := by
          rw [d]
          simp only [g_Ss_l3Plain_0, RT.sel, h9, decide_true, cond_true, digit_size, e0]
          rw [d, wrapL (by omega)]
          rfl
        unfold g_Ls_l3Plain_0
        rw [loopO_eq, s1]
        show loopO _ _ = _
        rw [loopO_eq]
        have s2 : (g_Ss_l3Plain_0 (Int.tdiv a 10, g_Vs_l3Digit_0 (Int.tmod a 10) ++ lit [])).sel = .out (Int.tdiv a 10, g_Vs_l3Digit_0 (Int.tmod a 10) ++ lit []) := by
          rw [d]
          simp only [g_Ss_l3Plain_0, RT.sel, cond_true, decide_eq_false (by omega : ¬ a / 10 > 9), cond_false]
        rw [s2]
      · rw [ByteArray.size_append, digit_size, e0]; omega
    · refine ⟨(a, lit []), ?_, by rw [e0]; omega⟩
      unfold g_Ls_l3Plain_0
      rw [loopO_eq]
      have s2 : (g_Ss_l3Plain_0 (a, lit [])).sel = .out (a, lit []) := by
        simp only [g_Ss_l3Plain_0, RT.sel, cond_true, decide_eq_false h9, cond_false]
      rw [s2]
  obtain ⟨r, h1, h2⟩ := key
  refine ⟨?_, ?_⟩
  · simp only [g_As_l3Plain, h1, okO, valO, Option.isSome_some, Option.getD_some, digit_size, Bool.true_and]
    exact decide_eq_true (by omega)
  · simp only [g_Vs_l3Plain_0, h1, valO, Option.getD_some]
    rw [ByteArray.size_append, digit_size]
    omega
end Go.Proofs.YtjoggjjjlafdmaaDoor.E
end
section
namespace Go.Proofs.YtjoggjjjlafdmaaDoor.E
open Go
set_option maxHeartbeats 4000000
set_option maxRecDepth 100000
theorem cond_nf (a b : Bool) : (bif !a then false else b) = (a && b) := by cases a <;> rfl
theorem cond_f (a b : Bool) : (bif a then b else false) = (a && b) := by cases a <;> rfl
/-! draws: a reader's place stays small -/
theorem wrapS {x : Int} (h : 0 ≤ x ∧ x ≤ 100000) : IntKind.wrap .i64 (x + 1) = x + 1 := wrap64 (by omega)
theorem pickA_f (r0 : List Int) (r1 n : Int) (h : 0 ≤ r1 ∧ r1 ≤ 100000) (hn : 1 ≤ n) (hl : r0.length ≤ 1048576) : g_pickA r0 r1 n = true := by
  have e1 : IntKind.wrap .i64 (IntKind.wrap .i64 (r1 + 1) - 1) = r1 := by rw [wrapS h, wrap64 (by omega)]; omega
  have e2 : IntKind.wrap .i64 (IntKind.wrap .i64 (r1 * 7) + 3) = r1 * 7 + 3 := by rw [wrap64 (x := r1 * 7) (by omega), wrap64 (by omega)]
  have e3 : (n == 0) = false := by simpa using (by omega : n ≠ 0)
  unfold g_pickA
  simp only [g_As_l20Rd_pick0, e1, e2, e3]
  by_cases hz : r0.length = 0
  · simp [hz]
  · have hp : (0 : Int) < (r0.length : Int) := by omega
    have t1 : 0 ≤ Int.tmod r1 r0.length := Int.tmod_nonneg _ h.1
    have t2 : Int.tmod r1 r0.length < r0.length := Int.tmod_lt_of_pos _ hp
    have t3 : 0 ≤ Int.tmod (r1 * 7 + 3) r0.length := Int.tmod_nonneg _ (by omega)
    have t4 : Int.tmod (r1 * 7 + 3) r0.length < r0.length := Int.tmod_lt_of_pos _ hp
    have z : ((r0.length : Int) == 0) = false := by simpa using hz
    by_cases hlt : r1 < (r0.length : Int)
    · simp [hlt, h.1]
    · simp only [decide_eq_false hlt, cond_false, z, Bool.not_false, Bool.true_and, t1, t2, t3, t4, and_self, decide_true, Bool.or_true]
theorem oddA_f (r0 : List Int) (r1 n : Int) (h : 0 ≤ r1 ∧ r1 ≤ 100000) (hl : r0.length ≤ 1048576) : g_As_l20Rd_odd r0 r1 n = true := by
  unfold g_As_l20Rd_odd
  by_cases hn : n > 0
  · rw [pickA_f r0 r1 n h (by omega) hl]; simp
  · simp [hn]
theorem open_f (a : List Int) : g_As_l20Open a = true ∧ (g_Vs_l20Open_0 a).length ≤ 2000 ∧ g_Vs_l20Open_1 a = 0 := by
  refine ⟨?_, ?_, ?_⟩
  · unfold g_As_l20Open
    by_cases h : (a.length : Int) > 2000
    · have : (2000 : Int) ≤ a.length := by omega
      simp [h, this]
    · simp [h]
      cases decide ((2000 : Int) ≤ a.length) <;> rfl
  · unfold g_Vs_l20Open_0
    by_cases h : (a.length : Int) > 2000
    · rw [decide_eq_true h, cond_true]; exact Nat.le_trans (by rw [List.length_drop]; exact Nat.sub_le _ _) (List.length_take_le 2000 a)
    · rw [decide_eq_false h, cond_false]; omega
  · unfold g_Vs_l20Open_1
    generalize decide ((a.length : Int) > 2000) = p
    cases p <;> rfl
/-- A reader's bytes. -/
def RdOk (r0 : List Int) : Prop := r0.length ≤ 1048576 ∧ ∀ n ∈ r0, 0 ≤ n ∧ n < 256
theorem at_u8 {r0 : List Int} (h : RdOk r0) (i : Nat) : ∃ x : Int, at_ (.int .u8) r0 i = x ∧ 0 ≤ x ∧ x < 256 := by
  by_cases hi : i < r0.length
  · exact ⟨_, rfl, h.2 _ (at_mem (e := .int .u8) hi)⟩
  · refine ⟨0, by simp [at_, List.getElem?_eq_none (by omega : r0.length ≤ i), Ty.zero], by omega, by omega⟩
theorem xor_small {x y : Int} (hx : 0 ≤ x ∧ x < 16777216) (hy : 0 ≤ y ∧ y < 16777216) : ((BitVec.toNat (BitVec.ofInt 64 x ^^^ BitVec.ofInt 64 y) : Nat) : Int) < 16777216 := by
  have key : ∀ z : Int, 0 ≤ z ∧ z < 16777216 → (BitVec.ofInt 64 z).toNat < 2 ^ 24 := by
    intro z hz
    rw [BitVec.toNat_ofInt]
    have : z % ((2 ^ 64 : Nat) : Int) = z := Int.emod_eq_of_lt hz.1 (by omega)
    rw [this]
    omega
  have := Nat.xor_lt_two_pow (key x hx) (key y hy)
  rw [BitVec.toNat_xor]
  omega
theorem pick_f (r0 : List Int) (r1 n : Int) (h : 0 ≤ r1 ∧ r1 ≤ 100000) (hn : 1 ≤ n) (hr : RdOk r0) : 0 ≤ g_pick r0 r1 n ∧ g_pick r0 r1 n < n := by
  have e1 : IntKind.wrap .i64 (IntKind.wrap .i64 (r1 + 1) - 1) = r1 := by rw [wrapS h, wrap64 (by omega)]; omega
  have e2 : IntKind.wrap .i64 (IntKind.wrap .i64 (r1 * 7) + 3) = r1 * 7 + 3 := by rw [wrap64 (x := r1 * 7) (by omega), wrap64 (by omega)]
  have tm : ∀ x : Int, 0 ≤ x → 0 ≤ Int.tmod x n ∧ Int.tmod x n < n := fun x hx => ⟨Int.tmod_nonneg _ hx, Int.tmod_lt_of_pos _ (by omega)⟩
  unfold g_pick
  simp only [g_Vs_l20Rd_pick0_0, e1, e2]
  rw [decide_eq_false (by omega : ¬ n < 1), cond_false]
  by_cases hz : r0.length = 0
  · rw [show ((r0.length : Int) == 0) = true by simp [hz], cond_true]; omega
  · have hp : (0 : Int) < (r0.length : Int) := by omega
    rw [show ((r0.length : Int) == 0) = false by simpa using hz, cond_false]
    by_cases hlt : r1 < (r0.length : Int)
    · rw [decide_eq_true hlt, cond_true]
      obtain ⟨x, e, b⟩ := at_u8 hr r1.toNat
      rw [e, wrap64 (by omega)]
      exact tm _ b.1
    · rw [decide_eq_false hlt, cond_false]
      obtain ⟨x1, y1, b1⟩ := at_u8 hr (Int.tmod r1 r0.length).toNat
      obtain ⟨x2, y2, b2⟩ := at_u8 hr (Int.tmod (r1 * 7 + 3) r0.length).toNat
      have d0 : 0 ≤ Int.tdiv r1 r0.length := Int.tdiv_nonneg h.1 (by omega)
      have d1 : Int.tdiv r1 r0.length ≤ r1 := by
        rw [Int.tdiv_eq_ediv_of_nonneg h.1]
        exact Int.ediv_le_self _ h.1
      rw [y1, y2]
      generalize Int.tdiv r1 r0.length = q at d0 d1 ⊢
      rw [wrap64 (x := x1) (by omega), wrap64 (x := x2) (by omega), wrap64 (x := x1 * 131) (by omega), wrap64 (x := x2 * 1117) (by omega), wrap64 (x := r1 * 29) (by omega), wrap64 (x := q) (by omega), wrap64 (x := q * 53) (by omega), wrap64 (x := x1 * 131 + x2 * 1117) (by omega), wrap64 (x := x1 * 131 + x2 * 1117 + r1 * 29) (by omega), wrap64 (x := x1 * 131 + x2 * 1117 + r1 * 29 + q * 53) (by omega)]
      generalize hX : x1 * 131 + x2 * 1117 + r1 * 29 + q * 53 = X
      have hX0 : 0 ≤ X ∧ X < 16777216 := by omega
      have hD : 0 ≤ Int.tdiv X 64 ∧ Int.tdiv X 64 < 16777216 := by
        rw [Int.tdiv_eq_ediv_of_nonneg hX0.1]
        omega
      rw [wrap64 (x := Int.tdiv X 64) (by omega)]
      have hx := xor_small hX0 hD
      have hx : (((BitVec.ofInt (nat_lit 64) X ^^^ BitVec.ofInt (nat_lit 64) (Int.tdiv X 64)).toNat : Nat) : Int) < 16777216 := hx
      generalize (BitVec.ofInt (nat_lit 64) X ^^^ BitVec.ofInt (nat_lit 64) (Int.tdiv X 64)).toNat = Y at hx ⊢
      rw [wrap64 (by omega)]
      exact tm _ (by omega)
theorem open_ok (a : List Int) (h : ∀ n ∈ a, (Lit.int .u8 n).wf = true) : RdOk (g_Vs_l20Open_0 a) := by
  have hb : ∀ n ∈ a, 0 ≤ n ∧ n < 256 := by
    intro n hn
    have := h n hn
    simp [Lit.wf, IntKind.min, IntKind.max, IntKind.bits, IntKind.signed] at this
    omega
  refine ⟨by have := (open_f a).2.1; omega, fun n hn => hb n ?_⟩
  unfold g_Vs_l20Open_0 at hn
  generalize decide ((a.length : Int) > 2000) = p at hn
  cases p
  · exact hn
  · exact List.mem_of_mem_take (List.mem_of_mem_drop hn)
/-! The same for what is drawn: it is there, and so many bytes on. -/
theorem pickD_f (r0 : List Int) (r1 n m : Int) (h : 0 ≤ r1 ∧ r1 ≤ 100000) (hn : 1 ≤ n ∧ n ≤ m) (hr : RdOk r0) : decide (0 ≤ g_pick r0 r1 n ∧ g_pick r0 r1 n < m) = true := by
  have := pick_f r0 r1 n h hn.1 hr
  exact decide_eq_true ⟨this.1, by omega⟩
theorem pickN_f (r0 : List Int) (r1 n : Int) (m : Nat) (h : 0 ≤ r1 ∧ r1 ≤ 100000) (hn : 1 ≤ n ∧ n ≤ m) (hr : RdOk r0) : decide ((g_pick r0 r1 n).toNat < m) = true := by
  have := pick_f r0 r1 n h hn.1 hr
  exact decide_eq_true (by omega)
theorem pickA_f' (r0 : List Int) (r1 n : Int) (h : 0 ≤ r1 ∧ r1 ≤ 100000) (hn : 1 ≤ n) (hr : RdOk r0) : g_pickA r0 r1 n = true := pickA_f r0 r1 n h hn hr.1
theorem oddA_f' (r0 : List Int) (r1 n : Int) (h : 0 ≤ r1 ∧ r1 ≤ 100000) (hr : RdOk r0) : g_As_l20Rd_odd r0 r1 n = true := oddA_f r0 r1 n h hr.1
def oddD (n : Int) : Int := if n > 0 then 1 else 0
theorem oddP_f (r0 : List Int) (r1 n : Int) (h : 0 ≤ r1 ∧ r1 ≤ 99999) : g_Vs_l20Rd_odd_2 r0 r1 n = r1 + oddD n % 2 := by
  unfold g_Vs_l20Rd_odd_2 oddD
  by_cases hn : n > 0
  · simp only [hn, decide_true, cond_true, if_true]; rw [wrapL (by omega)]; omega
  · simp only [hn, decide_false, cond_false, if_false]; omega
theorem at_all {e : Ty} {l : List e.den} {P : e.den → Prop} (hl : ∀ x ∈ l, P x) {i : Nat} (hi : i < l.length) : P (at_ e l i) := hl _ (at_mem hi)
end Go.Proofs.YtjoggjjjlafdmaaDoor.E
end
section
namespace Go.Proofs.YtjoggjjjlafdmaaDoor.E
open Go
theorem jaOk_f : g_Aw_jaOk = true ∧ g_Vw_jaOk_0 = true := by
  unfold g_Aw_jaOk g_Vw_jaOk_0
  obtain ⟨a, b⟩ := i_WrtOk_f (lit [97, 49]) false [1] (by decide)
  rw [a, b]
  refine ⟨rfl, ?_⟩
  decide +kernel
end Go.Proofs.YtjoggjjjlafdmaaDoor.E
end
section
namespace Go.Proofs.YtjoggjjjlafdmaaDoor.E
open Go
set_option maxHeartbeats 4000000
set_option maxRecDepth 100000
noncomputable def keyD (r0 : List Int) (r1 n : Int) : Int := g_Vs_l20Key_2 r0 r1 n - r1
theorem two_at (a b c : Int) (i : Nat) (ha : 0 ≤ a ∧ a ≤ c) (hb : 0 ≤ b ∧ b ≤ c) (hi : i < 2) : 0 ≤ at_ (.int .i64) [a, b] i ∧ at_ (.int .i64) [a, b] i ≤ c := by
  have : i = 0 ∨ i = 1 := by omega
  rcases this with rfl | rfl
  · exact ha
  · exact hb
theorem key_f (r0 : List Int) (r1 n : Int) (h : 0 ≤ r1 ∧ r1 ≤ 99990) (hr : RdOk r0) : g_As_l20Key r0 r1 n = true ∧ g_Vs_l20Key_2 r0 r1 n = r1 + keyD r0 r1 n % 8 ∧ (g_Vs_l20Key_0 r0 r1 n).size ≤ 4 := by
  have p4 := pick_f r0 (r1 + 1) 4 (by omega) (by omega) hr
  have p30 := pick_f r0 (r1 + 1 + 1) 30 (by omega) (by omega) hr
  have p2 := pick_f r0 (r1 + 1 + 1 + 1) 2 (by omega) (by omega) hr
  have pl := two_at (g_pick r0 (r1 + 1) 4) (g_pick r0 (r1 + 1 + 1) 30) 29 (g_pick r0 (r1 + 1 + 1 + 1) 2).toNat (by omega) (by omega) (by omega)
  obtain ⟨q1, q2⟩ := plain_f (at_ (.int .i64) [g_pick r0 (r1 + 1) 4, g_pick r0 (r1 + 1 + 1) 30] (g_pick r0 (r1 + 1 + 1 + 1) 2).toNat) ⟨pl.1, Int.le_trans pl.2 (by decide)⟩
  have s1 : ∀ i, i < 5 → (at_ .str [lit [115], lit [99], lit [102], lit [117], lit [97]] i).size = 1 := fun i hi => at_all (e := .str) (P := fun x : ByteArray => x.size = 1) (by intro x hx; simp at hx; rcases hx with rfl | rfl | rfl | rfl | rfl <;> rfl) hi
  have s2 : ∀ i, i < 6 → (at_ .str [lit [], lit [115], lit [83, 49], lit [115, 49, 50, 51], lit [49, 115], lit [115, 97]] i).size ≤ 4 := fun i hi => at_all (e := .str) (P := fun x : ByteArray => x.size ≤ 4) (by intro x hx; simp at hx; rcases hx with rfl | rfl | rfl | rfl | rfl | rfl <;> decide) hi
  have p5 := pick_f r0 r1 5 (by omega) (by omega) hr
  have s1 := s1 (g_pick r0 r1 5).toNat (by omega)
  refine ⟨?_, ?_, ?_⟩
  · unfold g_As_l20Key
    simp (disch := first | omega | assumption) only [wrapL, pickA_f', oddA_f', oddP_f, pickD_f, pickN_f, List.length_cons, List.length_nil, Bool.true_and, q1, s1]
    rw [decide_eq_true (by omega)]
    simp (disch := first | omega | assumption) [pickA_f', pickD_f, pickN_f]
  · unfold keyD g_Vs_l20Key_2
    simp (disch := first | omega | assumption) only [wrapL, oddP_f]
    generalize g_Vs_l20Rd_odd_0 r0 _ n = b
    cases b <;> simp only [cond_true, cond_false] <;> omega
  · unfold g_Vs_l20Key_0
    simp (disch := first | omega | assumption) only [wrapL, oddP_f]
    generalize g_Vs_l20Rd_odd_0 r0 _ n = b
    cases b
    · rw [cond_false, ByteArray.size_append]; omega
    · rw [cond_true]
      have p6 := pick_f r0 (r1 + 1 + 1 + 1 + 1 + oddD n % 2) 6 (by omega) (by omega) hr
      exact s2 _ (by omega)
noncomputable def valD (r0 : List Int) (r1 n : Int) : Int := g_Vs_l20Val_2 r0 r1 n - r1
theorem val_f (r0 : List Int) (r1 n : Int) (h : 0 ≤ r1 ∧ r1 ≤ 99980) (hr : RdOk r0) : g_As_l20Val r0 r1 n = true ∧ g_Vs_l20Val_2 r0 r1 n = r1 + valD r0 r1 n % 16 ∧ (g_Vs_l20Val_0 r0 r1 n).length ≤ 4 := by
  have p4 := pick_f r0 r1 4 (by omega) (by omega) hr
  have p3 := pick_f r0 (r1 + 1) 3 (by omega) (by omega) hr
  have L : ∃ r, g_Ls_l20Val_0 n r0 ([g_pick r0 r1 4], g_pick r0 (r1 + 1) 3, r1 + 1 + 1) = some r ∧ r.1.length ≤ 4 ∧ 0 ≤ r.2 - r1 ∧ r.2 - r1 ≤ 6 := by
    refine loop_inv (step := g_Ss_l20Val_0 n r0) (fun x => x.1.length + x.2.1.toNat ≤ 3 ∧ 0 ≤ x.2.2 - r1 ∧ x.2.2 - r1 + x.2.1.toNat ≤ 6) (fun r => r.1.length ≤ 4 ∧ 0 ≤ r.2 - r1 ∧ r.2 - r1 ≤ 6) (fun x => x.2.1.toNat) ?_ _ ⟨by simp; omega, by simp; omega, by simp; omega⟩
    rintro ⟨l, k, p⟩ ⟨i1, i2, i3⟩
    simp only at i1 i2 i3
    by_cases hk : k > 0
    · refine .inl ⟨(l ++ [g_pick r0 p 12], k - 1, p + 1), ?_, ?_, ?_⟩
      · simp only [g_Ss_l20Val_0, RT.sel, hk, decide_true, cond_true]
        rw [pickA_f' r0 p 12 (by omega) (by omega) hr, cond_true, decide_eq_true (by simp only [List.length_cons, List.length_nil]; omega), cond_true, wrap64 (by omega), wrapL (by omega)]
      · simp only [List.length_append, List.length_cons, List.length_nil]
        omega
      · simp only; omega
    · refine .inr ⟨(l, p), ?_, ?_⟩
      · simp only [g_Ss_l20Val_0, RT.sel, hk, decide_false, cond_true, cond_false]
      · simp only; omega
  obtain ⟨⟨l, p⟩, e, b1, b2, b3⟩ := L
  simp only at b1 b2 b3
  have s2 : ∀ i, i < 4 → (at_ (.sl 3 (.int .i64)) [[], [-1], [10000], [1, 2, 3, 4]] i).length ≤ 4 := fun i hi => at_all (e := .sl 3 (.int .i64)) (P := fun x : List Int => x.length ≤ 4) (by intro x hx; simp at hx; rcases hx with rfl | rfl | rfl | rfl <;> decide) hi
  refine ⟨?_, ?_, ?_⟩
  · unfold g_As_l20Val
    simp (disch := first | omega | assumption) only [wrapL, e, okO, valO, Option.isSome_some, Option.getD_some, pickA_f', oddA_f', oddP_f, pickD_f, pickN_f, Bool.true_and, Bool.and_true, Bool.or_true]
  · unfold valD g_Vs_l20Val_2
    simp (disch := first | omega | assumption) only [wrapL, e, valO, Option.getD_some, oddP_f]
    generalize g_Vs_l20Rd_odd_0 r0 _ n = b
    cases b <;> simp only [cond_true, cond_false] <;> omega
  · unfold g_Vs_l20Val_0
    simp (disch := first | omega | assumption) only [wrapL, e, valO, Option.getD_some, oddP_f]
    generalize g_Vs_l20Rd_odd_0 r0 _ n = b
    cases b
    · exact b1
    · rw [cond_true]
      have p6 := pick_f r0 (p + oddD n % 2) 4 (by omega) (by omega) hr
      exact s2 _ (by omega)
noncomputable def writeD (r0 : List Int) (r1 n : Int) : Int := g_Vs_l20Write_4 r0 r1 n - r1
theorem write_f (r0 : List Int) (r1 n : Int) (h : 0 ≤ r1 ∧ r1 ≤ 99900) (hr : RdOk r0) : g_As_l20Write r0 r1 n = true ∧ g_Vs_l20Write_4 r0 r1 n = r1 + writeD r0 r1 n % 32 ∧ (g_Vs_l20Write_0 r0 r1 n).size ≤ 4 ∧ (g_Vs_l20Write_2 r0 r1 n).length ≤ 4 := by
  obtain ⟨k1, k2, k3⟩ := key_f r0 r1 n (by omega) hr
  have p3 := pick_f r0 (r1 + keyD r0 r1 n % 8) 3 (by omega) (by omega) hr
  obtain ⟨v1, v2, v3⟩ := val_f r0 (r1 + keyD r0 r1 n % 8 + 1) n (by omega) hr
  refine ⟨?_, ?_, ?_, ?_⟩
  · unfold g_As_l20Write
    simp (disch := first | omega | assumption) only [k1, k2, v1, wrapL, pickA_f', oddA_f', Bool.true_and, Bool.cond_self]
  · unfold writeD g_Vs_l20Write_4
    simp (disch := first | omega | assumption) only [k2, v2, wrapL, oddP_f, Bool.cond_self]
    cases (g_pick r0 (r1 + keyD r0 r1 n % 8) 3 == 0) <;> simp only [cond_true, cond_false] <;> omega
  · unfold g_Vs_l20Write_0
    simp only [Bool.cond_self]
    exact k3
  · unfold g_Vs_l20Write_2
    simp (disch := first | omega | assumption) only [k2, wrapL]
    cases (g_pick r0 (r1 + keyD r0 r1 n % 8) 3 == 0)
    · exact v3
    · rw [cond_true]
      generalize g_Vs_l20Rd_odd_0 r0 _ n = b
      cases b <;> decide
end Go.Proofs.YtjoggjjjlafdmaaDoor.E
end
section
namespace Go.Proofs.YtjoggjjjlafdmaaDoor.E
open Go
set_option maxHeartbeats 8000000
set_option maxRecDepth 100000
theorem capD_f (a b k : Nat) (h : a + b ≤ 100000) (hk : k ≤ 1000) : decide ((a + b) * k ≤ nat_lit 140737488355328 ∧ a + b ≤ nat_lit 9223372036854775807) = true := by
  refine decide_eq_true ⟨Nat.le_trans (Nat.mul_le_mul h hk) (by decide), by show a + b ≤ 9223372036854775807; omega⟩
/-- Writes that are small. -/
def smallW (w : ByteArray × Bool × List Int) : Prop := w.1.size ≤ 4 ∧ w.2.2.length ≤ 4
noncomputable def writesD (r0 : List Int) (r1 n : Int) : Int := g_Vs_l20Writes_2 r0 r1 n - r1
theorem writes_f (r0 : List Int) (r1 n : Int) (h : 0 ≤ r1 ∧ r1 ≤ 99000) (hr : RdOk r0) : g_As_l20Writes r0 r1 n = true ∧ g_Vs_l20Writes_2 r0 r1 n = r1 + writesD r0 r1 n % 256 ∧ (g_Vs_l20Writes_0 r0 r1 n).length ≤ 6 ∧ ∀ w ∈ g_Vs_l20Writes_0 r0 r1 n, smallW w := by
  have p6 := pick_f r0 r1 6 (by omega) (by omega) hr
  have L : ∃ r, g_Ls_l20Writes_0 n r0 ([], g_pick r0 r1 6, r1 + 1) = some r ∧ r.1.length ≤ 5 ∧ (∀ w ∈ r.1, smallW w) ∧ 0 ≤ r.2 - r1 ∧ r.2 - r1 ≤ 156 := by
    refine loop_inv (step := g_Ss_l20Writes_0 n r0) (fun x => x.1.length + x.2.1.toNat ≤ 5 ∧ (∀ w ∈ x.1, smallW w) ∧ 0 ≤ x.2.2 - r1 ∧ x.2.2 - r1 + 31 * x.2.1.toNat ≤ 156) (fun r => r.1.length ≤ 5 ∧ (∀ w ∈ r.1, smallW w) ∧ 0 ≤ r.2 - r1 ∧ r.2 - r1 ≤ 156) (fun x => x.2.1.toNat) ?_ _ ⟨by simp; omega, by simp, by simp; omega, by simp; omega⟩
    rintro ⟨l, k, p⟩ ⟨i1, i2, i3, i4⟩
    simp only at i1 i2 i3 i4
    by_cases hk : k > 0
    · obtain ⟨w1, w2, w3, w4⟩ := write_f r0 p 0 (by omega) hr
      refine .inl ⟨(l ++ [(g_Vs_l20Write_0 r0 p 0, g_Vs_l20Write_1 r0 p 0, g_Vs_l20Write_2 r0 p 0)], k - 1, p + writeD r0 p 0 % 32), ?_, ?_, ?_⟩
      · simp only [g_Ss_l20Writes_0, RT.sel, hk, decide_true, cond_true, w1, w2]
        rw [capD_f _ _ _ (by simp only [List.length_cons, List.length_nil]; omega) (by decide), cond_true, wrap64 (by omega)]
      · refine ⟨by simp only [List.length_append, List.length_cons, List.length_nil]; omega, ?_, by simp only; omega, by simp only; omega⟩
        intro w hw
        simp only [List.mem_append, List.mem_cons, List.not_mem_nil, or_false] at hw
        rcases hw with hw | rfl
        · exact i2 w hw
        · exact ⟨w3, w4⟩
      · simp only; omega
    · refine .inr ⟨(l, p), ?_, ?_⟩
      · simp only [g_Ss_l20Writes_0, RT.sel, hk, decide_false, cond_true, cond_false]
      · exact ⟨by simp only; omega, i2, by simp only; omega, by simp only; omega⟩
  obtain ⟨⟨l, p⟩, e, b1, b2, b3, b4⟩ := L
  simp only at b1 b2 b3 b4
  obtain ⟨w1, w2, w3, w4⟩ := write_f r0 (p + oddD n % 2) 2 (by omega) hr
  refine ⟨?_, ?_, ?_, ?_⟩
  · unfold g_As_l20Writes
    simp (disch := first | omega | assumption) only [wrapL, e, okO, valO, Option.isSome_some, Option.getD_some, pickA_f', oddA_f', oddP_f, w1, Bool.true_and]
    rw [capD_f _ _ _ (by simp only [List.length_cons, List.length_nil]; omega) (by decide), Bool.or_true]
  · unfold writesD g_Vs_l20Writes_2
    simp (disch := first | omega | assumption) only [wrapL, e, valO, Option.getD_some, oddP_f, w2]
    generalize g_Vs_l20Rd_odd_0 r0 _ n = b
    cases b <;> simp only [cond_true, cond_false] <;> omega
  · unfold g_Vs_l20Writes_0
    simp (disch := first | omega | assumption) only [wrapL, e, valO, Option.getD_some, oddP_f]
    generalize g_Vs_l20Rd_odd_0 r0 _ n = b
    cases b
    · rw [cond_false]; omega
    · rw [cond_true, List.length_append, List.length_cons, List.length_nil]; omega
  · unfold g_Vs_l20Writes_0
    simp (disch := first | omega | assumption) only [wrapL, e, valO, Option.getD_some, oddP_f]
    generalize g_Vs_l20Rd_odd_0 r0 _ n = b
    cases b
    · exact b2
    · rw [cond_true]
      intro w hw
      simp only [List.mem_append, List.mem_cons, List.not_mem_nil, or_false] at hw
      rcases hw with hw | rfl
      · exact b2 w hw
      · exact ⟨w3, w4⟩
end Go.Proofs.YtjoggjjjlafdmaaDoor.E
end
section
namespace Go.Proofs.YtjoggjjjlafdmaaDoor.E
open Go
set_option maxHeartbeats 8000000
set_option maxRecDepth 100000
noncomputable def stoD (r0 : List Int) (r1 n : Int) : Int := g_Vs_l20Sto_2 r0 r1 n - r1
/-- A store that is small. -/
def smallS (l : List (ByteArray × List Int)) : Prop := l.length ≤ 100 ∧ ∀ x ∈ l, x.2.length ≤ 4
theorem smallS_one {l : List (ByteArray × List Int)} (h1 : l.length ≤ 40) (h2 : ∀ x ∈ l, x.2.length ≤ 4) (k : ByteArray) (v : List Int) (hv : v.length ≤ 4) : smallS (l ++ [(k, v)]) := by
  refine ⟨by rw [List.length_append, List.length_cons, List.length_nil]; omega, fun x hx => ?_⟩
  simp only [List.mem_append, List.mem_cons, List.not_mem_nil, or_false] at hx
  rcases hx with hx | rfl
  · exact h2 x hx
  · exact hv
theorem stoLoop_f (a : List (ByteArray × List Int)) (b : List Int) (c : Int) (l : List (ByteArray × List Int)) (h1 : l.length ≤ 40) (h2 : ∀ x ∈ l, x.2.length ≤ 4) : ∃ r, g_Ls_l20Sto_1 a b c l = some r ∧ smallS r := by
  refine loop_inv (step := g_Ss_l20Sto_1 a b c) (fun y => y.length ≤ 41 ∧ ∀ x ∈ y, x.2.length ≤ 4) _ (fun y => 100 - y.length) ?_ _ ⟨by omega, h2⟩
  rintro y ⟨i1, i2⟩
  by_cases hk : (y.length : Int) ≤ 40
  · refine .inl ⟨y ++ [(lit [122, 57], [1])], ?_, ?_, ?_⟩
    · simp only [g_Ss_l20Sto_1, RT.sel, hk, decide_true, cond_true]
      rw [capD_f _ _ _ (by show _ + 1 ≤ _; omega) (by decide), cond_true]
    · refine ⟨by rw [List.length_append, List.length_cons, List.length_nil]; omega, fun x hx => ?_⟩
      simp only [List.mem_append, List.mem_cons, List.not_mem_nil, or_false] at hx
      rcases hx with hx | rfl
      · exact i2 x hx
      · decide
    · rw [List.length_append, List.length_cons, List.length_nil]; omega
  · refine .inr ⟨y, ?_, by omega, i2⟩
    simp only [g_Ss_l20Sto_1, RT.sel, hk, decide_false, cond_true, cond_false]
theorem sto_f (r0 : List Int) (r1 n : Int) (h : 0 ≤ r1 ∧ r1 ≤ 97000) (hr : RdOk r0) : g_As_l20Sto r0 r1 n = true ∧ g_Vs_l20Sto_2 r0 r1 n = r1 + stoD r0 r1 n % 1024 ∧ smallS (g_Vs_l20Sto_0 r0 r1 n) := by
  obtain ⟨a1, a2, a3, a4⟩ := writes_f r0 r1 0 (by omega) hr
  obtain ⟨b1, b2, b3, b4⟩ := writes_f r0 (r1 + writesD r0 r1 0 % 256) 0 (by omega) hr
  have hw : ∀ w ∈ g_Vs_l20Writes_0 r0 r1 0 ++ g_Vs_l20Writes_0 r0 (r1 + writesD r0 r1 0 % 256) 0, w.2.2.length ≤ 4 := by
    intro w hw
    rcases List.mem_append.1 hw with hw | hw
    · exact (a4 w hw).2
    · exact (b4 w hw).2
  obtain ⟨d1, d2⟩ := s_StoDo_f [] (g_Vs_l20Writes_0 r0 r1 0 ++ g_Vs_l20Writes_0 r0 (r1 + writesD r0 r1 0 % 256) 0) (by decide) (by simp) (by rw [List.length_append]; omega) (fun w h => by have := hw w h; omega)
  obtain ⟨e1, e2⟩ := doS_small 4 [] (g_Vs_l20Writes_0 r0 r1 0 ++ g_Vs_l20Writes_0 r0 (r1 + writesD r0 r1 0 % 256) 0) (by simp) hw
  obtain ⟨v1, v2, v3⟩ := val_f r0 (r1 + writesD r0 r1 0 % 256 + writesD r0 (r1 + writesD r0 r1 0 % 256) 0 % 256 + oddD n % 2 + 1) 1 (by omega) hr
  obtain ⟨r, l1, l2⟩ := stoLoop_f [] r0 (r1 + writesD r0 r1 0 % 256 + writesD r0 (r1 + writesD r0 r1 0 % 256) 0 % 256 + oddD n % 2 + 1) _ e1 e2
  refine ⟨?_, ?_, ?_⟩
  · unfold g_As_l20Sto
    simp (disch := first | omega | assumption) only [wrapL, a1, a2, b1, b2, d1, d2, v1, l1, okO, Option.isSome_some, pickA_f', oddA_f', oddP_f, capD_f, List.length_cons, List.length_nil, Bool.true_and, Bool.cond_self, Bool.or_true]
  · unfold stoD g_Vs_l20Sto_2
    simp (disch := first | omega | assumption) only [wrapL, a2, b2, v2, oddP_f]
    simp only [Bool.cond_eq_ite]
    repeat' split
    all_goals omega
  · unfold g_Vs_l20Sto_0
    simp (disch := first | omega | assumption) only [wrapL, a2, b2, d2, v2, l1, valO, Option.getD_some, oddP_f]
    simp only [Bool.cond_eq_ite]
    repeat' split
    · exact smallS_one e1 e2 _ _ (by decide)
    · exact smallS_one e1 e2 _ _ v3
    · exact l2
    · exact ⟨by omega, e2⟩
end Go.Proofs.YtjoggjjjlafdmaaDoor.E
end
section
namespace Go.Proofs.YtjoggjjjlafdmaaDoor.E
open Go
set_option maxRecDepth 100000
theorem jaInts_self (l : List (Int)) (hl : l.length ≤ 1048576) : g_Aw_jaInts l l = true ∧ g_Vw_jaInts_0 l l = true := by
  have h : g_Lw_jaInts_0 l l 0 = some (.inr ()) := by
    have := loop_all (step := g_Sw_jaInts_0 l l) (fun i : Nat => (i : Int)) (fun _ => true) (.inl false) (.inr ()) l.length (fun i hi => by
      have k1 : (i : Int) < l.length := by omega
      have k2 : (0 : Int) ≤ (i : Int) := by omega
      have hw : IntKind.wrap .i64 ((i : Int) + 1) = ((i + 1 : Nat) : Int) := by rw [wrap64 (by omega)]; omega
      simp only [g_Sw_jaInts_0, RT.sel, cond_true, k1, k2, hw, decide_true, and_self, Int.toNat_natCast, bne_self_eq_false, BEq.rfl, Bool.not_true, cond_false]) (by simp [g_Sw_jaInts_0, RT.sel])
    rw [show (List.range l.length).all (fun _ => true) = true by simp] at this
    exact this
  simp [g_Aw_jaInts, g_Vw_jaInts_0, h, okO, valO, isL]
end Go.Proofs.YtjoggjjjlafdmaaDoor.E
end
section
namespace Go.Proofs.YtjoggjjjlafdmaaDoor.E
open Go
set_option maxRecDepth 100000
theorem jaSto_self (l : List (ByteArray × List Int)) (hl : l.length ≤ 1048576) (hit : ∀ x ∈ l, x.2.length ≤ 1048576) : g_Aw_jaSto l l = true ∧ g_Vw_jaSto_0 l l = true := by
  have h : g_Lw_jaSto_0 l l 0 = some (.inr ()) := by
    have := loop_all (step := g_Sw_jaSto_0 l l) (fun i : Nat => (i : Int)) (fun _ => true) (.inl false) (.inr ()) l.length (fun i hi => by
      have k1 : (i : Int) < l.length := by omega
      have k2 : (0 : Int) ≤ (i : Int) := by omega
      have hw : IntKind.wrap .i64 ((i : Int) + 1) = ((i + 1 : Nat) : Int) := by rw [wrap64 (by omega)]; omega
      obtain ⟨j1, j2⟩ := jaInts_self (at_ TI_ l i).2 (hit _ (at_mem (e := TI_) hi))
      simp only [g_Sw_jaSto_0, RT.sel, cond_true, k1, k2, hw, decide_true, and_self, Int.toNat_natCast, bne_self_eq_false, BEq.rfl, Bool.not_true, cond_false, j1, j2]) (by simp [g_Sw_jaSto_0, RT.sel])
    rw [show (List.range l.length).all (fun _ => true) = true by simp] at this
    exact this
  simp [g_Aw_jaSto, g_Vw_jaSto_0, h, okO, valO, isL]
end Go.Proofs.YtjoggjjjlafdmaaDoor.E
end
section
namespace Go.Proofs.YtjoggjjjlafdmaaDoor.E
open Go
set_option maxHeartbeats 8000000
set_option maxRecDepth 100000
/-- What is drawn to be written is little. -/
theorem drawStoDo_f (a : List Int) (h : ∀ n ∈ a, (Lit.int .u8 n).wf = true) : g_As_DrawStoDo a = true ∧ smallS (g_Vs_DrawStoDo_0 a) ∧ (g_Vs_DrawStoDo_1 a).length ≤ 60 ∧ ∀ w ∈ g_Vs_DrawStoDo_1 a, w.2.2.length ≤ 4 := by
  obtain ⟨h1, h2, h3⟩ := open_f a
  have hr := open_ok a h
  unfold g_As_DrawStoDo g_Vs_DrawStoDo_0 g_Vs_DrawStoDo_1
  simp only [h1, h3]
  generalize g_Vs_l20Open_0 a = r0 at hr
  clear h1 h2 h3
  obtain ⟨s1, s2, s3⟩ := sto_f r0 0 16 (by omega) hr
  simp only [s1, s2]
  have hb : 0 ≤ 0 + stoD r0 0 16 % 1024 ∧ 0 + stoD r0 0 16 % 1024 ≤ 1100 := by omega
  generalize 0 + stoD r0 0 16 % 1024 = p0 at hb
  obtain ⟨w1, w2, w3, w4⟩ := writes_f r0 p0 9 (by omega) hr
  simp only [w1, w2]
  have hb2 : 0 ≤ p0 + writesD r0 p0 9 % 256 ∧ p0 + writesD r0 p0 9 % 256 ≤ 1400 := by omega
  generalize p0 + writesD r0 p0 9 % 256 = p1 at hb2
  have oa := oddA_f' r0 p1 30 (by omega) hr
  rw [oa]
  generalize g_Vs_l20Writes_0 r0 p0 9 = l at w3 w4
  have L : ∀ y2 y3 y4 y5, ∃ r, g_Ls_DrawStoDo_0 y2 y3 y4 y5 (l, 0) = some r ∧ r.length ≤ 60 ∧ ∀ w ∈ r, w.2.2.length ≤ 4 := by
    intro y2 y3 y4 y5
    refine loop_inv (step := g_Ss_DrawStoDo_0 y2 y3 y4 y5) (fun x => 0 ≤ x.2 ∧ x.2 ≤ 41 ∧ (x.1.length : Int) ≤ 6 + x.2 ∧ ∀ w ∈ x.1, w.2.2.length ≤ 4) _ (fun x => (41 - x.2).toNat) ?_ _ ⟨by simp, by simp, by simp only; omega, fun w hw => (w4 w hw).2⟩
    rintro ⟨y, k⟩ ⟨i1, i2, i3, i4⟩
    simp only at i1 i2 i3 i4
    by_cases hk : k ≤ 40
    · obtain ⟨q1, q2⟩ := plain_f k (by omega)
      have c1 : decide (nat_lit 1 + ByteArray.size (g_Vs_l3Plain_0 k) ≤ nat_lit 9223372036854775807) = true := decide_eq_true (Nat.le_trans (show 1 + _ ≤ 3 by omega) (by decide))
      refine .inl ⟨(y ++ [(lit [122] ++ g_Vs_l3Plain_0 k, false, [1])], k + 1), ?_, ⟨by simp only; omega, by simp only; omega, by simp only [List.length_append, List.length_cons, List.length_nil]; omega, fun w hw => ?_⟩, by simp only; omega⟩
      · simp only [g_Ss_DrawStoDo_0, RT.sel, decide_eq_true hk, cond_true, q1, c1]
        rw [capD_f _ _ _ (by simp only [List.length_cons, List.length_nil]; omega) (by decide), cond_true, wrap64 (x := k + 1) (by omega)]
      · simp only [List.mem_append, List.mem_cons, List.not_mem_nil, or_false] at hw
        rcases hw with hw | rfl
        · exact i4 w hw
        · exact (by decide : 1 ≤ 4)
    · refine .inr ⟨y, ?_, by omega, i4⟩
      simp only [g_Ss_DrawStoDo_0, RT.sel, decide_eq_false hk, cond_true, cond_false]
  obtain ⟨r, e1, e2, e3⟩ := L [] (g_Vs_l20Sto_0 r0 0 16) r0 (g_Vs_l20Rd_odd_2 r0 p1 30)
  rw [e1]
  cases g_Vs_l20Rd_odd_0 r0 p1 30
  · exact ⟨rfl, s3, by simp only [cond_false]; omega, fun w hw => (w4 w hw).2⟩
  · exact ⟨rfl, s3, e2, e3⟩
end Go.Proofs.YtjoggjjjlafdmaaDoor.E
end
section
namespace Go.Proofs.YtjoggjjjlafdmaaDoor.E
open Go
abbrev WW_ : Ty := .pair .str (.pair .bool (.sl 3 (.int .i64)))
/-- What is ok is small. -/
theorem store_big {l : List Item} (h : storeP l = true) : l.length ≤ 40 ∧ ∀ x ∈ l, x.2.length ≤ 1048576 := by
  have := (storeP_iff l).1 h
  refine ⟨this.1, fun x hx => ?_⟩
  have := this.2.1 x hx
  simp only [okI', Bool.and_eq_true, valP, decide_eq_true_eq] at this
  omega
end Go.Proofs.YtjoggjjjlafdmaaDoor.E
end
section
namespace Go.Proofs.YtjoggjjjlafdmaaDoor.E
open Go
/-- What is kept is found by its name. -/
theorem get_mem : ∀ {l : List Item}, Srt l → ∀ {x : Item}, x ∈ l → getP l x.1 = some x.2
  | [], _, _, h => by cases h
  | y :: l, hs, x, h => by
    obtain ⟨h1, h2⟩ := srt_tail hs
    rw [getP_cons]
    rcases List.mem_cons.1 h with rfl | h
    · rw [decide_eq_true rfl]; rfl
    · rw [decide_eq_false (lt_ne (h2 x h)), cond_false]
      exact get_mem h1 h
end Go.Proofs.YtjoggjjjlafdmaaDoor.E
end
section
namespace Go.Proofs.YtjoggjjjlafdmaaDoor.E
open Go
set_option maxHeartbeats 4000000
set_option maxRecDepth 100000
theorem last_loop (ws : List Wrt) (l r : List Item) (k : Int) (h0 : 0 ≤ k) (h1 : k < ws.length) (hl : ws.length ≤ 1000) : ∃ b, g_Lw_FnStoDo_4 ws k l r (true, k + 1) = some b ∧ (b = true → ∀ j (hj : j < ws.length), k.toNat < j → ws[j].1 ≠ (ws[k.toNat]'(by omega)).1) := by
  have hk : k.toNat < ws.length := by omega
  refine loop_inv (step := g_Sw_FnStoDo_4 ws k l r) (fun x => k + 1 ≤ x.2 ∧ x.2 ≤ ws.length ∧ (x.1 = true → ∀ j (hj : j < ws.length), k.toNat < j → (j : Int) < x.2 → ws[j].1 ≠ ws[k.toNat].1)) _ (fun x => (ws.length - x.2).toNat) ?_ _ ⟨by simp, by simp only; omega, fun _ j hj h2 h3 => by simp only at h3; omega⟩
  rintro ⟨b, x⟩ ⟨i1, i2, i3⟩
  simp only at i1 i2 i3
  by_cases hx : x < (ws.length : Int)
  · have hn : x.toNat < ws.length := by omega
    have hw : IntKind.wrap .i64 (x + 1) = x + 1 := wrap64 (by omega)
    cases b
    · refine .inl ⟨(false, x + 1), ?_, ⟨by simp only; omega, by simp only; omega, fun e => by cases e⟩, by simp only; omega⟩
      simp only [g_Sw_FnStoDo_4, RT.sel, decide_eq_true hx, cond_true, cond_false, hw]
    · have hat : at_ (.pair .str (.pair .bool (.sl 3 (.int .i64)))) ws x.toNat = ws[x.toNat] := at_eq (e := WW_) hn
      have hak : at_ (.pair .str (.pair .bool (.sl 3 (.int .i64)))) ws k.toNat = ws[k.toNat] := at_eq (e := WW_) hk
      have v0 : decide ((0 : Int) ≤ x ∧ x < (ws.length : Int)) = true := decide_eq_true (by omega)
      have v1 : decide ((0 : Int) ≤ k ∧ k < (ws.length : Int)) = true := decide_eq_true ⟨h0, h1⟩
      refine .inl ⟨(!decide (ws[x.toNat].1 = ws[k.toNat].1), x + 1), ?_, ⟨by simp only; omega, by simp only; omega, fun e j hj h2 h3 => ?_⟩, by simp only; omega⟩
      · simp only [g_Sw_FnStoDo_4, RT.sel, decide_eq_true hx, cond_true, hat, hak, v0, v1, beq_list, hw]
      · by_cases ej : (j : Int) = x
        · have : x.toNat = j := by omega
          simp only [this] at e
          simpa using e
        · exact i3 rfl j hj h2 (by simp only at h3; omega)
  · refine .inr ⟨b, ?_, fun e j hj h2 => i3 e j hj h2 (by omega)⟩
    simp only [g_Sw_FnStoDo_4, RT.sel, decide_eq_false hx, cond_true, cond_false]
theorem written_loop (ws : List Wrt) (l r : List Item) (k : Int) (h0 : 0 ≤ k) (h1 : k < l.length) (hl : ws.length ≤ 1000) : ∃ b, g_Lw_FnStoDo_8 ws k l r (false, 0) = some b ∧ (b = false → ∀ w ∈ ws, w.1 ≠ (l[k.toNat]'(by omega)).1) := by
  have hk : k.toNat < l.length := by omega
  refine loop_inv (step := g_Sw_FnStoDo_8 ws k l r) (fun x => 0 ≤ x.2 ∧ x.2 ≤ ws.length ∧ (x.1 = false → ∀ w ∈ ws.take x.2.toNat, w.1 ≠ l[k.toNat].1)) _ (fun x => (ws.length - x.2).toNat) ?_ _ ⟨by simp, by simp, fun _ => by simp⟩
  rintro ⟨b, x⟩ ⟨i1, i2, i3⟩
  simp only at i1 i2 i3
  by_cases hx : x < (ws.length : Int)
  · have hn : x.toNat < ws.length := by omega
    have hw : IntKind.wrap .i64 (x + 1) = x + 1 := wrap64 (by omega)
    cases b
    · have hat : at_ (.pair .str (.pair .bool (.sl 3 (.int .i64)))) ws x.toNat = ws[x.toNat] := at_eq (e := WW_) hn
      have hak : at_ (.pair .str (.sl 3 (.int .i64))) l k.toNat = l[k.toNat] := at_eq (e := TI_) hk
      have v0 : decide ((0 : Int) ≤ x ∧ x < (ws.length : Int)) = true := decide_eq_true (by omega)
      have v1 : decide ((0 : Int) ≤ k ∧ k < (l.length : Int)) = true := decide_eq_true ⟨h0, h1⟩
      refine .inl ⟨(decide (ws[x.toNat].1 = l[k.toNat].1), x + 1), ?_, ⟨by simp only; omega, by simp only; omega, fun e w hm => ?_⟩, by simp only; omega⟩
      · simp only [g_Sw_FnStoDo_8, RT.sel, decide_eq_true hx, cond_true, cond_false, hat, hak, v0, v1, beq_list, hw]
      · rw [show (x + 1).toNat = x.toNat + 1 by omega, List.take_succ_eq_append_getElem hn] at hm
        rcases List.mem_append.1 hm with hm | hm
        · exact i3 rfl w hm
        · rw [List.mem_singleton] at hm
          rw [hm]
          simpa using e
    · refine .inl ⟨(true, x + 1), ?_, ⟨by simp only; omega, by simp only; omega, fun e => by cases e⟩, by simp only; omega⟩
      simp only [g_Sw_FnStoDo_8, RT.sel, decide_eq_true hx, cond_true, hw]
  · refine .inr ⟨b, ?_, fun e => by have := i3 e; rwa [List.take_of_length_le (by omega)] at this⟩
    simp only [g_Sw_FnStoDo_8, RT.sel, decide_eq_false hx, cond_true, cond_false]
theorem pure_FnStoDo (a : List Int) (ok : a.length ≤ maxLen ∧ ∀ n ∈ a, (Lit.int .u8 n).wf = true) : Fw_FnStoDo [argRV false (.sl 5 (.int .u8)) a] = some (true, .val false [.bool true], []) := by
  show some (g_Aw_FnStoDo a, RV.val false [Cell.bool (g_Vw_FnStoDo_0 a)], []) = _
  have key : g_Aw_FnStoDo a = true ∧ g_Vw_FnStoDo_0 a = true := by
    by_cases hl : (a.length : Int) > 1048576
    · unfold g_Aw_FnStoDo g_Vw_FnStoDo_0
      rw [decide_eq_true hl]; exact ⟨rfl, rfl⟩
    · obtain ⟨d1, d2, d3, d4⟩ := drawStoDo_f a ok.2
      unfold g_Aw_FnStoDo g_Vw_FnStoDo_0
      rw [decide_eq_false hl, d1]
      generalize g_Vs_DrawStoDo_0 a = s at d2
      generalize g_Vs_DrawStoDo_1 a = ws at d3 d4
      have big : ∀ x ∈ s, x.2.length ≤ 1048576 := fun x hx => by have := d2.2 x hx; omega
      have hsl := d2.1
      have wbig : ∀ w ∈ ws, w.2.2.length ≤ 1048576 := fun w hw => by have := d4 w hw; omega
      obtain ⟨a1, a2⟩ := i_StoDo_f s ws (by omega) big (by omega) wbig
      obtain ⟨b1, b2⟩ := s_StoDo_f s ws (by omega) big (by omega) wbig
      obtain ⟨c1, c2⟩ := s_StoOk_f s (by omega) big
      have hst := doS_store s ws
      have hb := store_big hst
      obtain ⟨j1, j2⟩ := jaSto_self (doS s ws) (by omega) hb.2
      obtain ⟨k1, k2⟩ := i_StoOk_f (doS s ws) (by omega) hb.2
      rw [hst] at k2
      rw [a1, a2, b1, b2, c1, c2, j1, j2, k1, k2, jaOk_f.1, jaOk_f.2]
      have hw3 : IntKind.wrap .i64 ((ws.length : Int) + (s.length : Int)) = ws.length + s.length := wrap64 (by omega)
      rw [hw3]
      cases hs : storeP s
      · have e0 : doS s ws = [] := by unfold doS; rw [hs]; rfl
        rw [e0]
        exact ⟨rfl, rfl⟩
      · have L : ∃ r, g_Lw_FnStoDo_0 ws s (doS s ws) 0 = some r ∧ (match r with
            | .inl b => b = true
            | .inr _ => ∀ w ∈ ws, wrtP w.1 w.2.1 w.2.2 = true) := by
          refine loop_inv (step := g_Sw_FnStoDo_0 ws s (doS s ws)) (fun x => 0 ≤ x ∧ x ≤ ws.length ∧ ∀ w ∈ ws.take x.toNat, wrtP w.1 w.2.1 w.2.2 = true) _ (fun x => (ws.length - x).toNat) ?_ _ ⟨by omega, by omega, by simp⟩
          rintro x ⟨i1, i2, i3⟩
          by_cases hx : x < ws.length
          · have hn : x.toNat < ws.length := by omega
            have hat : at_ (.pair .str (.pair .bool (.sl 3 (.int .i64)))) ws x.toNat = ws[x.toNat] := at_eq (e := WW_) hn
            have hv := wbig _ (List.getElem_mem hn)
            obtain ⟨q1, q2⟩ := s_WrtOk_f ws[x.toNat].1 ws[x.toNat].2.1 ws[x.toNat].2.2 hv
            have v0 : decide ((0 : Int) ≤ x ∧ x < (ws.length : Int)) = true := decide_eq_true ⟨i1, hx⟩
            cases hp : wrtP ws[x.toNat].1 ws[x.toNat].2.1 ws[x.toNat].2.2
            · rw [hp] at q2
              refine .inr ⟨.inl true, ?_, rfl⟩
              have e0 : doS s ws = [] := doS_bad ⟨_, List.getElem_mem hn, hp⟩
              have z0 : ((([] : List Item).length : Int) == 0) = true := rfl
              simp only [g_Sw_FnStoDo_0, RT.sel, decide_eq_true hx, cond_true, v0, hat, q1, q2, Bool.not_false, e0, z0, jaOk_f.1, jaOk_f.2]
            · rw [hp] at q2
              refine .inl ⟨x + 1, ?_, ⟨by omega, by omega, fun w hw => ?_⟩, by omega⟩
              · simp only [g_Sw_FnStoDo_0, RT.sel, decide_eq_true hx, cond_true, v0, hat, q1, q2, Bool.not_true, cond_false, wrap64 (x := x + 1) (by omega)]
              · rw [show (x + 1).toNat = x.toNat + 1 by omega, List.take_succ_eq_append_getElem hn] at hw
                rcases List.mem_append.1 hw with hw | hw
                · exact i3 w hw
                · rw [List.mem_singleton] at hw; rw [hw]; exact hp
          · refine .inr ⟨.inr (), ?_, ?_⟩
            · simp only [g_Sw_FnStoDo_0, RT.sel, decide_eq_false hx, cond_true, cond_false]
            · rwa [List.take_of_length_le (by omega)] at i3
        obtain ⟨r, r1, r2⟩ := L
        rw [r1]
        match r, r2 with
        | .inl b, r2 =>
          have r2 : b = true := r2
          subst r2
          exact ⟨rfl, rfl⟩
        | .inr _, r2 =>
          by_cases hc : ((ws.length : Int) + (s.length : Int)) > 40
          · rw [decide_eq_true hc]; exact ⟨rfl, rfl⟩
          · rw [decide_eq_false hc]
            have hsrt := ((storeP_iff s).1 hs).2.2
            obtain ⟨x, e1, e2⟩ := doL_room hsrt (ws := ws) (by omega) r2
            have ex : doS s ws = x := by rw [doS_of hs, e1]; rfl
            have hg : ∀ key, getP (doS s ws) key = afterW (lastW ws key) (getP s key) := fun key => by rw [ex]; exact getP_doL key hsrt e1
            have get : ∀ key, g_Ai_StoGet (doS s ws) key = true ∧ g_Vi_StoGet_0 (doS s ws) key = (getP (doS s ws) key).getD [] ∧ g_Vi_StoGet_1 (doS s ws) key = (getP (doS s ws) key).isSome := fun key => by
              have := i_StoGet_f (doS s ws) key (by omega) hb.2
              rw [hst] at this
              exact this
            have L2 : ∃ r, g_Lw_FnStoDo_2 ws s (doS s ws) 0 = some r ∧ r = .inr () := by
              refine loop_inv (step := g_Sw_FnStoDo_2 ws s (doS s ws)) (fun x => 0 ≤ x ∧ x ≤ ws.length) _ (fun x => (ws.length - x).toNat) ?_ _ ⟨by omega, by omega⟩
              rintro x ⟨i1, i2⟩
              by_cases hx : x < ws.length
              · have hn : x.toNat < ws.length := by omega
                have hat : at_ (.pair .str (.pair .bool (.sl 3 (.int .i64)))) ws x.toNat = ws[x.toNat] := at_eq (e := WW_) hn
                have hv := wbig _ (List.getElem_mem hn)
                have v0 : decide ((0 : Int) ≤ x ∧ x < (ws.length : Int)) = true := decide_eq_true ⟨i1, hx⟩
                have hw : IntKind.wrap .i64 (x + 1) = x + 1 := wrap64 (by omega)
                obtain ⟨b, l1, l2⟩ := last_loop ws s (doS s ws) x i1 hx (by omega)
                obtain ⟨g1, g2, g3⟩ := get ws[x.toNat].1
                refine .inl ⟨x + 1, ?_, ⟨by omega, by omega⟩, by omega⟩
                cases b
                · simp only [g_Sw_FnStoDo_2, RT.sel, decide_eq_true hx, cond_true, v0, hat, hw, l1, okO, valO, Option.isSome_some, Option.getD_some, g1, cond_false]
                · have hl := lastW_last hn (l2 rfl)
                  rw [hg, hl] at g2 g3
                  unfold afterW at g2 g3
                  cases hd : ws[x.toNat].2.1
                  · simp only [hd, cond_false, Option.getD_some, Option.isSome_some] at g2 g3
                    obtain ⟨m1, m2⟩ := jaInts_self ws[x.toNat].2.2 hv
                    have tf : ((true : Bool) == false) = false := rfl
                    simp only [g_Sw_FnStoDo_2, RT.sel, decide_eq_true hx, cond_true, v0, hat, hw, l1, okO, valO, Option.isSome_some, Option.getD_some, g1, g2, g3, hd, cond_false, tf, Bool.not_false, Bool.not_true, m1, m2]
                  · simp only [hd, cond_true, Option.getD_none, Option.isSome_none] at g2 g3
                    have tf : ((false : Bool) == true) = false := rfl
                    simp only [g_Sw_FnStoDo_2, RT.sel, decide_eq_true hx, cond_true, v0, hat, hw, l1, okO, valO, Option.isSome_some, Option.getD_some, g1, g3, hd, cond_false, tf, Bool.not_false, Bool.not_true]
              · refine .inr ⟨.inr (), ?_, rfl⟩
                simp only [g_Sw_FnStoDo_2, RT.sel, decide_eq_false hx, cond_true, cond_false]
            have L6 : ∃ r, g_Lw_FnStoDo_6 ws s (doS s ws) 0 = some r ∧ r = .inr () := by
              refine loop_inv (step := g_Sw_FnStoDo_6 ws s (doS s ws)) (fun x => 0 ≤ x ∧ x ≤ s.length) _ (fun x => (s.length - x).toNat) ?_ _ ⟨by omega, by omega⟩
              rintro x ⟨i1, i2⟩
              by_cases hx : x < s.length
              · have hn : x.toNat < s.length := by omega
                have hat : at_ (.pair .str (.sl 3 (.int .i64))) s x.toNat = s[x.toNat] := at_eq (e := TI_) hn
                have hv := big _ (List.getElem_mem hn)
                have v0 : decide ((0 : Int) ≤ x ∧ x < (s.length : Int)) = true := decide_eq_true ⟨i1, hx⟩
                have hw : IntKind.wrap .i64 (x + 1) = x + 1 := wrap64 (by omega)
                obtain ⟨b, l1, l2⟩ := written_loop ws s (doS s ws) x i1 hx (by omega)
                obtain ⟨g1, g2, g3⟩ := get s[x.toNat].1
                refine .inl ⟨x + 1, ?_, ⟨by omega, by omega⟩, by omega⟩
                cases b
                · have hl := lastW_none s[x.toNat].1 (l2 rfl)
                  rw [hg, hl] at g2 g3
                  unfold afterW at g2 g3
                  rw [get_mem hsrt (List.getElem_mem hn)] at g2 g3
                  simp only [Option.getD_some, Option.isSome_some] at g2 g3
                  obtain ⟨m1, m2⟩ := jaInts_self s[x.toNat].2 hv
                  simp only [g_Sw_FnStoDo_6, RT.sel, decide_eq_true hx, cond_true, v0, hat, hw, l1, okO, valO, Option.isSome_some, Option.getD_some, g1, g2, g3, cond_false, Bool.not_false, Bool.not_true, m1, m2]
                · simp only [g_Sw_FnStoDo_6, RT.sel, decide_eq_true hx, cond_true, v0, hat, hw, l1, okO, valO, Option.isSome_some, Option.getD_some, g1, cond_false, Bool.not_true]
              · refine .inr ⟨.inr (), ?_, rfl⟩
                simp only [g_Sw_FnStoDo_6, RT.sel, decide_eq_false hx, cond_true, cond_false]
            obtain ⟨q2, t1, t2⟩ := L2
            obtain ⟨q6, u1, u2⟩ := L6
            rw [t1, u1, t2, u2]
            exact ⟨rfl, rfl⟩
  rw [key.1, key.2]
end Go.Proofs.YtjoggjjjlafdmaaDoor.E
end
