/- What these values are, in plain words: for the proof (laws.FnExactDiskFold): part 1. No conditions. -/
import Derived.Test.YtjoggjjjlafdmaaGreatDoorGc
import Derived.Lib.SlTrimSet
set_option linter.all false
namespace Go.Proofs.YtjoggjjjlafdmaaGreatDoor.E
open Go
set_option maxRecDepth 100000
set_option maxHeartbeats 0
theorem wrap64 {x : Int} (h : -9223372036854775808 ≤ x ∧ x < 9223372036854775808) : IntKind.wrap .i64 x = x := by
 simp only [IntKind.wrap, IntKind.bits, IntKind.signed]
 simp
 omega
def forR {α ρ : Type} (f : Nat → α → α ⊕ ρ) (fin : α → ρ) : Nat → Nat → α → ρ
 | 0, _, a => fin a
 | k + 1, i, a => match f i a with
  | .inl a' => forR f fin k (i + 1) a'
  | .inr r => r
section
variable {σ ρ α β : Type} {step : σ → RT σ ρ}
theorem loop_for (mk : Nat → α → σ) (f : Nat → α → α ⊕ ρ) (fin : α → ρ) (n : Nat) (J : Nat → α → Prop)
  (h1 : ∀ i a, i < n → J i a → (step (mk i a)).sel = (match f i a with | .inl a' => .go (mk (i + 1) a') | .inr r => .out r) ∧ ∀ a', f i a = .inl a' → J (i + 1) a')
  (h2 : ∀ a, J n a → (step (mk n a)).sel = .out (fin a)) : ∀ (k i : Nat) (a : α), i + k = n → J i a → loopO step (mk i a) = some (forR f fin k i a) := by
 intro k
 induction k with
 | zero =>
  intro i a hi hJ
  have hi : i = n := by omega
  subst hi
  rw [loopO_eq, h2 a hJ]
  rfl
 | succ k ih =>
  intro i a hi hJ
  obtain ⟨h3, h4⟩ := h1 i a (by omega) hJ
  rw [loopO_eq, h3]
  unfold forR
  cases hf : f i a with
  | inl a' => simp only; exact ih (i + 1) a' (by omega) (h4 a' hf)
  | inr r => rfl
theorem loop_all (mk : Nat → σ) (p : Nat → Bool) (e fin : ρ) (n : Nat) (h1 : ∀ i, i < n → (step (mk i)).sel = bif p i then .go (mk (i + 1)) else .out e) (h2 : (step (mk n)).sel = .out fin) :
  loopO step (mk 0) = some (bif (List.range n).all p then fin else e) := by
 have key : ∀ k i, i + k = n → loopO step (mk i) = some (bif (List.range' i k).all p then fin else e) := by
  intro k
  induction k with
  | zero =>
   intro i hi
   have hi : i = n := by omega
   subst hi
   rw [loopO_eq, h2]
   rfl
  | succ k ih =>
   intro i hi
   rw [loopO_eq, h1 i (by omega), List.range'_succ, List.all_cons]
   cases p i with
   | true => simp only [cond_true, Bool.true_and]; exact ih (i + 1) (by omega)
   | false => rfl
 rw [key n 0 (by omega), List.range_eq_range']
theorem range_all {e : Ty} (l : List e.den) (p : e.den → Bool) : (List.range l.length).all (fun i => p (at_ e l i)) = l.all p := by
 rw [Bool.eq_iff_iff, List.all_eq_true, List.all_eq_true]
 constructor
 ·intro h x hx
  obtain ⟨i, hi, rfl⟩ := List.getElem_of_mem hx
  have := h i (List.mem_range.2 hi)
  simpa [at_, hi] using this
 ·intro h i hi
  have hi := List.mem_range.1 hi
  have := h l[i] (List.getElem_mem hi)
  simpa [at_, hi] using this
theorem at_mem {e : Ty} {l : List e.den} {i : Nat} (h : i < l.length) : at_ e l i ∈ l := by
 have : at_ e l i = l[i] := by simp [at_, h]
 rw [this]
 exact List.getElem_mem h
theorem at_eq {e : Ty} {l : List e.den} {i : Nat} (h : i < l.length) : at_ e l i = l[i] := by simp [at_, h]
theorem loop_list {e : Ty} (l : List e.den) (mk : Nat → σ) (p : e.den → Bool) (x fin : ρ) (h1 : ∀ i, i < l.length → (step (mk i)).sel = bif p (at_ e l i) then .go (mk (i + 1)) else .out x) (h2 : (step (mk l.length)).sel = .out fin) :
  loopO step (mk 0) = some (bif l.all p then fin else x) := by
 rw [loop_all mk (fun i => p (at_ e l i)) x fin l.length h1 h2, range_all]
theorem loop_map {e : Ty} (l : List e.den) {ρ : Type} {step : List β × Int → RT (List β × Int) ρ} (g : e.den → β) (out : List β → ρ)
  (h1 : ∀ (i : Nat) (r : List β), i < l.length → r.length = l.length → (step (r, (i : Int))).sel = .go (r.set i (g (at_ e l i)), ((i + 1 : Nat) : Int)))
  (h2 : ∀ r : List β, r.length = l.length → (step (r, (l.length : Int))).sel = .out (out r)) (r0 : List β) (h0 : r0.length = l.length) : loopO step (r0, 0) = some (out (l.map g)) := by
 have key : ∀ (k i : Nat) (r : List β), i + k = l.length → r.length = l.length → r.take i = (l.map g).take i → loopO step (r, (i : Int)) = some (out (l.map g)) := by
  intro k
  induction k with
  | zero =>
   intro i r hi hr ht
   have hi : i = l.length := by omega
   subst hi
   rw [loopO_eq, h2 r hr]
   have e1 : r.take l.length = r := by rw [← hr, List.take_length]
   have e2 : (l.map g).take l.length = l.map g := by rw [List.take_of_length_le (by simp)]
   rw [e1, e2] at ht
   rw [ht]
  | succ k ih =>
   intro i r hi hr ht
   rw [loopO_eq, h1 i r (by omega) hr]
   simp only
   refine ih (i + 1) _ (by omega) (by simp [hr]) ?_
   have hil : i < l.length := by omega
   rw [List.take_succ, List.take_succ, List.take_set_of_le (by omega), ht]
   congr 1
   simp [hr, hil, at_]
 exact key l.length 0 r0 (by omega) h0 (by simp)
def sumF (t : Nat → Nat) : Nat → Nat → Nat
 | 0, _ => 0
 | k + 1, i => t i + sumF t k (i + 1)
def left_ (t : Nat) (left : Int) : Int := if (t : Int) ≤ left then left - t else -1
theorem loop_sz {step : Int × Int → RT (Int × Int) ((Int × Int) ⊕ Int)} (t : Nat → Nat) (n : Nat) (h1 : ∀ (i : Nat) (left : Int), i < n → 0 ≤ left → left ≤ 1048576 → (step (left, (i : Int))).sel = bif decide ((t i : Int) ≤ left) then .go (left - t i, ((i + 1 : Nat) : Int)) else .out (.inl (-1, -1)))
  (h2 : ∀ left : Int, (step (left, (n : Int))).sel = .out (.inr left)) (left : Int) (h0 : 0 ≤ left) (hl : left ≤ 1048576) :
  ∃ r, loopO step (left, 0) = some r ∧ (bif isL r then (getL r).2 else getR r) = left_ (sumF t n 0) left := by
 have key : ∀ (k i : Nat) (left : Int), i + k = n → 0 ≤ left → left ≤ 1048576 → ∃ r, loopO step (left, (i : Int)) = some r ∧ (bif isL r then (getL r).2 else getR r) = left_ (sumF t k i) left := by
  intro k
  induction k with
  | zero =>
   intro i left hi h0 hl
   have hi : i = n := by omega
   subst hi
   refine ⟨.inr left, by rw [loopO_eq, h2], ?_⟩
   simp [isL, getR, left_, sumF, h0]
  | succ k ih =>
   intro i left hi h0 hl
   rw [loopO_eq, h1 i left (by omega) h0 hl]
   by_cases hc : (t i : Int) ≤ left
   ·simp only [hc, decide_true, cond_true]
    obtain ⟨r, e1, e2⟩ := ih (i + 1) (left - t i) (by omega) (by omega) (by omega)
    refine ⟨r, e1, ?_⟩
    rw [e2]
    unfold left_
    have e3 : sumF t (k + 1) i = t i + sumF t k (i + 1) := rfl
    rw [e3]
    by_cases hc2 : (sumF t k (i + 1) : Int) ≤ left - t i
    ·rw [if_pos hc2, if_pos (by omega)]; omega
    ·rw [if_neg hc2, if_neg (by omega)]
   ·simp only [hc, decide_false, cond_false]
    refine ⟨_, rfl, ?_⟩
    have e3 : sumF t (k + 1) i = t i + sumF t k (i + 1) := rfl
    simp only [isL, getL, cond_true, left_]
    rw [e3, if_neg (by omega)]
 exact key n 0 left (by omega) h0 hl
theorem loop_idx {e : Ty} (l : List e.den) {step : Int → RT Int (Int ⊕ Unit)} (q : e.den → Bool) (h1 : ∀ i : Nat, i < l.length → (step (i : Int)).sel = bif q (at_ e l i) then .out (.inl (i : Int)) else .go ((i + 1 : Nat) : Int))
  (h2 : (step (l.length : Int)).sel = .out (.inr ())) : ∃ r, loopO step 0 = some r ∧ decide ((bif isL r then getL r else (-1 : Int)) ≥ 0) = l.any q := by
 have key : ∀ (k i : Nat), i + k = l.length → ∃ r, loopO step (i : Int) = some r ∧ decide ((bif isL r then getL r else (-1 : Int)) ≥ 0) = (l.drop i).any q := by
  intro k
  induction k with
  | zero =>
   intro i hi
   have hi : i = l.length := by omega
   subst hi
   refine ⟨_, by rw [loopO_eq, h2], ?_⟩
   simp [isL]
  | succ k ih =>
   intro i hi
   rw [loopO_eq, h1 i (by omega)]
   have hil : i < l.length := by omega
   rw [List.drop_eq_getElem_cons hil, List.any_cons, at_eq hil]
   cases hq : q l[i] with
   | true => exact ⟨_, rfl, by simp [isL, getL]⟩
   | false => simp only [cond_false, Bool.false_or]; exact ih (i + 1) (by omega)
 exact key l.length 0 (by omega)
end
theorem dropWhile_nil {α : Type} (p : α → Bool) (l : List α) : l.dropWhile p = [] ↔ ∀ x ∈ l, p x = true := by
 induction l with
 | nil => simp
 | cons a l ih =>
  by_cases h : p a = true
  ·rw [List.dropWhile_cons_of_pos h, ih]; simp [h]
  ·rw [List.dropWhile_cons_of_neg h]; simp [h]
theorem trimS_nil (l cs : List UInt8) : (Lib.trimS l cs = []) ↔ l.all (cs.contains ·) = true := by
 unfold Lib.trimS Lib.trimLeftS Lib.trimRightS
 constructor
 ·intro h
  rw [dropWhile_nil] at h
  rw [List.all_eq_true]
  intro x hx
  have h2 : ∀ (m : List UInt8), (∀ y ∈ (m.dropWhile (cs.contains ·)).reverse, cs.contains y = true) → ∀ y ∈ m, cs.contains y = true := by
   intro m
   induction m with
   | nil => intro _ y hy; cases hy
   | cons a m ih =>
    intro hm y hy
    by_cases ha : cs.contains a = true
    ·rw [List.dropWhile_cons_of_pos ha] at hm
     rcases List.mem_cons.1 hy with rfl | hy
     ·exact ha
     ·exact ih hm y hy
    ·rw [List.dropWhile_cons_of_neg ha] at hm
     exact hm y (List.mem_reverse.2 hy)
  exact h2 l.reverse (fun y hy => h y hy) x (by simpa using hx)
 ·intro h
  rw [List.all_eq_true] at h
  rw [dropWhile_nil]
  intro x hx
  have : x ∈ l := by
   have h3 := List.mem_reverse.1 hx
   have := (List.dropWhile_sublist (fun x => cs.contains x) (l := l.reverse)).subset h3
   simpa using this
  exact h x this
theorem maxLen_lt {n : Nat} (h : n ≤ maxLen) : (n : Int) < 9223372036854775808 := by
 have : maxLen = 9223372036854775807 := by decide
 omega
theorem left_step {n : Nat} {left : Int} (h : (n : Int) < 9223372036854775808) (h0 : 0 ≤ left) (hl : left ≤ 1048576) : IntKind.wrap .i64 (left - (n : Int)) = left - n := wrap64 (by omega)
theorem left_two {a b : Nat} {left : Int} : (bif decide (left - (a : Int) < 0) then (-1 : Int) else left_ b (left - a)) = left_ (a + b) left := by
 unfold left_
 by_cases h : left - (a : Int) < 0
 ·rw [decide_eq_true h, cond_true, if_neg (by omega)]
 ·rw [decide_eq_false h, cond_false]
  by_cases h2 : (b : Int) ≤ left - a
  ·rw [if_pos h2, if_pos (by omega)]; omega
  ·rw [if_neg h2, if_neg (by omega)]
theorem left_neg (a : Nat) (left : Int) (h0 : 0 ≤ left) : (bif decide (left_ a left < 0) then (-1 : Int) else left_ a left) = left_ a left := by
 unfold left_
 split
 ·rw [decide_eq_false (by omega), cond_false]
 ·rfl
theorem left_dec (a : Nat) (left : Int) (h0 : 0 ≤ left) : decide (left_ a left < 0) = !decide ((a : Int) ≤ left) := by
 unfold left_
 by_cases h : (a : Int) ≤ left
 ·rw [if_pos h, decide_eq_true h, decide_eq_false (by omega)]; rfl
 ·rw [if_neg h, decide_eq_false h]; rfl
theorem left_val {a : Nat} {left : Int} (h : (a : Int) ≤ left) : left_ a left = left - a := if_pos h
def szL {α : Type} (z : α → Nat) (l : List α) : Nat := l.length + (l.map z).sum
theorem sumF_sum {e : Ty} (l : List e.den) (z : e.den → Nat) : sumF (fun i => z (at_ e l i)) l.length 0 = (l.map z).sum := by
 have key : ∀ (k i : Nat), i + k = l.length → sumF (fun i => z (at_ e l i)) k i = ((l.drop i).map z).sum := by
  intro k
  induction k with
  | zero => intro i hi; rw [List.drop_eq_nil_of_le (by omega)]; rfl
  | succ k ih =>
   intro i hi
   have hil : i < l.length := by omega
   unfold sumF
   rw [ih (i + 1) (by omega), List.drop_eq_getElem_cons hil, List.map_cons, List.sum_cons, at_eq hil]
 exact key l.length 0 (by omega)
theorem szL_len {α : Type} {z : α → Nat} {l : List α} {B : Nat} (h : szL z l ≤ B) : l.length ≤ B ∧ ∀ x ∈ l, z x ≤ B := by
 unfold szL at h
 refine ⟨by omega, fun x hx => ?_⟩
 have key : ∀ l : List α, x ∈ l → z x ≤ (l.map z).sum := by
  intro l
  induction l with
  | nil => intro h; cases h
  | cons a l ih =>
   intro h
   rw [List.map_cons, List.sum_cons]
   rcases List.mem_cons.1 h with rfl | h
   ·omega
   ·have := ih h; omega
 have := key l hx
 omega
theorem szIntS_f (l : List Int) (hl : l.length ≤ maxLen) (left : Int) (h0 : 0 ≤ left) (h1 : left ≤ 1048576) : g_Vw_szIntS_0 l left = left_ l.length left := by
 have := maxLen_lt hl
 unfold g_Vw_szIntS_0 left_
 rw [left_step this h0 h1]
 by_cases h : left - (l.length : Int) < 0
 ·rw [decide_eq_true h, cond_true, if_neg (by omega)]
 ·rw [decide_eq_false h, cond_false, if_pos (by omega)]
theorem toIntS_f (l : List Int) (hl : l.length ≤ 1048576) : g_Aw_toIntS l = true ∧ g_Vw_toIntS_0 l = l := by
 have h : g_Lw_toIntS_0 l (List.replicate (Int.toNat (l.length : Int)) 0, 0) = some (l.map id) := by
  refine loop_map (e := .int .i64) l id id (fun i r hi hr => ?_) (fun r hr => ?_) _ (by simp)
  ·have k1 : (i : Int) < l.length := by omega
   have k2 : (0 : Int) ≤ (i : Int) := by omega
   have k3 : (i : Int) < r.length := by omega
   have k4 : i < r.length := by omega
   have hw : IntKind.wrap .i64 ((i : Int) + 1) = ((i + 1 : Nat) : Int) := by rw [wrap64 (by omega)]; omega
   simp only [g_Sw_toIntS_0, RT.sel, cond_true, k1, k2, k3, k4, hw, decide_true, and_self, Int.toNat_natCast, id]
  ·simp [g_Sw_toIntS_0, RT.sel]
 rw [List.map_id] at h
 constructor
 ·rw [Int.toNat_natCast] at h; simp [g_Aw_toIntS, h, okO]; omega
 ·simp only [g_Vw_toIntS_0, h, valO, Option.getD_some]
theorem eqIntS_self (l : List Int) (hl : l.length ≤ 1048576) : g_Aw_eqIntS l l = true ∧ g_Vw_eqIntS_0 l l = true := by
 have h : g_Lw_eqIntS_0 l l 0 = some (.inr ()) := by
  have := loop_all (step := g_Sw_eqIntS_0 l l) (fun i : Nat => (i : Int)) (fun _ => true) (.inl false) (.inr ()) l.length (fun i hi => by
   have k1 : (i : Int) < l.length := by omega
   have k2 : (0 : Int) ≤ (i : Int) := by omega
   have hw : IntKind.wrap .i64 ((i : Int) + 1) = ((i + 1 : Nat) : Int) := by rw [wrap64 (by omega)]; omega
   simp only [g_Sw_eqIntS_0, RT.sel, cond_true, k1, k2, hw, decide_true, and_self, Int.toNat_natCast, bne_self_eq_false, cond_false]) (by simp [g_Sw_eqIntS_0, RT.sel])
  rw [show (List.range l.length).all (fun _ => true) = true by simp] at this
  exact this
 simp [g_Aw_eqIntS, g_Vw_eqIntS_0, h, okO, valO, isL]
theorem szStringS_f (l : List ByteArray) (hl : l.length ≤ maxLen) (hok : ∀ w ∈ l, w.size ≤ maxLen) (left : Int) (h0 : 0 ≤ left) (h1 : left ≤ 1048576) : g_Aw_szStringS l left = true ∧ g_Vw_szStringS_0 l left = left_ (szL ByteArray.size l) left := by
 have hm := maxLen_lt hl
 unfold g_Aw_szStringS g_Vw_szStringS_0
 rw [left_step hm h0 h1]
 by_cases h : left - (l.length : Int) < 0
 ·rw [decide_eq_true h]
  refine ⟨rfl, ?_⟩
  unfold left_ szL
  rw [cond_true, if_neg (by omega)]
 ·rw [decide_eq_false h]
  have key : ∃ r, loopO (g_Sw_szStringS_0 l) (left - l.length, 0) = some r ∧ (bif isL r then (getL r).2 else getR r) = left_ (l.map ByteArray.size).sum (left - l.length) := by
   have hfor := loop_for (step := g_Sw_szStringS_0 l) (fun (i : Nat) (a : Int) => (a, (i : Int))) (fun i a => if ((at_ .str l i).size : Int) ≤ a then .inl (a - (at_ .str l i).size) else .inr (.inl (a - (at_ .str l i).size, -1))) (fun a => .inr a) l.length (fun _ a => 0 ≤ a ∧ a ≤ 1048576) (fun i a hi ha => by
    have k1 : (i : Int) < l.length := by omega
    have k2 : (0 : Int) ≤ (i : Int) := by omega
    have hw : IntKind.wrap .i64 ((i : Int) + 1) = ((i + 1 : Nat) : Int) := by rw [wrap64 (by omega)]; omega
    have hit := maxLen_lt (hok _ (at_mem (e := .str) hi))
    have q1 := left_step hit ha.1 ha.2
    simp only [g_Sw_szStringS_0, RT.sel, cond_true, k1, k2, hw, decide_true, and_self, Int.toNat_natCast, q1]
    by_cases hc : ((at_ .str l i).size : Int) ≤ a
    ·rw [if_pos hc, decide_eq_false (by omega)]
     exact ⟨rfl, fun a' e => by cases e; omega⟩
    ·rw [if_neg hc, decide_eq_true (by omega)]
     exact ⟨rfl, fun a' e => by cases e⟩) (fun a _ => by simp [g_Sw_szStringS_0, RT.sel]) l.length 0 (left - l.length) (by omega) ⟨by omega, by omega⟩
   refine ⟨_, hfor, ?_⟩
   have hs : ∀ (k i : Nat) (a : Int), i + k = l.length → 0 ≤ a → (bif isL (forR (fun i a => if ((at_ .str l i).size : Int) ≤ a then .inl (a - (at_ .str l i).size) else .inr (.inl (a - (at_ .str l i).size, -1))) (fun a => (.inr a : (Int × Int) ⊕ Int)) k i a) then (getL (forR (fun i a => if ((at_ .str l i).size : Int) ≤ a then .inl (a - (at_ .str l i).size) else .inr (.inl (a - (at_ .str l i).size, -1))) (fun a => (.inr a : (Int × Int) ⊕ Int)) k i a)).2 else getR (forR (fun i a => if ((at_ .str l i).size : Int) ≤ a then .inl (a - (at_ .str l i).size) else .inr (.inl (a - (at_ .str l i).size, -1))) (fun a => (.inr a : (Int × Int) ⊕ Int)) k i a)) = left_ (sumF (fun i => (at_ .str l i).size) k i) a := by
    intro k
    induction k with
    | zero => intro i a _ h0; simp [forR, isL, getR, sumF, left_, h0]
    | succ k ih =>
     intro i a hi h0
     unfold forR sumF
     by_cases hc : ((at_ .str l i).size : Int) ≤ a
     ·simp only [if_pos hc]
      rw [ih (i + 1) _ (by omega) (by omega), ← left_two, decide_eq_false (by omega), cond_false]
     ·simp only [if_neg hc, isL, getL, cond_true]
      unfold left_
      rw [if_neg (by omega)]
   rw [hs l.length 0 _ (by omega) (by omega), sumF_sum (e := .str)]
  obtain ⟨r, e1, e2⟩ := key
  have e1 : g_Lw_szStringS_0 l (left - l.length, 0) = some r := e1
  rw [e1]
  refine ⟨rfl, ?_⟩
  simp only [valO, Option.getD_some, cond_false]
  rw [e2]
  show _ = left_ (l.length + (l.map ByteArray.size).sum) left
  rw [← left_two, decide_eq_false h, cond_false]
theorem toStringS_f (l : List ByteArray) (hl : l.length ≤ 1048576) : g_Aw_toStringS l = true ∧ g_Vw_toStringS_0 l = l := by
 have h : g_Lw_toStringS_0 l (List.replicate (Int.toNat (l.length : Int)) (lit []), 0) = some (l.map id) := by
  refine loop_map (e := .str) l id id (fun i r hi hr => ?_) (fun r hr => ?_) _ (by simp)
  ·have k1 : (i : Int) < l.length := by omega
   have k2 : (0 : Int) ≤ (i : Int) := by omega
   have k3 : (i : Int) < r.length := by omega
   have k4 : i < r.length := by omega
   have hw : IntKind.wrap .i64 ((i : Int) + 1) = ((i + 1 : Nat) : Int) := by rw [wrap64 (by omega)]; omega
   simp only [g_Sw_toStringS_0, RT.sel, cond_true, k1, k2, k3, k4, hw, decide_true, and_self, Int.toNat_natCast, id]
  ·simp [g_Sw_toStringS_0, RT.sel]
 rw [List.map_id] at h
 constructor
 ·rw [Int.toNat_natCast] at h; simp [g_Aw_toStringS, h, okO]; omega
 ·simp only [g_Vw_toStringS_0, h, valO, Option.getD_some]
theorem eqStringS_self (l : List ByteArray) (hl : l.length ≤ 1048576) : g_Aw_eqStringS l l = true ∧ g_Vw_eqStringS_0 l l = true := by
 have h : g_Lw_eqStringS_0 l l 0 = some (.inr ()) := by
  have := loop_all (step := g_Sw_eqStringS_0 l l) (fun i : Nat => (i : Int)) (fun _ => true) (.inl false) (.inr ()) l.length (fun i hi => by
   have k1 : (i : Int) < l.length := by omega
   have k2 : (0 : Int) ≤ (i : Int) := by omega
   have hw : IntKind.wrap .i64 ((i : Int) + 1) = ((i + 1 : Nat) : Int) := by rw [wrap64 (by omega)]; omega
   simp only [g_Sw_eqStringS_0, RT.sel, cond_true, k1, k2, hw, decide_true, and_self, Int.toNat_natCast, BEq.rfl, Bool.not_true, cond_false]) (by simp [g_Sw_eqStringS_0, RT.sel])
  rw [show (List.range l.length).all (fun _ => true) = true by simp] at this
  exact this
 simp [g_Aw_eqStringS, g_Vw_eqStringS_0, h, okO, valO, isL]
def szW (w : ByteArray × Bool × List Int) : Nat := w.1.size + w.2.2.length
def okW (w : ByteArray × Bool × List Int) : Prop := w.1.size ≤ maxLen ∧ True ∧ (w.2.2.length ≤ maxLen ∧ ∀ n ∈ w.2.2, (Lit.int .i64 n).wf = true)
theorem szStoWrite_f (k : ByteArray) (d : Bool) (l : List Int) (hk : k.size ≤ maxLen) (hl : l.length ≤ maxLen) (left : Int) (h0 : 0 ≤ left) (h1 : left ≤ 1048576) : g_Aw_szStoWrite k d l left = true ∧ g_Vw_szStoWrite_0 k d l left = left_ (k.size + l.length) left := by
 have := maxLen_lt hk
 constructor
 ·simp [g_Aw_szStoWrite]
 ·unfold g_Vw_szStoWrite_0
  rw [left_step this h0 h1]
  by_cases h : left - (k.size : Int) < 0
  ·rw [decide_eq_true h, cond_true]
   unfold left_
   rw [if_neg (by omega)]
  ·rw [szIntS_f l hl _ (by omega) (by omega), left_neg _ _ (by omega), left_two]
theorem szStoWriteS_f (l : List (ByteArray × Bool × List Int)) (hl : l.length ≤ maxLen) (hok : ∀ w ∈ l, okW w) (left : Int) (h0 : 0 ≤ left) (h1 : left ≤ 1048576) : g_Aw_szStoWriteS l left = true ∧ g_Vw_szStoWriteS_0 l left = left_ (szL szW l) left := by
 have hm := maxLen_lt hl
 unfold g_Aw_szStoWriteS g_Vw_szStoWriteS_0
 rw [left_step hm h0 h1]
 by_cases h : left - (l.length : Int) < 0
 ·rw [decide_eq_true h]
  refine ⟨rfl, ?_⟩
  unfold left_ szL
  rw [cond_true, if_neg (by omega)]
 ·rw [decide_eq_false h]
  obtain ⟨r, e1, e2⟩ := loop_sz (step := g_Sw_szStoWriteS_0 l) (fun i => szW (at_ (.pair .str (.pair .bool (.sl 3 (.int .i64)))) l i)) l.length (fun i left hi h0 h1 => by
   have k1 : (i : Int) < l.length := by omega
   have k2 : (0 : Int) ≤ (i : Int) := by omega
   have hw : IntKind.wrap .i64 ((i : Int) + 1) = ((i + 1 : Nat) : Int) := by rw [wrap64 (by omega)]; omega
   have hit := hok _ (at_mem (e := .pair .str (.pair .bool (.sl 3 (.int .i64)))) hi)
   obtain ⟨q1, q2⟩ := szStoWrite_f (at_ (.pair .str (.pair .bool (.sl 3 (.int .i64)))) l i).1 (at_ (.pair .str (.pair .bool (.sl 3 (.int .i64)))) l i).2.1 (at_ (.pair .str (.pair .bool (.sl 3 (.int .i64)))) l i).2.2 hit.1 hit.2.2.1 left h0 h1
   have q2 : g_Vw_szStoWrite_0 (at_ (.pair .str (.pair .bool (.sl 3 (.int .i64)))) l i).1 (at_ (.pair .str (.pair .bool (.sl 3 (.int .i64)))) l i).2.1 (at_ (.pair .str (.pair .bool (.sl 3 (.int .i64)))) l i).2.2 left = left_ (szW (at_ (.pair .str (.pair .bool (.sl 3 (.int .i64)))) l i)) left := q2
   simp only [g_Sw_szStoWriteS_0, RT.sel, cond_true, k1, k2, hw, decide_true, and_self, Int.toNat_natCast, q1, q2, left_dec _ _ h0]
   by_cases hc : ((szW (at_ (.pair .str (.pair .bool (.sl 3 (.int .i64)))) l i) : Nat) : Int) ≤ left
   ·simp only [decide_eq_true hc, Bool.not_true, cond_false, cond_true, left_val hc]
   ·simp only [decide_eq_false hc, Bool.not_false, cond_true, cond_false]
    simp only [left_, if_neg hc]) (fun left => by simp [g_Sw_szStoWriteS_0, RT.sel]) (left - l.length) (by omega) (by omega)
  have e1 : g_Lw_szStoWriteS_0 l (left - l.length, 0) = some r := e1
  rw [e1]
  refine ⟨rfl, ?_⟩
  simp only [valO, Option.getD_some, cond_false]
  rw [e2, sumF_sum (e := .pair .str (.pair .bool (.sl 3 (.int .i64))))]
  show _ = left_ (l.length + (l.map szW).sum) left
  rw [← left_two, decide_eq_false h, cond_false]
theorem toStoWriteS_f (l : List (ByteArray × Bool × List Int)) (hl : l.length ≤ 1048576) (hit : ∀ w ∈ l, w.2.2.length ≤ 1048576) : g_Aw_toStoWriteS l = true ∧ g_Vw_toStoWriteS_0 l = l := by
 have h : g_Lw_toStoWriteS_0 l (List.replicate (Int.toNat (l.length : Int)) (lit [], false, []), 0) = some (l.map id) := by
  refine loop_map (e := .pair .str (.pair .bool (.sl 3 (.int .i64)))) l id id (fun i r hi hr => ?_) (fun r hr => ?_) _ (by simp)
  ·have k1 : (i : Int) < l.length := by omega
   have k2 : (0 : Int) ≤ (i : Int) := by omega
   have k3 : (i : Int) < r.length := by omega
   have k4 : i < r.length := by omega
   have hw : IntKind.wrap .i64 ((i : Int) + 1) = ((i + 1 : Nat) : Int) := by rw [wrap64 (by omega)]; omega
   obtain ⟨q1, q2⟩ := toIntS_f _ (hit _ (at_mem (e := .pair .str (.pair .bool (.sl 3 (.int .i64)))) hi))
   simp only [g_Sw_toStoWriteS_0, RT.sel, cond_true, k1, k2, k3, k4, hw, decide_true, and_self, Int.toNat_natCast, id, g_Aw_toStoWrite, q1, q2]
  ·simp [g_Sw_toStoWriteS_0, RT.sel]
 rw [List.map_id] at h
 constructor
 ·rw [Int.toNat_natCast] at h; simp [g_Aw_toStoWriteS, h, okO]; omega
 ·simp only [g_Vw_toStoWriteS_0, h, valO, Option.getD_some]
theorem eqStoWrite_self (k : ByteArray) (d : Bool) (l : List Int) (hl : l.length ≤ 1048576) : g_Aw_eqStoWrite k d l k d l = true ∧ g_Vw_eqStoWrite_0 k d l k d l = true := by
 obtain ⟨a, b⟩ := eqIntS_self l hl
 simp [g_Aw_eqStoWrite, g_Vw_eqStoWrite_0, a, b]
theorem eqStoWriteS_self (l : List (ByteArray × Bool × List Int)) (hl : l.length ≤ 1048576) (hit : ∀ w ∈ l, w.2.2.length ≤ 1048576) : g_Aw_eqStoWriteS l l = true ∧ g_Vw_eqStoWriteS_0 l l = true := by
 have h : g_Lw_eqStoWriteS_0 l l 0 = some (.inr ()) := by
  have := loop_all (step := g_Sw_eqStoWriteS_0 l l) (fun i : Nat => (i : Int)) (fun _ => true) (.inl false) (.inr ()) l.length (fun i hi => by
   have k1 : (i : Int) < l.length := by omega
   have k2 : (0 : Int) ≤ (i : Int) := by omega
   have hw : IntKind.wrap .i64 ((i : Int) + 1) = ((i + 1 : Nat) : Int) := by rw [wrap64 (by omega)]; omega
   obtain ⟨q1, q2⟩ := eqStoWrite_self (at_ (.pair .str (.pair .bool (.sl 3 (.int .i64)))) l i).1 (at_ (.pair .str (.pair .bool (.sl 3 (.int .i64)))) l i).2.1 _ (hit _ (at_mem (e := .pair .str (.pair .bool (.sl 3 (.int .i64)))) hi))
   simp only [g_Sw_eqStoWriteS_0, RT.sel, cond_true, k1, k2, hw, decide_true, and_self, Int.toNat_natCast, q1, q2, Bool.not_true, cond_false]) (by simp [g_Sw_eqStoWriteS_0, RT.sel])
  rw [show (List.range l.length).all (fun _ => true) = true by simp] at this
  exact this
 simp [g_Aw_eqStoWriteS, g_Vw_eqStoWriteS_0, h, okO, valO, isL]
theorem szLogNote_f (k t : Int) (ls : List ByteArray) (ws : List (ByteArray × Bool × List Int)) (h2 : ls.length ≤ maxLen) (h3 : ∀ s ∈ ls, s.size ≤ maxLen) (h4 : ws.length ≤ maxLen) (h5 : ∀ w ∈ ws, okW w) (left : Int) (h0 : 0 ≤ left) (h1 : left ≤ 1048576) :
  g_Aw_szLogNote k t ls ws left = true ∧ g_Vw_szLogNote_0 k t ls ws left = left_ (szL ByteArray.size ls + szL szW ws) left := by
 obtain ⟨a1, a2⟩ := szStringS_f ls h2 h3 left h0 h1
 unfold g_Aw_szLogNote g_Vw_szLogNote_0
 rw [a1, a2, left_dec _ _ h0]
 by_cases hc : ((szL ByteArray.size ls : Nat) : Int) ≤ left
 ·rw [decide_eq_true hc, left_val hc]
  obtain ⟨b1, b2⟩ := szStoWriteS_f ws h4 h5 (left - (szL ByteArray.size ls : Nat)) (by omega) (by omega)
  rw [b1, b2, left_neg _ _ (by omega), Bool.not_true, cond_false]
  refine ⟨rfl, ?_⟩
  rw [← left_two, decide_eq_false (by omega), cond_false]
 ·rw [decide_eq_false hc]
  refine ⟨rfl, ?_⟩
  rw [Bool.not_false, cond_true]
  unfold left_
  rw [if_neg (by omega)]
theorem byte_range (s : ByteArray) (i : Nat) : 0 ≤ byteAt s i ∧ byteAt s i < 256 := by
 unfold byteAt
 have := (s.data[i]?.getD 0).toNat_lt
 omega
theorem i_in_f (a b c : Int) : g_Ai_in a b c = true ∧ g_Vi_in_0 a b c = decide (b ≤ a ∧ a ≤ c) := by
 constructor
 ·simp [g_Ai_in]
 ·unfold g_Vi_in_0
  by_cases h : a ≥ b
  ·simp [h]
  ·simp [h]
theorem s_l1In_f (a b c : Int) : g_As_l1In a b c = true ∧ g_Vs_l1In_0 a b c = decide (b ≤ a ∧ a ≤ c) := by
 constructor
 ·simp [g_As_l1In]
 ·unfold g_Vs_l1In_0
  by_cases h : a ≥ b
  ·simp [h]
  ·simp [h]
def dig (b : UInt8) : Bool := decide (48 ≤ b.toNat ∧ b.toNat ≤ 57)
def keyP (s : ByteArray) : Bool := decide (2 ≤ s.size ∧ s.size ≤ 3) && (decide (97 ≤ byteAt s 0 ∧ byteAt s 0 ≤ 122) && (s.data.toList.drop 1).all dig)
def valP (l : List Int) : Bool := decide (1 ≤ l.length ∧ l.length ≤ 3) && l.all fun n => decide (0 ≤ n ∧ n ≤ 9999)
def wrtP (k : ByteArray) (d : Bool) (l : List Int) : Bool := keyP k && bif d then l.isEmpty else valP l
theorem dig_mem (b : UInt8) : [48, 49, 50, 51, 52, 53, 54, 55, 56, 57].contains b = dig b := by
 have h : ∀ b : Fin 256, [48, 49, 50, 51, 52, 53, 54, 55, 56, 57].contains (UInt8.ofNat b.val) = dig (UInt8.ofNat b.val) := by decide +kernel
 have := h ⟨b.toNat, b.toNat_lt⟩
 simpa using this
theorem i_keyOk_f (s : ByteArray) : g_Ai_keyOk s = true ∧ g_Vi_keyOk_0 s = keyP s := by
 have hb := byte_range s 0
 have hw : IntKind.wrap .i64 (byteAt s 0) = byteAt s 0 := wrap64 (by omega)
 have e1 : ∀ n : Nat, decide ((2 : Int) ≤ (n : Int) ∧ (n : Int) ≤ 3) = decide (2 ≤ n ∧ n ≤ 3) := fun n => decide_eq_decide.2 (by omega)
 constructor
 ·simp only [g_Ai_keyOk, (i_in_f _ _ _).1, (i_in_f _ _ _).2, hw, e1]
  by_cases h : 2 ≤ s.size ∧ s.size ≤ 3
  ·have h1 : (0 : Int) < s.size := by omega
   have h2 : (1 : Int) ≤ s.size := by omega
   have h3 : (s.extract 1 s.size).size ≤ 9223372036854775807 := by rw [ByteArray.size_extract]; omega
   have h4 : g_ascii (lit [48, 49, 50, 51, 52, 53, 54, 55, 56, 57]) = true := by decide +kernel
   simp only [h, h1, h2, h3, h4, and_self, decide_true, Bool.true_and, Bool.and_true, Bool.not_true, Bool.false_or, Int.le_refl, Bool.or_true, show (0 : Int) ≤ 1 from by decide]
  ·simp [h]
 ·simp only [g_Vi_keyOk_0, (i_in_f _ _ _).2, hw, e1, keyP]
  have e2 : (ByteArray.toList (g_trim (s.extract 1 s.size) (lit [48, 49, 50, 51, 52, 53, 54, 55, 56, 57])) == []) = (s.data.toList.drop 1).all dig := by
   rw [ByteArray.toList_eq]
   show ((Lib.trimS (s.extract 1 s.size).data.toList [48, 49, 50, 51, 52, 53, 54, 55, 56, 57]) == []) = _
   have e3 : (s.extract 1 s.size).data.toList = s.data.toList.drop 1 := by
    simp only [ByteArray.data_extract, Array.toList_extract, List.extract_eq_take_drop]
    rw [List.take_of_length_le (by rw [List.length_drop, Array.length_toList]; exact Nat.le_refl _)]
   rw [e3, Bool.eq_iff_iff, beq_iff_eq]
   refine (trimS_nil (List.drop 1 s.data.toList) [48, 49, 50, 51, 52, 53, 54, 55, 56, 57]).trans ?_
   simp only [dig_mem]
  rw [e2]
  cases decide (2 ≤ s.size ∧ s.size ≤ 3) <;> cases decide (97 ≤ byteAt s 0 ∧ byteAt s 0 ≤ 122) <;> rfl
theorem s_l1Key_loop (s : ByteArray) (hs : s.size < 1000) (h1 : 1 ≤ s.size) : g_Ls_l1Key_0 s 1 = some (bif (s.data.toList.drop 1).all dig then .inr () else .inl false) := by
 have h := loop_all (step := g_Ss_l1Key_0 s) (fun i : Nat => ((i + 1 : Nat) : Int)) (fun i => dig ((s.data[i + 1]?).getD 0)) (Sum.inl false) (Sum.inr ()) (s.size - 1) (fun i hi => by
   have h1 : ((i + 1 : Nat) : Int) < s.size := by omega
   have h2 : (0 : Int) ≤ ((i + 1 : Nat) : Int) := by omega
   have hw : IntKind.wrap .i64 (((i + 1 : Nat) : Int) + 1) = ((i + 1 + 1 : Nat) : Int) := by rw [wrap64 (by omega)]; omega
   simp only [g_Ss_l1Key_0, RT.sel, cond_true, h1, h2, hw, decide_true, and_self, Int.toNat_natCast]
   have hb : byteAt s (i + 1) = (((s.data[i + 1]?).getD 0).toNat : Int) := rfl
   simp only [hb]
   generalize (s.data[i + 1]?).getD 0 = b
   unfold dig
   by_cases k1 : b.toNat < 48
   ·have k2 : ¬ 48 ≤ b.toNat := by omega
    have k3 : (b.toNat : Int) < 48 := by omega
    simp [k2, k3]
   ·have k2 : 48 ≤ b.toNat := by omega
    have k3 : ¬ (b.toNat : Int) < 48 := by omega
    by_cases k4 : b.toNat ≤ 57
    ·have k5 : ¬ (b.toNat : Int) > 57 := by omega
     simp [k2, k3, k4, k5, RT.sel]
    ·have k5 : (b.toNat : Int) > 57 := by omega
     simp [k2, k3, k4, k5, RT.sel]) (by
   have hn : ((s.size - 1 + 1 : Nat) : Int) = (s.size : Int) := by omega
   simp only [g_Ss_l1Key_0, RT.sel, hn, cond_true, Int.lt_irrefl, decide_false, cond_false])
 unfold g_Ls_l1Key_0
 refine Eq.trans h ?_
 congr 2
 rw [Bool.eq_iff_iff, List.all_eq_true, List.all_eq_true]
 have hsz : s.size = s.data.toList.length := Array.length_toList.symm
 constructor
 ·intro h x hx
  obtain ⟨i, hi, rfl⟩ := List.getElem_of_mem hx
  have hi' : i + 1 < s.data.toList.length := by simp at hi ⊢; omega
  have := h i (List.mem_range.2 (by omega))
  have e : (s.data[i + 1]?).getD 0 = s.data.toList[i + 1] := by rw [Array.getElem?_eq_getElem (by simpa using hi')]; simp
  rw [e] at this
  simpa [Nat.add_comm] using this
 ·intro h i hi
  have hi := List.mem_range.1 hi
  have hi' : i + 1 < s.data.toList.length := by omega
  have e : (s.data[i + 1]?).getD 0 = s.data.toList[i + 1] := by rw [Array.getElem?_eq_getElem (by simpa using hi')]; simp
  rw [e]
  refine h _ ?_
  rw [List.mem_iff_getElem]
  exact ⟨i, by simp at hi' ⊢; omega, by simp [Nat.add_comm]⟩
theorem s_l1Key_f (s : ByteArray) : g_As_l1Key s = true ∧ g_Vs_l1Key_0 s = keyP s := by
 have e1 : ∀ n : Nat, decide ((2 : Int) ≤ (n : Int) ∧ (n : Int) ≤ 3) = decide (2 ≤ n ∧ n ≤ 3) := fun n => decide_eq_decide.2 (by omega)
 by_cases h : 2 ≤ s.size ∧ s.size ≤ 3
 ·have h0 : (0 : Int) < s.size := by omega
  have hl := s_l1Key_loop s (by omega) (by omega)
  constructor
  ·simp only [g_As_l1Key, (s_l1In_f _ _ _).1, (s_l1In_f _ _ _).2, e1, hl, okO, h, h0, Option.isSome_some, and_self, decide_true, Bool.true_and, Bool.or_true, Int.le_refl]
  ·simp only [g_Vs_l1Key_0, (s_l1In_f _ _ _).2, e1, hl, okO, valO, keyP, Option.getD_some]
   by_cases k1 : byteAt s 0 < 97
   ·simp [h, k1, show ¬ (97 ≤ byteAt s 0) by omega]
   ·by_cases k2 : byteAt s 0 > 122
    ·simp [h, k1, k2, show ¬ (byteAt s 0 ≤ 122) by omega]
    ·simp only [h, k1, k2, show 97 ≤ byteAt s 0 by omega, show byteAt s 0 ≤ 122 by omega]
     cases (s.data.toList.drop 1).all dig <;> rfl
 ·constructor
  ·simp only [g_As_l1Key, (s_l1In_f _ _ _).1, (s_l1In_f _ _ _).2, e1]
   simp [h]
  ·simp only [g_Vs_l1Key_0, (s_l1In_f _ _ _).2, e1, keyP]
   simp [h]
theorem s_l1Val_loop (l : List Int) (hl : l.length ≤ 1048576) : g_Ls_l1Val_0 l 0 = some (bif l.all (fun n => decide (0 ≤ n ∧ n ≤ 9999)) then .inr () else .inl false) := by
 refine loop_list (ρ := Bool ⊕ Unit) (e := .int .i64) l (fun i : Nat => (i : Int)) (fun n => decide (0 ≤ n ∧ n ≤ 9999)) (Sum.inl false) (Sum.inr ()) (fun i hi => ?_) ?_
 ·have h1 : (i : Int) < l.length := by omega
  have h2 : (0 : Int) ≤ (i : Int) := by omega
  have hw : IntKind.wrap .i64 ((i : Int) + 1) = ((i + 1 : Nat) : Int) := by rw [wrap64 (by omega)]; omega
  simp only [g_Ss_l1Val_0, RT.sel, cond_true, h1, h2, hw, decide_true, and_self, Int.toNat_natCast, (s_l1In_f _ _ _).1, (s_l1In_f _ _ _).2]
  cases decide (0 ≤ at_ (.int .i64) l i ∧ at_ (.int .i64) l i ≤ 9999) <;> rfl
 ·simp [g_Ss_l1Val_0, RT.sel]
theorem s_l1Val_f (l : List Int) (hl : l.length ≤ 1048576) : g_As_l1Val l = true ∧ g_Vs_l1Val_0 l = valP l := by
 have hk := s_l1Val_loop l hl
 have e1 : decide ((1 : Int) ≤ (l.length : Int) ∧ (l.length : Int) ≤ 3) = decide (1 ≤ l.length ∧ l.length ≤ 3) := decide_eq_decide.2 (by omega)
 constructor
 ·simp only [g_As_l1Val, hk, okO, valO, (s_l1In_f _ _ _).1]; simp
 ·simp only [g_Vs_l1Val_0, hk, valO, (s_l1In_f _ _ _).2, e1, valP, Option.getD_some]
  cases l.all (fun n => decide (0 ≤ n ∧ n ≤ 9999)) <;> cases decide (1 ≤ l.length ∧ l.length ≤ 3) <;> rfl
theorem i_valOk_1_f (n : Int) : g_Ai_valOk_1 n = true ∧ g_Vi_valOk_1_0 n = !decide (0 ≤ n ∧ n ≤ 9999) := ⟨(i_in_f _ _ _).1, congrArg not (i_in_f _ _ _).2⟩
theorem i_valOk_f (l : List Int) (hl : l.length ≤ 1048576) : g_Ai_valOk l = true ∧ g_Vi_valOk_0 l = valP l := by
 obtain ⟨r, h1, h2⟩ := loop_idx (e := .int .i64) l (step := g_Sslices_IndexFunc_int_int__i_valOk_1_0 l (l.length : Int)) (fun n => !decide (0 ≤ n ∧ n ≤ 9999)) (fun i hi => by
  have h1 : (i : Int) < l.length := by omega
  have h2 : (0 : Int) ≤ (i : Int) := by omega
  have hw : IntKind.wrap .i64 ((i : Int) + 1) = ((i + 1 : Nat) : Int) := by rw [wrap64 (by omega)]; omega
  simp only [g_Sslices_IndexFunc_int_int__i_valOk_1_0, RT.sel, cond_true, h1, h2, hw, decide_true, and_self, Int.toNat_natCast, (i_valOk_1_f _).1, (i_valOk_1_f _).2]) (by simp [g_Sslices_IndexFunc_int_int__i_valOk_1_0, RT.sel])
 have h1 : g_Lslices_IndexFunc_int_int__i_valOk_1_0 l (l.length : Int) 0 = some r := h1
 have e1 : decide ((1 : Int) ≤ (l.length : Int) ∧ (l.length : Int) ≤ 3) = decide (1 ≤ l.length ∧ l.length ≤ 3) := decide_eq_decide.2 (by omega)
 constructor
 ·simp [g_Ai_valOk, (i_in_f _ _ _).1, g_Aslices_ContainsFunc_int_int__i_valOk_1, g_Aslices_IndexFunc_int_int__i_valOk_1, h1, okO]
 ·simp only [g_Vi_valOk_0, (i_in_f _ _ _).2, e1, g_Vslices_ContainsFunc_int_int__i_valOk_1_0, g_Vslices_IndexFunc_int_int__i_valOk_1_0, h1, valO, Option.getD_some, h2, valP]
  rw [show (l.any fun n => !decide (0 ≤ n ∧ n ≤ 9999)) = !(l.all fun n => decide (0 ≤ n ∧ n ≤ 9999)) by rw [List.not_all_eq_any_not], Bool.not_not]
  cases decide (1 ≤ l.length ∧ l.length ≤ 3) <;> rfl
theorem s_WrtOk_f (k : ByteArray) (d : Bool) (l : List Int) (hl : l.length ≤ 1048576) : g_As_WrtOk k d l = true ∧ g_Vs_WrtOk_0 k d l = wrtP k d l := by
 constructor
 ·simp [g_As_WrtOk, (s_l1Key_f _).1, (s_l1Val_f _ hl).1]
 ·simp only [g_Vs_WrtOk_0, (s_l1Key_f _).2, (s_l1Val_f _ hl).2, wrtP]
  cases d <;> cases keyP k <;> cases l <;> simp <;> omega
theorem i_WrtOk_f (k : ByteArray) (d : Bool) (l : List Int) (hl : l.length ≤ 1048576) : g_Ai_WrtOk k d l = true ∧ g_Vi_WrtOk_0 k d l = wrtP k d l := by
 constructor
 ·simp [g_Ai_WrtOk, (i_keyOk_f _).1, (i_valOk_f _ hl).1]
 ·simp only [g_Vi_WrtOk_0, (i_keyOk_f _).2, (i_valOk_f _ hl).2, wrtP]
  cases d <;> cases keyP k <;> cases l <;> simp <;> omega
def hasP (ls : List ByteArray) (s : ByteArray) : Bool := ls.any fun x => x.toList == s.toList
def noteP (k t : Int) (ls : List ByteArray) (ws : List (ByteArray × Bool × List Int)) : Bool :=
 decide (1 ≤ k ∧ k ≤ 4) && (decide (0 ≤ t ∧ t ≤ 29) && (decide (ls.length ≤ 12) && (decide (ws.length ≤ 12) && (ls.all keyP && (ws.all (fun w => wrtP w.1 w.2.1 w.2.2 && hasP ls w.1) && (decide (k = 1) || (ls.isEmpty && ws.isEmpty)))))))
theorem isTx_f (n : Int) : g_Ai_isTx n = true ∧ g_Vi_isTx_0 n = decide (0 ≤ n ∧ n ≤ 29) := i_in_f n 0 29
theorem beq_comm' (a b : List UInt8) : (a == b) = (b == a) := by
 rw [Bool.eq_iff_iff, beq_iff_eq, beq_iff_eq]
 exact eq_comm
theorem containsS_f (ls : List ByteArray) (s : ByteArray) (hl : ls.length ≤ 1048576) : g_Aslices_Contains_string_string ls s = true ∧ g_Vslices_Contains_string_string_0 ls s = hasP ls s := by
 obtain ⟨r, h1, h2⟩ := loop_idx (e := .str) ls (step := g_Sslices_Index_string_string_0 ls s (ls.length : Int)) (fun x => x.toList == s.toList) (fun i hi => by
  have h1 : (i : Int) < ls.length := by omega
  have h2 : (0 : Int) ≤ (i : Int) := by omega
  have hw : IntKind.wrap .i64 ((i : Int) + 1) = ((i + 1 : Nat) : Int) := by rw [wrap64 (by omega)]; omega
  simp only [g_Sslices_Index_string_string_0, RT.sel, cond_true, h1, h2, hw, decide_true, and_self, Int.toNat_natCast, beq_comm' s.toList]) (by simp [g_Sslices_Index_string_string_0, RT.sel])
 have h1 : g_Lslices_Index_string_string_0 ls s (ls.length : Int) 0 = some r := h1
 constructor
 ·simp [g_Aslices_Contains_string_string, g_Aslices_Index_string_string, h1, okO]
 ·simp only [g_Vslices_Contains_string_string_0, g_Vslices_Index_string_string_0, h1, valO, Option.getD_some, h2, hasP]
theorem l2Has_f (ls : List ByteArray) (s : ByteArray) (hl : ls.length ≤ 1048576) : g_As_l2Has ls s = true ∧ g_Vs_l2Has_0 ls s = hasP ls s := by
 have h : g_Ls_l2Has_0 ls s 0 = some (bif ls.all (fun x => !(x.toList == s.toList)) then .inr () else .inl true) := by
  refine loop_list (ρ := Bool ⊕ Unit) (e := .str) ls (fun i : Nat => (i : Int)) (fun x => !(x.toList == s.toList)) (Sum.inl true) (Sum.inr ()) (fun i hi => ?_) ?_
  ·have h1 : (i : Int) < ls.length := by omega
   have h2 : (0 : Int) ≤ (i : Int) := by omega
   have hw : IntKind.wrap .i64 ((i : Int) + 1) = ((i + 1 : Nat) : Int) := by rw [wrap64 (by omega)]; omega
   simp only [g_Ss_l2Has_0, RT.sel, cond_true, h1, h2, hw, decide_true, and_self, Int.toNat_natCast]
   cases (at_ .str ls i).toList == s.toList <;> rfl
  ·simp [g_Ss_l2Has_0, RT.sel]
 constructor
 ·simp [g_As_l2Has, h, okO]
 ·simp only [g_Vs_l2Has_0, h, valO, Option.getD_some, hasP, List.any_eq_not_all_not]
  cases ls.all (fun x => !(x.toList == s.toList)) <;> rfl
theorem anyKey_f (ls : List ByteArray) (hl : ls.length ≤ 1048576) : g_Aslices_ContainsFunc_string_string__i_NoteOk_1 ls = true ∧ g_Vslices_ContainsFunc_string_string__i_NoteOk_1_0 ls = !ls.all keyP := by
 obtain ⟨r, h1, h2⟩ := loop_idx (e := .str) ls (step := g_Sslices_IndexFunc_string_string__i_NoteOk_1_0 ls (ls.length : Int)) (fun x => !keyP x) (fun i hi => by
  have h1 : (i : Int) < ls.length := by omega
  have h2 : (0 : Int) ≤ (i : Int) := by omega
  have hw : IntKind.wrap .i64 ((i : Int) + 1) = ((i + 1 : Nat) : Int) := by rw [wrap64 (by omega)]; omega
  simp only [g_Sslices_IndexFunc_string_string__i_NoteOk_1_0, RT.sel, cond_true, h1, h2, hw, decide_true, and_self, Int.toNat_natCast, g_Ai_NoteOk_1, (i_keyOk_f _).1, (i_keyOk_f _).2]) (by simp [g_Sslices_IndexFunc_string_string__i_NoteOk_1_0, RT.sel])
 have h1 : g_Lslices_IndexFunc_string_string__i_NoteOk_1_0 ls (ls.length : Int) 0 = some r := h1
 constructor
 ·simp [g_Aslices_ContainsFunc_string_string__i_NoteOk_1, g_Aslices_IndexFunc_string_string__i_NoteOk_1, h1, okO]
 ·simp only [g_Vslices_ContainsFunc_string_string__i_NoteOk_1_0, g_Vslices_IndexFunc_string_string__i_NoteOk_1_0, h1, valO, Option.getD_some, h2, List.not_all_eq_any_not]
theorem anyWrite_f (ws : List (ByteArray × Bool × List Int)) (c : Int × Int × List ByteArray × List (ByteArray × Bool × List Int)) (hl : ws.length ≤ 1048576) (hit : ∀ w ∈ ws, w.2.2.length ≤ 1048576) (hc : c.2.2.1.length ≤ 1048576) :
  g_Aslices_ContainsFunc_i_StoWrite_i_StoWrite__i_NoteOk_2 ws c = true ∧ g_Vslices_ContainsFunc_i_StoWrite_i_StoWrite__i_NoteOk_2_0 ws c = !ws.all (fun w => wrtP w.1 w.2.1 w.2.2 && hasP c.2.2.1 w.1) := by
 obtain ⟨r, h1, h2⟩ := loop_idx (e := .pair .str (.pair .bool (.sl 3 (.int .i64)))) ws (step := g_Sslices_IndexFunc_i_StoWrite_i_StoWrite__i_NoteOk_2_0 ws c (ws.length : Int)) (fun w => !(wrtP w.1 w.2.1 w.2.2 && hasP c.2.2.1 w.1)) (fun i hi => by
  have h1 : (i : Int) < ws.length := by omega
  have h2 : (0 : Int) ≤ (i : Int) := by omega
  have hw : IntKind.wrap .i64 ((i : Int) + 1) = ((i + 1 : Nat) : Int) := by rw [wrap64 (by omega)]; omega
  obtain ⟨q1, q2⟩ := i_WrtOk_f (at_ (.pair .str (.pair .bool (.sl 3 (.int .i64)))) ws i).1 (at_ (.pair .str (.pair .bool (.sl 3 (.int .i64)))) ws i).2.1 _ (hit _ (at_mem (e := .pair .str (.pair .bool (.sl 3 (.int .i64)))) hi))
  simp only [g_Sslices_IndexFunc_i_StoWrite_i_StoWrite__i_NoteOk_2_0, RT.sel, cond_true, h1, h2, hw, decide_true, and_self, Int.toNat_natCast, g_Ai_NoteOk_2, g_Vi_NoteOk_2_0, q1, q2, (containsS_f _ _ hc).1, (containsS_f _ _ hc).2, Bool.or_true, Bool.and_true]
  generalize wrtP _ _ _ = p
  generalize hasP _ _ = q
  cases p <;> cases q <;> rfl) (by simp [g_Sslices_IndexFunc_i_StoWrite_i_StoWrite__i_NoteOk_2_0, RT.sel])
 have h1 : g_Lslices_IndexFunc_i_StoWrite_i_StoWrite__i_NoteOk_2_0 ws c (ws.length : Int) 0 = some r := h1
 constructor
 ·simp [g_Aslices_ContainsFunc_i_StoWrite_i_StoWrite__i_NoteOk_2, g_Aslices_IndexFunc_i_StoWrite_i_StoWrite__i_NoteOk_2, h1, okO]
 ·simp only [g_Vslices_ContainsFunc_i_StoWrite_i_StoWrite__i_NoteOk_2_0, g_Vslices_IndexFunc_i_StoWrite_i_StoWrite__i_NoteOk_2_0, h1, valO, Option.getD_some, h2, List.not_all_eq_any_not]
theorem i_NoteOk_f (k t : Int) (ls : List ByteArray) (ws : List (ByteArray × Bool × List Int)) (h1 : ls.length ≤ 1048576) (h2 : ws.length ≤ 1048576) (h3 : ∀ w ∈ ws, w.2.2.length ≤ 1048576) : g_Ai_NoteOk k t ls ws = true ∧ g_Vi_NoteOk_0 k t ls ws = noteP k t ls ws := by
 obtain ⟨a1, a2⟩ := anyKey_f ls h1
 obtain ⟨b1, b2⟩ := anyWrite_f ws (k, t, ls, ws) h2 h3 h1
 constructor
 ·simp [g_Ai_NoteOk, (isTx_f _).1, (i_in_f _ _ _).1, a1, b1]
 ·simp only [g_Vi_NoteOk_0, (isTx_f _).2, (i_in_f _ _ _).2, a2, b2, noteP]
  by_cases e1 : k = 1
  ·subst e1
   have e2 : decide ((ls.length : Int) > 12) = !decide (ls.length ≤ 12) := by rw [Bool.eq_iff_iff]; simp; omega
   have e3 : decide ((ws.length : Int) > 12) = !decide (ws.length ≤ 12) := by rw [Bool.eq_iff_iff]; simp; omega
   simp only [e2, e3]
   generalize decide (0 ≤ t ∧ t ≤ 29) = p1
   generalize decide (ls.length ≤ 12) = p2
   generalize decide (ws.length ≤ 12) = p3
   generalize ls.all keyP = p4
   generalize ws.all _ = p5
   cases p1 <;> cases p2 <;> cases p3 <;> cases p4 <;> cases p5 <;> rfl
  ·have e4 : (k != 1) = true := by simpa using e1
   have e5 : decide (k = 1) = false := by simpa using e1
   simp only [e4, e5, cond_true, Bool.false_or]
   cases ls with
   | nil =>
    cases ws with
    | nil =>
     generalize decide (0 ≤ t ∧ t ≤ 29) = p1
     generalize decide (1 ≤ k ∧ k ≤ 4) = p2
     cases p1 <;> cases p2 <;> rfl
    | cons w ws =>
     have e6 : (((w :: ws).length : Int) == 0) = false := by simp; omega
     simp only [e6, List.isEmpty_cons, Bool.and_false]
     cases decide (0 ≤ t ∧ t ≤ 29) <;> cases decide (1 ≤ k ∧ k ≤ 4) <;> simp
   | cons l ls =>
    have e6 : (((l :: ls).length : Int) == 0) = false := by simp; omega
    simp only [e6, List.isEmpty_cons, Bool.and_false, Bool.false_and]
    cases decide (0 ≤ t ∧ t ≤ 29) <;> cases decide (1 ≤ k ∧ k ≤ 4) <;> simp
theorem s_NoteOk_f (k t : Int) (ls : List ByteArray) (ws : List (ByteArray × Bool × List Int)) (h1 : ls.length ≤ 1048576) (h2 : ws.length ≤ 1048576) (h3 : ∀ w ∈ ws, w.2.2.length ≤ 1048576) : g_As_NoteOk k t ls ws = true ∧ g_Vs_NoteOk_0 k t ls ws = noteP k t ls ws := by
 have l0 : g_Ls_NoteOk_0 k t ls ws 0 = some (bif ls.all keyP then .inr () else .inl false) := by
  refine loop_list (ρ := Bool ⊕ Unit) (e := .str) ls (fun i : Nat => (i : Int)) keyP (Sum.inl false) (Sum.inr ()) (fun i hi => ?_) ?_
  ·have k1 : (i : Int) < ls.length := by omega
   have k2 : (0 : Int) ≤ (i : Int) := by omega
   have hw : IntKind.wrap .i64 ((i : Int) + 1) = ((i + 1 : Nat) : Int) := by rw [wrap64 (by omega)]; omega
   simp only [g_Ss_NoteOk_0, RT.sel, cond_true, k1, k2, hw, decide_true, and_self, Int.toNat_natCast, (s_l1Key_f _).1, (s_l1Key_f _).2]
   cases keyP (at_ .str ls i) <;> rfl
  ·simp [g_Ss_NoteOk_0, RT.sel]
 have l2 : g_Ls_NoteOk_2 k t ls ws 0 = some (bif ws.all (fun w => wrtP w.1 w.2.1 w.2.2 && hasP ls w.1) then .inr () else .inl false) := by
  refine loop_list (ρ := Bool ⊕ Unit) (e := .pair .str (.pair .bool (.sl 3 (.int .i64)))) ws (fun i : Nat => (i : Int)) (fun w => wrtP w.1 w.2.1 w.2.2 && hasP ls w.1) (Sum.inl false) (Sum.inr ()) (fun i hi => ?_) ?_
  ·have k1 : (i : Int) < ws.length := by omega
   have k2 : (0 : Int) ≤ (i : Int) := by omega
   have hw : IntKind.wrap .i64 ((i : Int) + 1) = ((i + 1 : Nat) : Int) := by rw [wrap64 (by omega)]; omega
   obtain ⟨q1, q2⟩ := s_WrtOk_f (at_ (.pair .str (.pair .bool (.sl 3 (.int .i64)))) ws i).1 (at_ (.pair .str (.pair .bool (.sl 3 (.int .i64)))) ws i).2.1 _ (h3 _ (at_mem (e := .pair .str (.pair .bool (.sl 3 (.int .i64)))) hi))
   simp only [g_Ss_NoteOk_2, RT.sel, cond_true, k1, k2, hw, decide_true, and_self, Int.toNat_natCast, q1, q2, (l2Has_f _ _ h1).1, (l2Has_f _ _ h1).2]
   generalize wrtP _ _ _ = p
   generalize hasP _ _ = q
   cases p <;> cases q <;> rfl
  ·simp [g_Ss_NoteOk_2, RT.sel]
 have e2 : decide ((ls.length : Int) > 12) = !decide (ls.length ≤ 12) := by rw [Bool.eq_iff_iff]; simp; omega
 have e3 : decide ((ws.length : Int) > 12) = !decide (ws.length ≤ 12) := by rw [Bool.eq_iff_iff]; simp; omega
 have e4 : (k == 1) = decide (k = 1) := rfl
 have e5 : (IntKind.wrap .i64 ((ls.length : Int) + (ws.length : Int)) == 0) = (ls.isEmpty && ws.isEmpty) := by
  rw [wrap64 (by omega)]
  cases ls <;> cases ws <;> simp <;> omega
 constructor
 ·simp [g_As_NoteOk, (s_l1In_f _ _ _).1, l0, l2, okO]
 ·simp only [g_Vs_NoteOk_0, (s_l1In_f _ _ _).2, l0, l2, valO, Option.getD_some, noteP, e2, e3, e4, e5]
  generalize decide (1 ≤ k ∧ k ≤ 4) = p0
  generalize decide (0 ≤ t ∧ t ≤ 29) = p1
  generalize decide (ls.length ≤ 12) = p2
  generalize decide (ws.length ≤ 12) = p3
  generalize ls.all keyP = p4
  generalize ws.all _ = p5
  generalize decide (k = 1) = p6
  generalize (ls.isEmpty && ws.isEmpty) = p7
  cases p0 <;> cases p1 <;> cases p2 <;> cases p3 <;> cases p4 <;> cases p5 <;> cases p6 <;> cases p7 <;> rfl
abbrev Note : Type := Int × Int × List ByteArray × List (ByteArray × Bool × List Int)
abbrev NI_ : Ty := .pair (.int .i64) (.pair (.int .i64) (.pair (.sl 9 .str) (.sl 39 (.pair .str (.pair .bool (.sl 3 (.int .i64)))))))
def smallN (x : Note) : Prop := x.2.2.1.length ≤ 1048576 ∧ x.2.2.2.length ≤ 1048576 ∧ ∀ w ∈ x.2.2.2, w.2.2.length ≤ 1048576
def noteQ (x : Note) : Bool := noteP x.1 x.2.1 x.2.2.1 x.2.2.2
def diskP (d : List Note) (safe : Int) : Bool := decide (d.length ≤ 120) && (decide (0 ≤ safe ∧ safe ≤ (d.length : Int)) && d.all noteQ)
theorem s_DiskOk_f (l : List Note) (safe : Int) (hl : l.length ≤ 1048576) (hit : ∀ x ∈ l, smallN x) : g_As_DiskOk l safe = true ∧ g_Vs_DiskOk_0 l safe = diskP l safe := by
 have h : g_Ls_DiskOk_0 l safe 0 = some (bif l.all noteQ then .inr () else .inl false) := by
  refine loop_list (ρ := Bool ⊕ Unit) (e := NI_) l (fun i : Nat => (i : Int)) noteQ (Sum.inl false) (Sum.inr ()) (fun i hi => ?_) ?_
  ·have k1 : (i : Int) < l.length := by omega
   have k2 : (0 : Int) ≤ (i : Int) := by omega
   have hw : IntKind.wrap .i64 ((i : Int) + 1) = ((i + 1 : Nat) : Int) := by rw [wrap64 (by omega)]; omega
   have hh := hit _ (at_mem (e := NI_) hi)
   obtain ⟨q1, q2⟩ := s_NoteOk_f (at_ NI_ l i).1 (at_ NI_ l i).2.1 (at_ NI_ l i).2.2.1 (at_ NI_ l i).2.2.2 hh.1 hh.2.1 hh.2.2
   have q2 : g_Vs_NoteOk_0 (at_ NI_ l i).1 (at_ NI_ l i).2.1 (at_ NI_ l i).2.2.1 (at_ NI_ l i).2.2.2 = noteQ (at_ NI_ l i) := q2
   simp only [g_Ss_DiskOk_0, RT.sel, cond_true, k1, k2, hw, decide_true, and_self, Int.toNat_natCast, q1, q2]
   generalize noteQ _ = p
   cases p <;> rfl
  ·simp [g_Ss_DiskOk_0, RT.sel]
 have e2 : decide ((l.length : Int) > 120) = !decide (l.length ≤ 120) := by rw [Bool.eq_iff_iff]; simp; omega
 constructor
 ·simp [g_As_DiskOk, h, okO, (s_l1In_f _ _ _).1]
 ·simp only [g_Vs_DiskOk_0, h, valO, Option.getD_some, e2, (s_l1In_f _ _ _).2, diskP]
  generalize l.all noteQ = p
  generalize decide (l.length ≤ 120) = q
  generalize decide (0 ≤ safe ∧ safe ≤ (l.length : Int)) = r
  cases p <;> cases q <;> cases r <;> rfl
theorem i_DiskOk_f (l : List Note) (safe : Int) (hl : l.length ≤ 1048576) (hit : ∀ x ∈ l, smallN x) : g_Ai_DiskOk l safe = true ∧ g_Vi_DiskOk_0 l safe = diskP l safe := by
 obtain ⟨r, h1, h2⟩ := loop_idx (e := NI_) l (step := g_Sslices_IndexFunc_i_LogNote_i_LogNote__i_DiskOk_1_0 l (l.length : Int)) (fun x => !noteQ x) (fun i hi => by
  have h1 : (i : Int) < l.length := by omega
  have h2 : (0 : Int) ≤ (i : Int) := by omega
  have hw : IntKind.wrap .i64 ((i : Int) + 1) = ((i + 1 : Nat) : Int) := by rw [wrap64 (by omega)]; omega
  have hh := hit _ (at_mem (e := NI_) hi)
  obtain ⟨q1, q2⟩ := i_NoteOk_f (at_ NI_ l i).1 (at_ NI_ l i).2.1 (at_ NI_ l i).2.2.1 (at_ NI_ l i).2.2.2 hh.1 hh.2.1 hh.2.2
  have q2 : g_Vi_NoteOk_0 (at_ NI_ l i).1 (at_ NI_ l i).2.1 (at_ NI_ l i).2.2.1 (at_ NI_ l i).2.2.2 = noteQ (at_ NI_ l i) := q2
  simp only [g_Sslices_IndexFunc_i_LogNote_i_LogNote__i_DiskOk_1_0, RT.sel, cond_true, h1, h2, hw, decide_true, and_self, Int.toNat_natCast, g_Ai_DiskOk_1, q1, q2]) (by simp [g_Sslices_IndexFunc_i_LogNote_i_LogNote__i_DiskOk_1_0, RT.sel])
 have h1 : g_Lslices_IndexFunc_i_LogNote_i_LogNote__i_DiskOk_1_0 l (l.length : Int) 0 = some r := h1
 have a1 : g_Aslices_ContainsFunc_i_LogNote_i_LogNote__i_DiskOk_1 l = true := by simp [g_Aslices_ContainsFunc_i_LogNote_i_LogNote__i_DiskOk_1, g_Aslices_IndexFunc_i_LogNote_i_LogNote__i_DiskOk_1, h1, okO]
 have a2 : g_Vslices_ContainsFunc_i_LogNote_i_LogNote__i_DiskOk_1_0 l = !l.all noteQ := by simp only [g_Vslices_ContainsFunc_i_LogNote_i_LogNote__i_DiskOk_1_0, g_Vslices_IndexFunc_i_LogNote_i_LogNote__i_DiskOk_1_0, h1, valO, Option.getD_some, h2, List.not_all_eq_any_not]
 have e2 : decide ((l.length : Int) ≤ 120) = decide (l.length ≤ 120) := decide_eq_decide.2 (by omega)
 constructor
 ·simp [g_Ai_DiskOk, a1, (i_in_f _ _ _).1]
 ·simp only [g_Vi_DiskOk_0, a2, e2, (i_in_f _ _ _).2, diskP]
  generalize l.all noteQ = p
  generalize decide (l.length ≤ 120) = q
  generalize decide (0 ≤ safe ∧ safe ≤ (l.length : Int)) = r
  cases p <;> cases q <;> cases r <;> rfl
abbrev NL_ : Ty := .pair (.int .i64) (.pair (.int .i64) (.pair (.sl 9 .str) (.sl 185 (.pair .str (.pair .bool (.sl 3 (.int .i64)))))))
def szN (x : Note) : Nat := szL ByteArray.size x.2.2.1 + szL szW x.2.2.2
def okN (x : Note) : Prop := (Lit.int .i64 x.1).wf = true ∧ (Lit.int .i64 x.2.1).wf = true ∧ (x.2.2.1.length ≤ maxLen ∧ ∀ s ∈ x.2.2.1, s.size ≤ maxLen) ∧ (x.2.2.2.length ≤ maxLen ∧ ∀ w ∈ x.2.2.2, okW w)
theorem small_note {x : Note} {B : Nat} (h : szN x ≤ B) (hB : B ≤ 1048576) : smallN x := by
 unfold szN at h
 have b1 := szL_len (z := ByteArray.size) (l := x.2.2.1) (B := B) (by omega)
 have b2 := szL_len (z := szW) (l := x.2.2.2) (B := B) (by omega)
 exact ⟨by omega, by omega, fun w hw => by have := b2.2 w hw; unfold szW at this; omega⟩
theorem szLogNoteS_f (l : List Note) (hl : l.length ≤ maxLen) (hok : ∀ w ∈ l, okN w) (left : Int) (h0 : 0 ≤ left) (h1 : left ≤ 1048576) : g_Aw_szLogNoteS l left = true ∧ g_Vw_szLogNoteS_0 l left = left_ (szL szN l) left := by
 have hm := maxLen_lt hl
 unfold g_Aw_szLogNoteS g_Vw_szLogNoteS_0
 rw [left_step hm h0 h1]
 by_cases h : left - (l.length : Int) < 0
 ·rw [decide_eq_true h]
  refine ⟨rfl, ?_⟩
  unfold left_ szL
  rw [cond_true, if_neg (by omega)]
 ·rw [decide_eq_false h]
  obtain ⟨r, e1, e2⟩ := loop_sz (step := g_Sw_szLogNoteS_0 l) (fun i => szN (at_ NL_ l i)) l.length (fun i left hi h0 h1 => by
   have k1 : (i : Int) < l.length := by omega
   have k2 : (0 : Int) ≤ (i : Int) := by omega
   have hw : IntKind.wrap .i64 ((i : Int) + 1) = ((i + 1 : Nat) : Int) := by rw [wrap64 (by omega)]; omega
   have hit := hok _ (at_mem (e := NL_) hi)
   obtain ⟨q1, q2⟩ := szLogNote_f (at_ NL_ l i).1 (at_ NL_ l i).2.1 (at_ NL_ l i).2.2.1 (at_ NL_ l i).2.2.2 hit.2.2.1.1 hit.2.2.1.2 hit.2.2.2.1 hit.2.2.2.2 left h0 h1
   have q2 : g_Vw_szLogNote_0 (at_ NL_ l i).1 (at_ NL_ l i).2.1 (at_ NL_ l i).2.2.1 (at_ NL_ l i).2.2.2 left = left_ (szN (at_ NL_ l i)) left := q2
   simp only [g_Sw_szLogNoteS_0, RT.sel, cond_true, k1, k2, hw, decide_true, and_self, Int.toNat_natCast, q1, q2, left_dec _ _ h0]
   by_cases hc : ((szN (at_ NL_ l i) : Nat) : Int) ≤ left
   ·simp only [decide_eq_true hc, Bool.not_true, cond_false, cond_true, left_val hc]
   ·simp only [decide_eq_false hc, Bool.not_false, cond_true, cond_false]
    simp only [left_, if_neg hc]) (fun left => by simp [g_Sw_szLogNoteS_0, RT.sel]) (left - l.length) (by omega) (by omega)
  have e1 : g_Lw_szLogNoteS_0 l (left - l.length, 0) = some r := e1
  rw [e1]
  refine ⟨rfl, ?_⟩
  simp only [valO, Option.getD_some, cond_false]
  rw [e2, sumF_sum (e := NL_)]
  show _ = left_ (l.length + (l.map szN).sum) left
  rw [← left_two, decide_eq_false h, cond_false]
theorem szLogDisk_f (l : List Note) (safe : Int) (hl : l.length ≤ maxLen) (hok : ∀ w ∈ l, okN w) (left : Int) (h0 : 0 ≤ left) (h1 : left ≤ 1048576) : g_Aw_szLogDisk l safe left = true ∧ g_Vw_szLogDisk_0 l safe left = left_ (szL szN l) left := by
 obtain ⟨a, b⟩ := szLogNoteS_f l hl hok left h0 h1
 simp only [g_Aw_szLogDisk, g_Vw_szLogDisk_0, a, b, left_neg _ _ h0, Bool.and_true, and_self]
theorem toLogNoteS_f (l : List Note) (hl : l.length ≤ 1048576) (hit : ∀ x ∈ l, smallN x) : g_Aw_toLogNoteS l = true ∧ g_Vw_toLogNoteS_0 l = l := by
 have h : g_Lw_toLogNoteS_0 l (List.replicate (Int.toNat (l.length : Int)) (0, 0, [], []), 0) = some (l.map id) := by
  refine loop_map (e := NL_) l id id (fun i r hi hr => ?_) (fun r hr => ?_) _ (by simp)
  ·have k1 : (i : Int) < l.length := by omega
   have k2 : (0 : Int) ≤ (i : Int) := by omega
   have k3 : (i : Int) < r.length := by omega
   have k4 : i < r.length := by omega
   have hw : IntKind.wrap .i64 ((i : Int) + 1) = ((i + 1 : Nat) : Int) := by rw [wrap64 (by omega)]; omega
   have hh := hit _ (at_mem (e := NL_) hi)
   obtain ⟨q1, q2⟩ := toStringS_f _ hh.1
   obtain ⟨q3, q4⟩ := toStoWriteS_f _ hh.2.1 hh.2.2
   simp only [g_Sw_toLogNoteS_0, RT.sel, cond_true, k1, k2, k3, k4, hw, decide_true, and_self, Int.toNat_natCast, id, g_Aw_toLogNote, q1, q2, q3, q4, Bool.and_self]
  ·simp [g_Sw_toLogNoteS_0, RT.sel]
 rw [List.map_id] at h
 constructor
 ·rw [Int.toNat_natCast] at h; simp [g_Aw_toLogNoteS, h, okO]; omega
 ·simp only [g_Vw_toLogNoteS_0, h, valO, Option.getD_some]
theorem eqLogNote_self (x : Note) (h : smallN x) : g_Aw_eqLogNote x.1 x.2.1 x.2.2.1 x.2.2.2 x.1 x.2.1 x.2.2.1 x.2.2.2 = true ∧ g_Vw_eqLogNote_0 x.1 x.2.1 x.2.2.1 x.2.2.2 x.1 x.2.1 x.2.2.1 x.2.2.2 = true := by
 obtain ⟨p1, p2⟩ := eqStringS_self x.2.2.1 h.1
 obtain ⟨q1, q2⟩ := eqStoWriteS_self x.2.2.2 h.2.1 h.2.2
 simp [g_Aw_eqLogNote, g_Vw_eqLogNote_0, p1, p2, q1, q2]
theorem eqLogNoteS_self (l : List Note) (hl : l.length ≤ 1048576) (hit : ∀ x ∈ l, smallN x) : g_Aw_eqLogNoteS l l = true ∧ g_Vw_eqLogNoteS_0 l l = true := by
 have h : g_Lw_eqLogNoteS_0 l l 0 = some (.inr ()) := by
  have := loop_all (step := g_Sw_eqLogNoteS_0 l l) (fun i : Nat => (i : Int)) (fun _ => true) (.inl false) (.inr ()) l.length (fun i hi => by
   have k1 : (i : Int) < l.length := by omega
   have k2 : (0 : Int) ≤ (i : Int) := by omega
   have hw : IntKind.wrap .i64 ((i : Int) + 1) = ((i + 1 : Nat) : Int) := by rw [wrap64 (by omega)]; omega
   obtain ⟨q1, q2⟩ := eqLogNote_self _ (hit _ (at_mem (e := NI_) hi))
   simp only [g_Sw_eqLogNoteS_0, RT.sel, cond_true, k1, k2, hw, decide_true, and_self, Int.toNat_natCast, q1, q2, Bool.not_true, cond_false]) (by simp [g_Sw_eqLogNoteS_0, RT.sel])
  rw [show (List.range l.length).all (fun _ => true) = true by simp] at this
  exact this
 simp [g_Aw_eqLogNoteS, g_Vw_eqLogNoteS_0, h, okO, valO, isL]
theorem eqLogDisk_self (l : List Note) (safe : Int) (hl : l.length ≤ 1048576) (hit : ∀ x ∈ l, smallN x) : g_Aw_eqLogDisk l safe l safe = true ∧ g_Vw_eqLogDisk_0 l safe l safe = true := by
 obtain ⟨a, b⟩ := eqLogNoteS_self l hl hit
 simp [g_Aw_eqLogDisk, g_Vw_eqLogDisk_0, a, b]
theorem small_disk {l : List Note} {B : Nat} (h : szL szN l ≤ B) (hB : B ≤ 1048576) : l.length ≤ B ∧ ∀ x ∈ l, smallN x := by
 have := szL_len h
 exact ⟨this.1, fun x hx => small_note (this.2 x hx) hB⟩
theorem loop_inv {σ ρ : Type} {step : σ → RT σ ρ} (I : σ → Prop) (R : ρ → Prop) (μ : σ → Nat) (h : ∀ x, I x → (∃ y, (step x).sel = .go y ∧ I y ∧ μ y < μ x) ∨ ∃ r, (step x).sel = .out r ∧ R r) : ∀ x, I x → ∃ r, loopO step x = some r ∧ R r := by
 have key : ∀ n x, μ x ≤ n → I x → ∃ r, loopO step x = some r ∧ R r := by
  intro n
  induction n with
  | zero =>
   intro x hx hI
   rcases h x hI with ⟨y, _, _, h3⟩ | ⟨r, h1, h2⟩
   ·omega
   ·exact ⟨r, by rw [loopO_eq, h1], h2⟩
  | succ n ih =>
   intro x hx hI
   rcases h x hI with ⟨y, h1, h2, h3⟩ | ⟨r, h1, h2⟩
   ·obtain ⟨r, e1, e2⟩ := ih y (by omega) h2
    exact ⟨r, by rw [loopO_eq, h1]; exact e1, e2⟩
   ·exact ⟨r, by rw [loopO_eq, h1], h2⟩
 exact fun x hI => key (μ x) x (Nat.le_refl _) hI
theorem cond_f' (a b : Bool) : (bif a then b else false) = (a && b) := by cases a <;> rfl
def mkL {α : Type} (m : α → Int → α) (c : α → Nat) : List α → Int → List α
 | [], _ => []
 | x :: r, k => m x k :: mkL m c r (k + c x)
theorem mkL_len {α : Type} (m : α → Int → α) (c : α → Nat) : ∀ (l : List α) (k : Int), (mkL m c l k).length = l.length
 | [], _ => rfl
 | x :: r, k => by simp [mkL, mkL_len m c r]
def sumC {α : Type} (c : α → Nat) (l : List α) : Nat := (l.map c).sum
theorem sumC_cons {α : Type} (c : α → Nat) (x : α) (l : List α) : sumC c (x :: l) = c x + sumC c l := by simp [sumC]
theorem sumC_one {α : Type} : ∀ (l : List α), sumC (fun _ => 1) l = l.length
 | [] => rfl
 | x :: l => by rw [sumC_cons, sumC_one l, List.length_cons]; omega
theorem at_set {e : Ty} {l : List e.den} {i : Nat} {x : e.den} (h : i < l.length) : at_ e (l.set i x) i = x := by
 simp [at_, List.getD, List.getElem?_set_self h]
section
variable {e : Ty}
theorem at_split (pre : List e.den) (x : e.den) (s : List e.den) : at_ e (pre ++ x :: s) pre.length = x := by simp [at_, List.getD]
theorem mark_loop {step : List e.den × Int × Int → RT (List e.den × Int × Int) (List e.den × Int)} (m : e.den → Int → e.den) (c : e.den → Nat) (l : List e.den) (B : Int)
  (h1 : ∀ (i : Nat) (r : List e.den) (k : Int), i < l.length → r.length = l.length → at_ e r i = at_ e l i → 0 ≤ k → k + (c (at_ e l i) : Int) ≤ B → (step (r, k, (i : Int))).sel = .go (r.set i (m (at_ e l i) k), k + c (at_ e l i), ((i + 1 : Nat) : Int)))
  (h2 : ∀ (r : List e.den) (k : Int), r.length = l.length → (step (r, k, (l.length : Int))).sel = .out (r, k))
  (k0 : Int) (h0 : 0 ≤ k0) (hB : k0 + (sumC c l : Nat) ≤ B) : loopO step (l, k0, 0) = some (mkL m c l k0, k0 + (sumC c l : Nat)) := by
 have key : ∀ (s pre : List e.den) (k : Int), pre.length + s.length = l.length → s = l.drop pre.length → 0 ≤ k → k + (sumC c s : Nat) ≤ B → loopO step (pre ++ s, k, (pre.length : Int)) = some (pre ++ mkL m c s k, k + (sumC c s : Nat)) := by
  intro s
  induction s with
  | nil =>
   intro pre k hl _ _ _
   have e1 : pre.length = l.length := by simpa using hl
   rw [loopO_eq, e1, h2 (pre ++ []) k (by simpa using e1)]
   simp [mkL, sumC]
  | cons x s ih =>
   intro pre k hl hs hk hb
   rw [List.length_cons] at hl
   rw [sumC_cons] at hb
   have hi : pre.length < l.length := by omega
   have hx : at_ e l pre.length = x := by
    rw [at_eq hi]
    have := congrArg (fun t => t[0]?) hs
    simp only [List.getElem?_cons_zero, List.getElem?_drop, Nat.add_zero, List.getElem?_eq_getElem hi, Option.some.injEq] at this
    exact this.symm
   rw [loopO_eq, h1 pre.length (pre ++ x :: s) k hi (by simp; omega) (by rw [at_split, hx]) hk (by rw [hx]; omega), hx]
   have es : (pre ++ x :: s).set pre.length (m x k) = (pre ++ [m x k]) ++ s := by simp
   simp only [es]
   have := ih (pre ++ [m x k]) (k + c x) (by simp; omega) (by
    rw [List.length_append, List.length_singleton, ← List.drop_drop, ← hs]; rfl) (by omega) (by omega)
   rw [List.length_append, List.length_singleton] at this
   rw [this]
   simp only [mkL, List.append_assoc, List.singleton_append, sumC_cons]
   congr 2
   omega
 have := key l [] k0 (by simp) (by simp) h0 hB
 simpa using this
theorem held_loop {ρ : Type} {step : Int × Int → RT (Int × Int) ρ} (m : e.den → Int → e.den) (c : e.den → Nat) (l : List e.den) (B : Int) (fin : Int → ρ) (k0 : Int)
  (h1 : ∀ (i : Nat) (k : Int), i < l.length → at_ e (mkL m c l k0) i = m (at_ e l i) k → 0 ≤ k → k + (c (at_ e l i) : Int) ≤ B → (step (k, (i : Int))).sel = .go (k + c (at_ e l i), ((i + 1 : Nat) : Int)))
  (h2 : ∀ (k : Int), (step (k, (l.length : Int))).sel = .out (fin k))
  (h0 : 0 ≤ k0) (hB : k0 + (sumC c l : Nat) ≤ B) : loopO step (k0, 0) = some (fin (k0 + (sumC c l : Nat))) := by
 have key : ∀ (s : List e.den) (n : Nat) (k : Int), n + s.length = l.length → s = l.drop n → (mkL m c l k0).drop n = mkL m c s k → 0 ≤ k → k + (sumC c s : Nat) ≤ B → loopO step (k, (n : Int)) = some (fin (k + (sumC c s : Nat))) := by
  intro s
  induction s with
  | nil =>
   intro n k hl _ _ _ _
   have e1 : n = l.length := by simpa using hl
   rw [loopO_eq, e1, h2 k]
   simp [sumC]
  | cons x s ih =>
   intro n k hl hs hm hk hb
   rw [List.length_cons] at hl
   rw [sumC_cons] at hb
   have hi : n < l.length := by omega
   have hx : at_ e l n = x := by
    rw [at_eq hi]
    have := congrArg (fun t => t[0]?) hs
    simp only [List.getElem?_cons_zero, List.getElem?_drop, Nat.add_zero, List.getElem?_eq_getElem hi, Option.some.injEq] at this
    exact this.symm
   have hi2 : n < (mkL m c l k0).length := by rw [mkL_len]; exact hi
   have hmx : at_ e (mkL m c l k0) n = m x k := by
    rw [at_eq hi2]
    have := congrArg (fun t => t[0]?) hm
    simp only [mkL, List.getElem?_cons_zero, List.getElem?_drop, Nat.add_zero, List.getElem?_eq_getElem hi2, Option.some.injEq] at this
    exact this
   rw [loopO_eq, h1 n k hi (by rw [hmx, hx]) hk (by rw [hx]; omega), hx]
   simp only
   rw [ih (n + 1) (k + c x) (by omega) (by rw [← List.drop_drop, ← hs]; rfl) (by rw [← List.drop_drop, hm]; rfl) (by omega) (by omega), sumC_cons]
   congr 2
   omega
 exact key l 0 k0 (by simp) (by simp) (by simp) h0 hB
end
def MK : Int := 1099511627776
theorem wrapM {x : Int} (h : 0 ≤ x ∧ x ≤ 1099511627776 + 1000) : IntKind.wrap .i64 x = x := wrap64 (by omega)
theorem markText_f (k : Int) (h : 0 ≤ k ∧ k ≤ MK) : g_Aw_markText k = true := by
 unfold g_Aw_markText
 by_cases hk : k ≤ 0
 ·simp [hk]
 ·obtain ⟨r, h1, h2⟩ := loop_inv (step := g_Sw_markText_0) (fun x => 0 ≤ x.1 ∧ x.2.size ≤ 41 ∧ x.1 < 2 ^ (41 - x.2.size)) (fun r => r.size ≤ 41) (fun x => x.1.toNat) (fun x hx => by
   obtain ⟨n, s⟩ := x
   obtain ⟨i1, i2, i3⟩ := hx
   simp only at i1 i2 i3
   by_cases hn : n > 0
   ·have hs : s.size < 41 := by
     rcases Nat.lt_or_ge s.size 41 with h | h
     ·exact h
     ·have : s.size = 41 := by omega
      rw [this] at i3
      simp at i3
      omega
    have hd : Int.tdiv n 10 = n / 10 := Int.tdiv_eq_ediv_of_nonneg i1
    have hbig : n < 2 ^ 41 := by
     refine Int.lt_of_lt_of_le i3 ?_
     have : (2 : Int) ^ (41 - s.size) = ((2 ^ (41 - s.size) : Nat) : Int) := by simp
     rw [this]
     have := Nat.pow_le_pow_right (show 0 < 2 by decide) (show 41 - s.size ≤ 41 by omega)
     have e : (2 : Int) ^ 41 = ((2 ^ 41 : Nat) : Int) := by norm_cast
     rw [e]
     exact_mod_cast this
    have hw : IntKind.wrap .i64 (Int.tdiv n 10) = n / 10 := by rw [hd]; exact wrap64 (by omega)
    let one : ByteArray := ⟨List.toArray (List.map (fun n => UInt8.ofNat (Int.toNat n)) [IntKind.wrap IntKind.u8 (IntKind.wrap IntKind.i64 ((48 : Int) + Int.tmod n (10 : Int)))])⟩
    have ho : (one ++ s).size = s.size + 1 := by
     rw [ByteArray.size_append]
     show 1 + s.size = _
     omega
    refine .inl ⟨(n / 10, one ++ s), ?_, ⟨by simp only; omega, by simp only; omega, ?_⟩, by simp only; omega⟩
    ·have hsz : (nat_lit 1 : Nat) + s.size ≤ nat_lit 9223372036854775807 := by
      exact Nat.le_trans (show 1 + s.size ≤ 100 by omega) (by decide)
     simp only [g_Sw_markText_0, RT.sel, hn, decide_true, cond_true, hw]
     rw [show decide (ByteArray.size one + s.size ≤ nat_lit 9223372036854775807) = true from decide_eq_true hsz]
     rfl
    ·simp only [ho]
     have : (41 - s.size) = (41 - (s.size + 1)) + 1 := by omega
     rw [this, Int.pow_succ] at i3
     omega
   ·refine .inr ⟨s, ?_, i2⟩
    simp only [g_Sw_markText_0, RT.sel, hn, decide_false, cond_true, cond_false]) (k, lit []) ⟨h.1, show (0 : Nat) ≤ 41 by decide, by
     have : (lit []).size = 0 := rfl
     simp only [this]
     have := h.2
     unfold MK at this
     omega⟩
  have h1 : g_Lw_markText_0 (k, lit []) = some r := h1
  rw [h1]
  simp only [okO, valO, Option.isSome_some, Option.getD_some, Bool.true_and, decide_eq_false hk, Bool.false_or]
  exact decide_eq_true (Nat.le_trans (show 1 + r.size ≤ 100 by omega) (by decide))
abbrev mkI (l : List Int) (k : Int) : List Int := mkL (fun _ k => k) (fun _ => 1) l k
theorem markIntS_f (l : List Int) (k : Int) (hl : l.length ≤ 1048576) (h : 0 ≤ k ∧ k + l.length ≤ MK) : g_Aw_markIntS l k = true ∧ g_Vw_markIntS_0 l k = k + l.length ∧ g_Vw_markIntS_1 l k = mkI l k := by
 have L : g_Lw_markIntS_0 (l, k, 0) = some (mkI l k, k + l.length) := by
  have := mark_loop (e := .int .i64) (step := g_Sw_markIntS_0) (fun _ k => k) (fun _ => 1) l MK (fun i r k hi hr _ h0 hb => by
   have k1 : (i : Int) < r.length := by omega
   have k2 : (0 : Int) ≤ (i : Int) := by omega
   have k3 : i < r.length := by omega
   unfold MK at hb
   simp only [g_Sw_markIntS_0, RT.sel, cond_true, k1, k2, k3, decide_true, and_self, Int.toNat_natCast, wrapM (x := k + 1) (by omega), wrapM (x := (i : Int) + 1) (by omega)]
   congr 1) (fun r k hr => by simp only [g_Sw_markIntS_0, RT.sel, cond_true, hr, Int.lt_irrefl, decide_false, cond_false]) k h.1 (by rw [sumC_one]; exact h.2)
  rw [sumC_one] at this
  exact this
 simp only [g_Aw_markIntS, g_Vw_markIntS_0, g_Vw_markIntS_1, L, okO, valO, Option.isSome_some, Option.getD_some, and_self]
theorem heldIntS_f (l : List Int) (k : Int) (hl : l.length ≤ 1048576) (h : 0 ≤ k ∧ k + l.length ≤ MK) : g_Aw_heldIntS (mkI l k) k = true ∧ g_Vw_heldIntS_0 (mkI l k) k = k + l.length := by
 have L : g_Lw_heldIntS_0 (mkI l k) (k, 0) = some (.inr (k + l.length)) := by
  have := held_loop (e := .int .i64) (step := g_Sw_heldIntS_0 (mkI l k)) (fun _ k => k) (fun _ => 1) l MK (fun k => .inr k) k (fun i k' hi ha h0 hb => by
   have hlen : (mkI l k).length = l.length := mkL_len _ _ _ _
   have k1 : (i : Int) < (mkI l k).length := by omega
   have k2 : (0 : Int) ≤ (i : Int) := by omega
   have ha : at_ (.int .i64) (mkI l k) i = k' := ha
   unfold MK at hb
   simp only [g_Sw_heldIntS_0, RT.sel, cond_true, k1, k2, decide_true, and_self, Int.toNat_natCast, ha, bne_self_eq_false, cond_false, wrapM (x := k' + 1) (by omega), wrapM (x := (i : Int) + 1) (by omega)]
   congr 1) (fun k' => by
    have hlen : (mkI l k).length = l.length := mkL_len _ _ _ _
    simp only [g_Sw_heldIntS_0, RT.sel, cond_true, hlen, Int.lt_irrefl, decide_false, cond_false]) h.1 (by rw [sumC_one]; exact h.2)
  rw [sumC_one] at this
  exact this
 simp only [g_Aw_heldIntS, g_Vw_heldIntS_0, L, okO, valO, Option.isSome_some, Option.getD_some, isL, getR, cond_false, and_self]
noncomputable abbrev mkS (l : List ByteArray) (k : Int) : List ByteArray := mkL (fun _ k => g_Vw_markText_0 k) (fun _ => 1) l k
theorem markStringS_f (l : List ByteArray) (k : Int) (hl : l.length ≤ 1048576) (h : 0 ≤ k ∧ k + l.length ≤ MK) : g_Aw_markStringS l k = true ∧ g_Vw_markStringS_0 l k = k + l.length ∧ g_Vw_markStringS_1 l k = mkS l k := by
 have L : g_Lw_markStringS_0 (l, k, 0) = some (mkS l k, k + l.length) := by
  have := mark_loop (e := .str) (step := g_Sw_markStringS_0) (fun _ k => g_Vw_markText_0 k) (fun _ => 1) l MK (fun i r k hi hr _ h0 hb => by
   have k1 : (i : Int) < r.length := by omega
   have k2 : (0 : Int) ≤ (i : Int) := by omega
   have k3 : i < r.length := by omega
   unfold MK at hb
   have t := markText_f k ⟨h0, by unfold MK; omega⟩
   simp only [g_Sw_markStringS_0, RT.sel, cond_true, k1, k2, k3, decide_true, and_self, Int.toNat_natCast, t, wrapM (x := k + 1) (by omega), wrapM (x := (i : Int) + 1) (by omega)]
   congr 1) (fun r k hr => by simp only [g_Sw_markStringS_0, RT.sel, cond_true, hr, Int.lt_irrefl, decide_false, cond_false]) k h.1 (by rw [sumC_one]; exact h.2)
  rw [sumC_one] at this
  exact this
 simp only [g_Aw_markStringS, g_Vw_markStringS_0, g_Vw_markStringS_1, L, okO, valO, Option.isSome_some, Option.getD_some, and_self]
abbrev WM_ : Ty := .pair .str (.pair .bool (.sl 3 (.int .i64)))
noncomputable abbrev mW (x : ByteArray × Bool × List Int) (k : Int) : ByteArray × Bool × List Int := (g_Vw_markText_0 k, Int.tmod (k + 1) 3 == 0, mkI x.2.2 (k + 2))
abbrev cW (x : ByteArray × Bool × List Int) : Nat := 2 + x.2.2.length
noncomputable abbrev mkW (l : List (ByteArray × Bool × List Int)) (k : Int) : List (ByteArray × Bool × List Int) := mkL mW cW l k
theorem markStoWriteS_f (l : List (ByteArray × Bool × List Int)) (k : Int) (hl : l.length ≤ 1048576) (hit : ∀ x ∈ l, x.2.2.length ≤ 1048576) (h : 0 ≤ k ∧ k + (sumC cW l : Nat) ≤ MK) : g_Aw_markStoWriteS l k = true ∧ g_Vw_markStoWriteS_0 l k = k + (sumC cW l : Nat) ∧ g_Vw_markStoWriteS_1 l k = mkW l k := by
 have L : g_Lw_markStoWriteS_0 (l, k, 0) = some (mkL mW cW l k, k + (sumC cW l : Nat)) := by
  refine mark_loop (e := WM_) (step := g_Sw_markStoWriteS_0) mW cW l MK (fun i r k hi hr ha h0 hb => ?_) (fun r k hr => by simp only [g_Sw_markStoWriteS_0, RT.sel, cond_true, hr, Int.lt_irrefl, decide_false, cond_false]) k h.1 h.2
  have k1 : (i : Int) < r.length := by omega
  have k2 : (0 : Int) ≤ (i : Int) := by omega
  have k3 : i < r.length := by omega
  have ha : at_ (.pair .str (.pair .bool (.sl 3 (.int .i64)))) r i = at_ WM_ l i := ha
  have hx := hit _ (at_mem (e := WM_) hi)
  simp only [cW] at hb
  unfold MK at hb
  have t := markText_f k ⟨h0, by unfold MK; omega⟩
  obtain ⟨a1, a2, a3⟩ := markIntS_f (at_ WM_ l i).2.2 (k + 2) hx ⟨by omega, by unfold MK; omega⟩
  have e2 : k + 1 + 1 = k + 2 := by omega
  simp only [g_Sw_markStoWriteS_0, updE, RT.sel, cond_true, k1, k2, k3, decide_true, and_self, Int.toNat_natCast, t, List.length_set, at_set k3, ha, wrapM (x := k + 1) (by omega), e2, wrapM (x := k + 2) (by omega), a1, a2, a3, List.set_set, wrapM (x := (i : Int) + 1) (by omega)]
  simp only [cW]
  congr 3
  omega
 simp only [g_Aw_markStoWriteS, g_Vw_markStoWriteS_0, g_Vw_markStoWriteS_1, L, okO, valO, Option.isSome_some, Option.getD_some, and_self]
noncomputable abbrev mN (x : Note) (k : Int) : Note := (k, k + 1, mkS x.2.2.1 (k + 2), mkW x.2.2.2 (k + 2 + x.2.2.1.length))
abbrev cN (x : Note) : Nat := 2 + x.2.2.1.length + sumC cW x.2.2.2
noncomputable abbrev mkN (l : List Note) (k : Int) : List Note := mkL mN cN l k
theorem markLogNoteS_f (l : List Note) (k : Int) (hl : l.length ≤ 1048576) (hit : ∀ x ∈ l, smallN x) (h : 0 ≤ k ∧ k + (sumC cN l : Nat) ≤ MK) : g_Aw_markLogNoteS l k = true ∧ g_Vw_markLogNoteS_0 l k = k + (sumC cN l : Nat) ∧ g_Vw_markLogNoteS_1 l k = mkN l k := by
 have L : g_Lw_markLogNoteS_0 (l, k, 0) = some (mkL mN cN l k, k + (sumC cN l : Nat)) := by
  refine mark_loop (e := NI_) (step := g_Sw_markLogNoteS_0) mN cN l MK (fun i r k hi hr ha h0 hb => ?_) (fun r k hr => by simp only [g_Sw_markLogNoteS_0, RT.sel, cond_true, hr, Int.lt_irrefl, decide_false, cond_false]) k h.1 h.2
  have k1 : (i : Int) < r.length := by omega
  have k2 : (0 : Int) ≤ (i : Int) := by omega
  have k3 : i < r.length := by omega
  have ha : at_ NI_ r i = at_ NI_ l i := ha
  obtain ⟨x1, x2, x3⟩ := hit _ (at_mem (e := NI_) hi)
  simp only [cN] at hb
  unfold MK at hb
  obtain ⟨a1, a2, a3⟩ := markStringS_f (at_ NI_ l i).2.2.1 (k + 2) x1 ⟨by omega, by unfold MK; omega⟩
  obtain ⟨b1, b2, b3⟩ := markStoWriteS_f (at_ NI_ l i).2.2.2 (k + 2 + ((at_ NI_ l i).2.2.1.length : Nat)) x2 x3 ⟨by omega, by unfold MK; omega⟩
  have e2 : k + 1 + 1 = k + 2 := by omega
  simp only [g_Sw_markLogNoteS_0, updE, RT.sel, cond_true, k1, k2, k3, decide_true, and_self, Int.toNat_natCast, List.length_set, at_set k3, ha, wrapM (x := k + 1) (by omega), e2, wrapM (x := k + 2) (by omega), a1, a2, a3, b1, b2, b3, List.set_set, wrapM (x := (i : Int) + 1) (by omega)]
  simp only [cN]
  congr 3
  omega
 simp only [g_Aw_markLogNoteS, g_Vw_markLogNoteS_0, g_Vw_markLogNoteS_1, L, okO, valO, Option.isSome_some, Option.getD_some, and_self]
theorem sumC_le {α : Type} {c z : α → Nat} (h : ∀ x, c x ≤ 2 * z x + 2) (l : List α) : sumC c l ≤ 2 * szL z l := by
 induction l with
 | nil => simp [sumC]
 | cons x l ih =>
  rw [sumC_cons]
  have := h x
  unfold szL at ih ⊢
  rw [List.length_cons, List.map_cons, List.sum_cons]
  omega
theorem sumC_W (l : List (ByteArray × Bool × List Int)) : sumC cW l ≤ 2 * szL szW l := sumC_le (fun x => by simp only [cW, szW]; omega) l
theorem cN_le (x : Note) : cN x ≤ 2 * szN x + 2 := by
 have := sumC_W x.2.2.2
 have h2 : x.2.2.1.length ≤ szL ByteArray.size x.2.2.1 := by unfold szL; omega
 simp only [cN, szN]
 omega
theorem sumC_N (l : List Note) : sumC cN l ≤ 2 * szL szN l := sumC_le cN_le l
theorem leq_not : ∀ a b : List UInt8, (Go.Op.bytesLess a b || a == b) = !(Go.Op.bytesLess b a)
 | [], [] => rfl
 | [], _ :: _ => rfl
 | _ :: _, [] => rfl
 | a :: x, b :: y => by
  have ih := leq_not x y
  simp only [Go.Op.bytesLess]
  rcases Nat.lt_trichotomy a.toNat b.toNat with h | h | h
  ·have h1 : decide (a < b) = true := decide_eq_true (UInt8.lt_iff_toNat_lt.2 h)
   have h2 : decide (b < a) = false := decide_eq_false (fun e => by have := UInt8.lt_iff_toNat_lt.1 e; omega)
   have h3 : (b == a) = false := by rw [beq_eq_false_iff_ne]; rintro rfl; omega
   simp [h1, h2, h3]
  ·obtain rfl : a = b := UInt8.toNat_inj.1 h
   have h1 : decide (a < a) = false := decide_eq_false (fun e => by have := UInt8.lt_iff_toNat_lt.1 e; omega)
   have h2 : (a :: x == a :: y) = (x == y) := by simp
   rw [h2, h1]
   simpa using ih
  ·have h1 : decide (a < b) = false := decide_eq_false (fun e => by have := UInt8.lt_iff_toNat_lt.1 e; omega)
   have h2 : decide (b < a) = true := decide_eq_true (UInt8.lt_iff_toNat_lt.2 h)
   have h3 : (a == b) = false := by rw [beq_eq_false_iff_ne]; rintro rfl; omega
   have h4 : (a :: x == b :: y) = false := by rw [beq_eq_false_iff_ne]; intro e; injection e with e1 _; subst e1; omega
   rw [h1, h2, h3, h4]
   simp
abbrev TI_ : Ty := .pair .str (.sl 3 (.int .i64))
def risesP (l : List (ByteArray × List Int)) (i : Nat) : Bool := decide (i = 0) || Op.bytesLess (at_ TI_ l (i - 1)).1.toList (at_ TI_ l i).1.toList
def itemP (l : List (ByteArray × List Int)) (i : Nat) : Bool := keyP (at_ TI_ l i).1 && (valP (at_ TI_ l i).2 && risesP l i)
def storeP (l : List (ByteArray × List Int)) : Bool := decide (l.length ≤ 40) && (List.range l.length).all (itemP l)
theorem s_StoOk_loop (l : List (ByteArray × List Int)) (hl : l.length ≤ 1048576) (hit : ∀ x ∈ l, x.2.length ≤ 1048576) : g_Ls_StoOk_0 l 0 = some (bif (List.range l.length).all (itemP l) then .inr () else .inl false) := by
 refine loop_all (ρ := Bool ⊕ Unit) (step := g_Ss_StoOk_0 l) (fun i : Nat => (i : Int)) (itemP l) (Sum.inl false) (Sum.inr ()) l.length (fun i hi => ?_) ?_
 ·have k1 : (i : Int) < l.length := by omega
  have k2 : (0 : Int) ≤ (i : Int) := by omega
  have hw : IntKind.wrap .i64 ((i : Int) + 1) = ((i + 1 : Nat) : Int) := by rw [wrap64 (by omega)]; omega
  obtain ⟨q1, q2⟩ := s_l1Val_f (at_ TI_ l i).2 (hit _ (at_mem (e := TI_) hi))
  simp only [g_Ss_StoOk_0, RT.sel, cond_true, k1, k2, hw, decide_true, and_self, Int.toNat_natCast, (s_l1Key_f _).1, (s_l1Key_f _).2, q1, q2, itemP, risesP]
  generalize keyP (at_ TI_ l i).1 = p
  generalize valP (at_ TI_ l i).2 = q
  by_cases h0 : i = 0
  ·subst h0
   cases p <;> cases q <;> simp [RT.sel]
  ·have h1 : (i : Int) > 0 := by omega
   have h2 : IntKind.wrap .i64 ((i : Int) - 1) = ((i - 1 : Nat) : Int) := by rw [wrap64 (by omega)]; omega
   have h3 : (0 : Int) ≤ ((i - 1 : Nat) : Int) ∧ ((i - 1 : Nat) : Int) < l.length := by omega
   simp only [h1, h2, h3, decide_true, cond_true, and_self, Int.toNat_natCast, RT.sel, h0, decide_false, Bool.false_or]
   generalize Op.bytesLess _ _ = r
   cases p <;> cases q <;> cases r <;> rfl
 ·simp [g_Ss_StoOk_0, RT.sel]
theorem i_StoOk_loop (l : List (ByteArray × List Int)) (hl : l.length ≤ 1048576) (hit : ∀ x ∈ l, x.2.length ≤ 1048576) : g_Li_StoOk_0 l (l.length : Int) l 0 = some (bif (List.range l.length).all (itemP l) then .inr () else .inl false) := by
 refine loop_all (ρ := Bool ⊕ Unit) (step := g_Si_StoOk_0 l (l.length : Int) l) (fun i : Nat => (i : Int)) (itemP l) (Sum.inl false) (Sum.inr ()) l.length (fun i hi => ?_) ?_
 ·have k1 : (i : Int) < l.length := by omega
  have k2 : (0 : Int) ≤ (i : Int) := by omega
  have hw : IntKind.wrap .i64 ((i : Int) + 1) = ((i + 1 : Nat) : Int) := by rw [wrap64 (by omega)]; omega
  obtain ⟨q1, q2⟩ := i_valOk_f (at_ TI_ l i).2 (hit _ (at_mem (e := TI_) hi))
  simp only [g_Si_StoOk_0, RT.sel, cond_true, k1, k2, hw, decide_true, and_self, Int.toNat_natCast, (i_keyOk_f _).1, (i_keyOk_f _).2, q1, q2, itemP, risesP, leq_not]
  generalize keyP (at_ TI_ l i).1 = p
  generalize valP (at_ TI_ l i).2 = q
  by_cases h0 : i = 0
  ·subst h0
   cases p <;> cases q <;> simp [RT.sel]
  ·have h1 : (i : Int) > 0 := by omega
   have h2 : IntKind.wrap .i64 ((i : Int) - 1) = ((i - 1 : Nat) : Int) := by rw [wrap64 (by omega)]; omega
   have h3 : (0 : Int) ≤ ((i - 1 : Nat) : Int) ∧ ((i - 1 : Nat) : Int) < l.length := by omega
   simp only [h1, h2, h3, decide_true, cond_true, and_self, Int.toNat_natCast, RT.sel, h0, decide_false, Bool.false_or]
   generalize Op.bytesLess _ _ = r
   cases p <;> cases q <;> cases r <;> rfl
 ·simp [g_Si_StoOk_0, RT.sel]
theorem s_StoOk_f (l : List (ByteArray × List Int)) (hl : l.length ≤ 1048576) (hit : ∀ x ∈ l, x.2.length ≤ 1048576) : g_As_StoOk l = true ∧ g_Vs_StoOk_0 l = storeP l := by
 have h := s_StoOk_loop l hl hit
 have e2 : decide ((l.length : Int) > 40) = !decide (l.length ≤ 40) := by rw [Bool.eq_iff_iff]; simp; omega
 constructor
 ·simp [g_As_StoOk, h, okO]
 ·simp only [g_Vs_StoOk_0, h, valO, Option.getD_some, e2, storeP]
  cases (List.range l.length).all (itemP l) <;> cases decide (l.length ≤ 40) <;> rfl
theorem i_StoOk_f (l : List (ByteArray × List Int)) (hl : l.length ≤ 1048576) (hit : ∀ x ∈ l, x.2.length ≤ 1048576) : g_Ai_StoOk l = true ∧ g_Vi_StoOk_0 l = storeP l := by
 have h := i_StoOk_loop l hl hit
 have e2 : decide ((l.length : Int) ≤ 40) = decide (l.length ≤ 40) := decide_eq_decide.2 (by omega)
 constructor
 ·simp [g_Ai_StoOk, h, okO]
 ·simp only [g_Vi_StoOk_0, h, valO, Option.getD_some, e2, storeP]
  cases (List.range l.length).all (itemP l) <;> cases decide (l.length ≤ 40) <;> rfl
theorem less_irrefl : ∀ a : List UInt8, Op.bytesLess a a = false
 | [] => rfl
 | x :: a => by simp [Op.bytesLess, less_irrefl a]
theorem less_trans : ∀ a b c : List UInt8, Op.bytesLess a b = true → Op.bytesLess b c = true → Op.bytesLess a c = true
 | [], [], _, h, _ => by simp [Op.bytesLess] at h
 | [], _ :: _, [], _, h => by simp [Op.bytesLess] at h
 | [], _ :: _, _ :: _, _, _ => rfl
 | _ :: _, [], _, h, _ => by simp [Op.bytesLess] at h
 | _ :: _, _ :: _, [], _, h => by simp [Op.bytesLess] at h
 | x :: a, y :: b, z :: c, h1, h2 => by
  simp only [Op.bytesLess] at h1 h2 ⊢
  have t := less_trans a b c
  simp only [Bool.or_eq_true, Bool.and_eq_true, decide_eq_true_eq, beq_iff_eq] at h1 h2 ⊢
  simp only [UInt8.lt_iff_toNat_lt] at h1 h2 ⊢
  rcases h1 with h1 | ⟨rfl, h1⟩
  ·rcases h2 with h2 | ⟨rfl, h2⟩
   ·left; omega
   ·left; exact h1
  ·rcases h2 with h2 | ⟨rfl, h2⟩
   ·left; exact h2
   ·right; exact ⟨rfl, t h1 h2⟩
theorem compare_lt : ∀ a b : List UInt8, decide (Lib.compareBytes a b < 0) = Op.bytesLess a b
 | [], [] => rfl
 | [], _ :: _ => rfl
 | _ :: _, [] => rfl
 | x :: a, y :: b => by
  simp only [Lib.compareBytes, Op.bytesLess]
  by_cases h : x < y
  ·simp [h]
  ·by_cases h2 : y < x
   ·have : x ≠ y := fun e => by subst e; exact h h2
    simp [h, h2, this]
   ·have : x = y := by
     apply UInt8.toNat_inj.1
     rw [UInt8.lt_iff_toNat_lt] at h h2
     omega
    subst this
    simp [h, compare_lt a b]
theorem compare_eq : ∀ a b : List UInt8, (Lib.compareBytes a b == 0) = (a == b)
 | [], [] => rfl
 | [], _ :: _ => rfl
 | _ :: _, [] => rfl
 | x :: a, y :: b => by
  simp only [Lib.compareBytes]
  by_cases h : x < y
  ·have : x ≠ y := fun e => by subst e; rw [UInt8.lt_iff_toNat_lt] at h; omega
   simp [h, this]
  ·by_cases h2 : y < x
   ·have : x ≠ y := fun e => by subst e; exact h h2
    simp [h, h2, this]
   ·have : x = y := by
     apply UInt8.toNat_inj.1
     rw [UInt8.lt_iff_toNat_lt] at h h2
     omega
    subst this
    have := compare_eq a b
    simp [h]
    simpa using this
theorem rises_lt {l : List (ByteArray × List Int)} (h : storeP l = true) : ∀ (d i : Nat), i + (d + 1) < l.length → Op.bytesLess (at_ TI_ l i).1.toList (at_ TI_ l (i + (d + 1))).1.toList = true := by
 simp only [storeP, Bool.and_eq_true, List.all_eq_true, itemP] at h
 have one : ∀ i, i + 1 < l.length → Op.bytesLess (at_ TI_ l i).1.toList (at_ TI_ l (i + 1)).1.toList = true := by
  intro i hi
  have := (h.2 (i + 1) (List.mem_range.2 hi)).2.2
  simpa [risesP] using this
 intro d
 induction d with
 | zero => intro i hi; exact one i hi
 | succ d ih =>
  intro i hi
  exact less_trans _ _ _ (ih i (by omega)) (one (i + (d + 1)) (by omega))
def posP (l : List (ByteArray × List Int)) (key : ByteArray) : Nat := (l.takeWhile fun x => Op.bytesLess x.1.toList key.toList).length
theorem pos_le (l : List (ByteArray × List Int)) (key : ByteArray) : posP l key ≤ l.length := (List.takeWhile_sublist _).length_le
theorem pos_lt {l : List (ByteArray × List Int)} (h : storeP l = true) (key : ByteArray) (i : Nat) (hi : i < l.length) : Op.bytesLess (at_ TI_ l i).1.toList key.toList = decide (i < posP l key) := by
 have h1 : ∀ (l : List (ByteArray × List Int)) (i : Nat), i < posP l key → ∃ h : i < l.length, Op.bytesLess (l[i]'h).1.toList key.toList = true := by
  intro l
  induction l with
  | nil => intro i hi; simp [posP] at hi
  | cons x l ih =>
   intro i hi
   unfold posP at hi
   by_cases hx : Op.bytesLess x.1.toList key.toList = true
   ·rw [List.takeWhile_cons_of_pos (p := fun x : ByteArray × List Int => Op.bytesLess x.1.toList key.toList) hx] at hi
    cases i with
    | zero => exact ⟨by simp, hx⟩
    | succ i =>
     obtain ⟨a, b⟩ := ih i (by unfold posP; simpa using hi)
     exact ⟨by simp; omega, by simpa using b⟩
   ·rw [List.takeWhile_cons_of_neg (p := fun x : ByteArray × List Int => Op.bytesLess x.1.toList key.toList) hx] at hi
    simp at hi
 have h2 : ∀ (l : List (ByteArray × List Int)) (h : posP l key < l.length), Op.bytesLess (l[posP l key]'h).1.toList key.toList = false := by
  intro l
  induction l with
  | nil => intro h; simp at h
  | cons x l ih =>
   intro h
   by_cases hx : Op.bytesLess x.1.toList key.toList = true
   ·have e : posP (x :: l) key = posP l key + 1 := by unfold posP; rw [List.takeWhile_cons_of_pos (p := fun x : ByteArray × List Int => Op.bytesLess x.1.toList key.toList) hx]; rfl
    have := ih (by rw [e] at h; simpa using h)
    simp only [e, List.getElem_cons_succ]
    exact this
   ·have e : posP (x :: l) key = 0 := by unfold posP; rw [List.takeWhile_cons_of_neg (p := fun x : ByteArray × List Int => Op.bytesLess x.1.toList key.toList) hx]; rfl
    simp only [e, List.getElem_cons_zero]
    simpa using hx
 by_cases hp : i < posP l key
 ·obtain ⟨a, b⟩ := h1 l i hp
  rw [at_eq (e := TI_) hi, decide_eq_true hp]
  exact b
 ·rw [decide_eq_false hp]
  have hp2 : posP l key < l.length := by omega
  have hb := h2 l hp2
  cases hl : Op.bytesLess (at_ TI_ l i).1.toList key.toList with
  | false => rfl
  | true =>
   exfalso
   by_cases e : i = posP l key
   ·subst e
    rw [at_eq (e := TI_) hi] at hl
    rw [hl] at hb
    cases hb
   ·have hr := rises_lt h (i - posP l key - 1) (posP l key) (by omega)
    rw [show posP l key + (i - posP l key - 1 + 1) = i by omega] at hr
    have := less_trans _ _ _ hr hl
    rw [at_eq (e := TI_) hp2] at this
    rw [this] at hb
    cases hb
def getP (l : List (ByteArray × List Int)) (key : ByteArray) : Option (List Int) := (l.find? fun x => x.1.toList == key.toList).map (·.2)
theorem pos_of {l : List (ByteArray × List Int)} (h : storeP l = true) {key : ByteArray} {i : Nat} (hi : i < l.length) (he : (at_ TI_ l i).1.toList = key.toList) : i = posP l key := by
 have h1 := pos_lt h key i hi
 rw [he, less_irrefl] at h1
 have h1 : ¬ i < posP l key := by simpa using h1.symm
 by_cases e : i = posP l key
 ·exact e
 ·exfalso
  have hp2 : posP l key < l.length := by omega
  have hr := rises_lt h (i - posP l key - 1) (posP l key) (by omega)
  rw [show posP l key + (i - posP l key - 1 + 1) = i by omega, he] at hr
  have := pos_lt h key (posP l key) hp2
  rw [hr] at this
  simp at this
theorem get_pos {l : List (ByteArray × List Int)} (h : storeP l = true) (key : ByteArray) : getP l key = if posP l key < l.length ∧ (at_ TI_ l (posP l key)).1.toList = key.toList then some (at_ TI_ l (posP l key)).2 else none := by
 unfold getP
 split
 ·rename_i hp
  have : l.find? (fun x => x.1.toList == key.toList) = some (at_ TI_ l (posP l key)) := by
   rw [List.find?_eq_some_iff_getElem]
   refine ⟨by simpa using hp.2, posP l key, hp.1, (at_eq (e := TI_) hp.1).symm, fun j hj => ?_⟩
   have hjl : j < l.length := by omega
   simp only [Bool.not_eq_true', beq_eq_false_iff_ne]
   intro e
   have := pos_of (key := key) h hjl (by rw [at_eq (e := TI_) hjl]; exact e)
   omega
  rw [this]
  rfl
 ·rename_i hp
  have : l.find? (fun x => x.1.toList == key.toList) = none := by
   rw [List.find?_eq_none]
   intro x hx e
   obtain ⟨i, hi, rfl⟩ := List.getElem_of_mem hx
   have e : l[i].1.toList = key.toList := by simpa using e
   have hi2 := pos_of h (key := key) hi (by rw [at_eq (e := TI_) hi]; exact e)
   apply hp
   rw [← hi2]
   exact ⟨hi, by rw [at_eq (e := TI_) hi]; exact e⟩
  rw [this]
  rfl
theorem capE_f (a b k : Nat) (h : a + b ≤ 1100000) (hk : k ≤ 1000) : decide ((a + b) * k ≤ nat_lit 140737488355328 ∧ a + b ≤ nat_lit 9223372036854775807) = true := by
 refine decide_eq_true ⟨Nat.le_trans (Nat.mul_le_mul h hk) (by decide), by show a + b ≤ 9223372036854775807; omega⟩
theorem l1Copy_f (l : List (ByteArray × List Int)) (hl : l.length ≤ 1048576) (hit : ∀ x ∈ l, x.2.length ≤ 1048576) : g_As_l1Copy l = true ∧ g_Vs_l1Copy_0 l = l := by
 have L : g_Ls_l1Copy_0 l [] (0, []) = some l := by
  obtain ⟨r, h1, h2⟩ := loop_inv (step := g_Ss_l1Copy_0 l []) (fun x => 0 ≤ x.1 ∧ x.1.toNat ≤ l.length ∧ x.2 = l.take x.1.toNat) (fun r => r = l) (fun x => l.length - x.1.toNat) (fun x hx => by
   obtain ⟨k, y⟩ := x
   obtain ⟨i1, i2, i3⟩ := hx
   simp only at i1 i2 i3
   by_cases hk : k < (l.length : Int)
   ·have hn : k.toNat < l.length := by omega
    have hy : y.length = k.toNat := by rw [i3, List.length_take]; omega
    have hv := hit _ (List.getElem_mem hn)
    refine .inl ⟨(k + 1, y ++ [l[k.toNat]]), ?_, ⟨by simp only; omega, by simp only; omega, ?_⟩, by simp only; omega⟩
    ·simp only [g_Ss_l1Copy_0, RT.sel, hk, i1, and_self, decide_true, cond_true, at_eq (e := .pair .str (.sl 3 (.int .i64))) hn]
     rw [capE_f _ _ _ (by omega) (by decide), cond_true, capE_f _ _ _ (by simp only [List.length_cons, List.length_nil]; omega) (by decide), cond_true, wrap64 (by omega)]
     rfl
    ·simp only
     rw [i3, show (k + 1).toNat = k.toNat + 1 by omega, List.take_succ_eq_append_getElem hn]
   ·refine .inr ⟨y, ?_, by rw [i3, List.take_of_length_le (by omega)]⟩
    simp only [g_Ss_l1Copy_0, RT.sel, hk, decide_false, cond_true, cond_false]) (0, []) ⟨by simp, by simp, by simp⟩
  rw [h2] at h1
  exact h1
 unfold g_As_l1Copy g_Vs_l1Copy_0
 rw [L]
 exact ⟨rfl, rfl⟩
def wr (k : ByteArray) (d : Bool) (v : List Int) : Bool → List (ByteArray × List Int) → List (ByteArray × List Int) × Bool
 | done, [] => ([], done)
 | done, it :: r =>
  let ins := !done && Op.bytesLess k.toList it.1.toList
  let pre := bif ins then [(k, v)] else []
  bif it.1.toList == k.toList then
   bif !d then (pre ++ (k, v) :: (wr k d v true r).1, (wr k d v true r).2)
   else (pre ++ (wr k d v (done || ins) r).1, (wr k d v (done || ins) r).2)
  else (pre ++ it :: (wr k d v (done || ins) r).1, (wr k d v (done || ins) r).2)
def writeS (l : List (ByteArray × List Int)) (k : ByteArray) (d : Bool) (v : List Int) : List (ByteArray × List Int) := bif (wr k d v d l).2 then (wr k d v d l).1 else (wr k d v d l).1 ++ [(k, v)]
theorem wr_len (k : ByteArray) (d : Bool) (v : List Int) : ∀ (l : List (ByteArray × List Int)) (done : Bool), (wr k d v done l).1.length ≤ 2 * l.length
 | [], _ => by simp [wr]
 | it :: r, done => by
  have h1 := wr_len k d v r true
  have h2 := wr_len k d v r
  simp only [wr]
  generalize (!done && Op.bytesLess k.toList it.1.toList) = ins
  have h2 := h2 (done || ins)
  generalize (done || ins) = dn at h2 ⊢
  cases (it.1.toList == k.toList) <;> cases d <;> cases ins <;> simp only [cond_true, cond_false, Bool.not_true, Bool.not_false, List.nil_append, List.cons_append, List.length_cons] <;> omega
theorem wr_val (k : ByteArray) (d : Bool) (v : List Int) (B : Nat) (hv : v.length ≤ B) : ∀ (l : List (ByteArray × List Int)) (done : Bool), (∀ x ∈ l, x.2.length ≤ B) → ∀ x ∈ (wr k d v done l).1, x.2.length ≤ B
 | [], _, _ => by simp [wr]
 | it :: r, done, h => by
  have h0 := h it List.mem_cons_self
  have h1 := wr_val k d v B hv r true (fun x hx => h x (List.mem_cons_of_mem _ hx))
  have h2 := fun dn => wr_val k d v B hv r dn (fun x hx => h x (List.mem_cons_of_mem _ hx))
  simp only [wr]
  generalize (!done && Op.bytesLess k.toList it.1.toList) = ins
  have h2 := h2 (done || ins)
  generalize (done || ins) = dn at h2 ⊢
  intro x hx
  cases hq : (it.1.toList == k.toList) <;> cases d <;> cases ins <;> simp only [hq, cond_true, cond_false, Bool.not_true, Bool.not_false, List.nil_append, List.cons_append, List.mem_cons] at hx <;> (try rcases hx with rfl | hx) <;> (try rcases hx with rfl | hx) <;> first | exact hv | exact h0 | exact h1 _ hx | exact h2 _ hx
theorem l1Write_f (l : List (ByteArray × List Int)) (k : ByteArray) (d : Bool) (v : List Int) (hl : l.length ≤ 100000) (hv : v.length ≤ 1048576) : g_As_l1Write l k d v = true ∧ g_Vs_l1Write_0 l k d v = writeS l k d v := by
 have L : g_Ls_l1Write_0 l k d v [] (d, 0, []) = some ((wr k d v d l).2, (wr k d v d l).1) := by
  obtain ⟨r, h1, h2⟩ := loop_inv (step := g_Ss_l1Write_0 l k d v []) (fun x => 0 ≤ x.2.1 ∧ x.2.1.toNat ≤ l.length ∧ x.2.2.length ≤ 2 * x.2.1.toNat ∧ x.2.2 ++ (wr k d v x.1 (l.drop x.2.1.toNat)).1 = (wr k d v d l).1 ∧ (wr k d v x.1 (l.drop x.2.1.toNat)).2 = (wr k d v d l).2) (fun r => r = ((wr k d v d l).2, (wr k d v d l).1)) (fun x => l.length - x.2.1.toNat) (fun x hx => by
   obtain ⟨done, i, y⟩ := x
   obtain ⟨i1, i2, i3, i4, i5⟩ := hx
   simp only at i1 i2 i3 i4 i5
   by_cases hk : i < (l.length : Int)
   ·have hn : i.toNat < l.length := by omega
    rw [List.drop_eq_getElem_cons hn] at i4 i5
    have e1 : (i + 1).toNat = i.toNat + 1 := by omega
    have c1 : decide ((nat_lit 0 + List.length v) * nat_lit 8 ≤ nat_lit 140737488355328 ∧ nat_lit 0 + List.length v ≤ nat_lit 9223372036854775807) = true := capE_f _ _ _ (by show 0 + _ ≤ _; omega) (by decide)
    have c2 : ∀ a b : List (ByteArray × List Int), a.length ≤ 200002 → b.length = 1 → decide ((List.length a + List.length b) * nat_lit 40 ≤ nat_lit 140737488355328 ∧ List.length a + List.length b ≤ nat_lit 9223372036854775807) = true := fun a b ha hb => capE_f _ _ _ (by omega) (by decide)
    refine .inl ?_
    generalize hq : (l[i.toNat].1.toList == k.toList) = q at i4 i5
    generalize hb : Op.bytesLess k.toList l[i.toNat].1.toList = b at i4 i5
    have sel : ∃ done' new, (g_Ss_l1Write_0 l k d v [] (done, i, y)).sel = .go (done', i + 1, y ++ new) ∧ new.length ≤ 2 ∧ wr k d v done (l[i.toNat] :: l.drop (i.toNat + 1)) = (new ++ (wr k d v done' (l.drop (i.toNat + 1))).1, (wr k d v done' (l.drop (i.toNat + 1))).2) := by
     refine ⟨done || b || (q && !d), (bif !done && b then [(k, v)] else []) ++ (bif q then (bif d then [] else [(k, v)]) else [l[i.toNat]]), ?_, ?_, ?_⟩
     ·simp only [g_Ss_l1Write_0, RT.sel, hk, i1, and_self, decide_true, cond_true, at_eq (e := .pair .str (.sl 3 (.int .i64))) hn, hq, hb, c1, wrap64 (x := i + 1) (by omega)]
      cases done <;> cases b <;> cases q <;> cases d <;> simp only [Bool.not_true, Bool.not_false, cond_true, cond_false, Bool.or_true, Bool.or_false, Bool.true_or, Bool.and_true, Bool.and_false, Bool.false_and, Bool.true_and, List.nil_append, List.append_nil, List.append_assoc, List.cons_append, RT.sel] <;> (try rw [c2 _ _ (by (try simp only [List.length_append, List.length_cons, List.length_nil]); omega) (by simp)]) <;> (try simp only [cond_true, RT.sel, List.append_assoc, List.cons_append, List.nil_append]) <;> (try rw [c2 _ _ (by (try simp only [List.length_append, List.length_cons, List.length_nil]); omega) (by simp)]) <;> (try simp only [cond_true, RT.sel, List.append_assoc, List.cons_append, List.nil_append])
     ·cases done <;> cases b <;> cases q <;> cases d <;> simp
     ·simp only [wr, hq, hb]
      cases done <;> cases b <;> cases q <;> cases d <;> simp
    obtain ⟨done', new, s1, s2, s3⟩ := sel
    rw [s3] at i4 i5
    refine ⟨_, s1, ⟨by simp only; omega, by simp only; omega, by simp only [List.length_append]; omega, ?_, ?_⟩, by simp only; omega⟩
    ·simp only [e1]
     rw [List.append_assoc]
     exact i4
    ·simp only [e1]
     exact i5
   ·refine .inr ⟨(done, y), ?_, ?_⟩
    ·simp only [g_Ss_l1Write_0, RT.sel, hk, decide_false, cond_true, cond_false]
    ·rw [List.drop_of_length_le (by omega)] at i4 i5
     simp only [wr, List.append_nil] at i4 i5
     rw [i4, ← i5]) (d, 0, []) ⟨by simp, by simp, by simp, by simp, by simp⟩
  rw [h2] at h1
  exact h1
 have hw := wr_len k d v l d
 unfold g_As_l1Write g_Vs_l1Write_0
 rw [L]
 simp only [okO, valO, Option.isSome_some, Option.getD_some, Bool.true_and]
 refine ⟨?_, ?_⟩
 ·have c1 : decide ((nat_lit 0 + List.length v) * nat_lit 8 ≤ nat_lit 140737488355328 ∧ nat_lit 0 + List.length v ≤ nat_lit 9223372036854775807) = true := capE_f _ _ _ (by show 0 + _ ≤ _; omega) (by decide)
  have c2 : decide ((List.length (wr k d v d l).1 + List.length [(k, [] ++ v)]) * nat_lit 40 ≤ nat_lit 140737488355328 ∧ List.length (wr k d v d l).1 + List.length [(k, [] ++ v)] ≤ nat_lit 9223372036854775807) = true := capE_f _ _ _ (by simp only [List.length_cons, List.length_nil]; omega) (by decide)
  simp only [Bool.or_eq_true, Bool.and_eq_true, decide_eq_true_eq]
  exact .inr ⟨of_decide_eq_true c1, decide_eq_true (of_decide_eq_true c2)⟩
 ·unfold writeS
  cases (wr k d v d l).2 <;> simp
def doL : List (ByteArray × List Int) → List (ByteArray × Bool × List Int) → Option (List (ByteArray × List Int))
 | l, [] => some l
 | l, w :: ws => bif wrtP w.1 w.2.1 w.2.2 then bif decide ((writeS l w.1 w.2.1 w.2.2).length ≤ 40) then doL (writeS l w.1 w.2.1 w.2.2) ws else none else none
def doS (l : List (ByteArray × List Int)) (ws : List (ByteArray × Bool × List Int)) : List (ByteArray × List Int) := bif storeP l then (doL l ws).getD [] else []
theorem writeS_val (k : ByteArray) (d : Bool) (v : List Int) (B : Nat) (hv : v.length ≤ B) (l : List (ByteArray × List Int)) (h : ∀ x ∈ l, x.2.length ≤ B) : ∀ x ∈ writeS l k d v, x.2.length ≤ B := by
 have := wr_val k d v B hv l d h
 unfold writeS
 cases (wr k d v d l).2
 ·intro x hx
  simp only [cond_false, List.mem_append, List.mem_cons, List.not_mem_nil, or_false] at hx
  rcases hx with hx | rfl
  ·exact this x hx
  ·exact hv
 ·exact this
theorem doL_small (B : Nat) : ∀ (ws : List (ByteArray × Bool × List Int)) (l r : List (ByteArray × List Int)), l.length ≤ 40 → (∀ x ∈ l, x.2.length ≤ B) → (∀ w ∈ ws, w.2.2.length ≤ B) → doL l ws = some r → r.length ≤ 40 ∧ ∀ x ∈ r, x.2.length ≤ B
 | [], l, r, h1, h2, _, h => by simp only [doL, Option.some.injEq] at h; subst h; exact ⟨h1, h2⟩
 | w :: ws, l, r, h1, h2, h3, h => by
  simp only [doL] at h
  cases hw : wrtP w.1 w.2.1 w.2.2
  ·rw [hw] at h; cases h
  ·rw [hw, cond_true] at h
   by_cases hl : (writeS l w.1 w.2.1 w.2.2).length ≤ 40
   ·rw [decide_eq_true hl, cond_true] at h
    exact doL_small B ws _ r hl (writeS_val _ _ _ B (h3 w List.mem_cons_self) l h2) (fun x hx => h3 x (List.mem_cons_of_mem _ hx)) h
   ·rw [decide_eq_false hl] at h; cases h
theorem s_StoDo_f (l : List (ByteArray × List Int)) (ws : List (ByteArray × Bool × List Int)) (hl : l.length ≤ 1048576) (hit : ∀ x ∈ l, x.2.length ≤ 1048576) (hw : ws.length ≤ 1048576) (hws : ∀ w ∈ ws, w.2.2.length ≤ 1048576) : g_As_StoDo l ws = true ∧ g_Vs_StoDo_0 l ws = doS l ws := by
 obtain ⟨a1, a2⟩ := s_StoOk_f l hl hit
 obtain ⟨c1, c2⟩ := l1Copy_f l hl hit
 unfold g_As_StoDo g_Vs_StoDo_0 doS
 rw [a1, a2, c1, c2]
 cases hs : storeP l
 ·simp
 ·have h1 : l.length ≤ 40 := by
   simp only [storeP, Bool.and_eq_true, decide_eq_true_eq] at hs
   exact hs.1
  have L : ∃ r, g_Ls_StoDo_0 ws [] (0, l) = some r ∧ match r with
    | .inl p => p.1 = [] ∧ doL l ws = none
    | .inr p => doL l ws = some p := by
   refine loop_inv (step := g_Ss_StoDo_0 ws []) (fun x => 0 ≤ x.1 ∧ x.1.toNat ≤ ws.length ∧ x.2.length ≤ 40 ∧ (∀ y ∈ x.2, y.2.length ≤ 1048576) ∧ doL x.2 (ws.drop x.1.toNat) = doL l ws) _ (fun x => ws.length - x.1.toNat) ?_ _ ⟨by simp, by simp, h1, hit, by simp⟩
   rintro ⟨i, y⟩ ⟨i1, i2, i3, i4, i5⟩
   simp only at i1 i2 i3 i4 i5
   by_cases hk : i < (ws.length : Int)
   ·have hn : i.toNat < ws.length := by omega
    rw [List.drop_eq_getElem_cons hn] at i5
    have hv := hws _ (List.getElem_mem hn)
    have e1 : (i + 1).toNat = i.toNat + 1 := by omega
    have hat : at_ (.pair .str (.pair .bool (.sl 3 (.int .i64)))) ws i.toNat = ws[i.toNat] := at_eq (e := .pair .str (.pair .bool (.sl 3 (.int .i64)))) hn
    generalize hw : ws[i.toNat] = w at hv i5 hat
    obtain ⟨q1, q2⟩ := s_WrtOk_f w.1 w.2.1 w.2.2 hv
    obtain ⟨p1, p2⟩ := l1Write_f y w.1 w.2.1 w.2.2 (by omega) hv
    have hl := fun h2 => writeS_val w.1 w.2.1 w.2.2 1048576 hv y h2
    have sel : (g_Ss_StoDo_0 ws [] (i, y)).sel = bif wrtP w.1 w.2.1 w.2.2 then bif decide ((writeS y w.1 w.2.1 w.2.2).length ≤ 40) then .go (i + 1, writeS y w.1 w.2.1 w.2.2) else .out (.inl ([], writeS y w.1 w.2.1 w.2.2)) else .out (.inl ([], y)) := by
     simp only [g_Ss_StoDo_0, RT.sel, hk, i1, and_self, decide_true, cond_true, hat, q1, q2, p1, p2, wrap64 (x := i + 1) (by omega)]
     cases wrtP w.1 w.2.1 w.2.2
     ·rfl
     ·by_cases hc : (writeS y w.1 w.2.1 w.2.2).length ≤ 40
      ·simp only [Bool.not_true, cond_false, cond_true, decide_eq_true hc, decide_eq_false (show ¬ ((writeS y w.1 w.2.1 w.2.2).length : Int) > 40 by omega)]
      ·simp only [Bool.not_true, cond_false, cond_true, decide_eq_false hc, decide_eq_true (show ((writeS y w.1 w.2.1 w.2.2).length : Int) > 40 by omega)]
    simp only [doL] at i5
    cases hp : wrtP w.1 w.2.1 w.2.2
    ·rw [hp, cond_false] at sel i5
     exact .inr ⟨_, sel, rfl, i5.symm⟩
    ·rw [hp, cond_true] at sel i5
     by_cases hc : (writeS y w.1 w.2.1 w.2.2).length ≤ 40
     ·rw [decide_eq_true hc, cond_true] at sel i5
      refine .inl ⟨_, sel, ⟨by simp only; omega, by simp only; omega, hc, hl i4, ?_⟩, by simp only; omega⟩
      simp only [e1]
      exact i5
     ·rw [decide_eq_false hc, cond_false] at sel i5
      exact .inr ⟨_, sel, rfl, i5.symm⟩
   ·refine .inr ⟨.inr y, ?_, ?_⟩
    ·simp only [g_Ss_StoDo_0, RT.sel, hk, decide_false, cond_true, cond_false]
    ·rw [List.drop_of_length_le (by omega)] at i5
     simp only [doL] at i5
     exact i5.symm
  obtain ⟨r, h2, h3⟩ := L
  rw [h2]
  match r, h3 with
  | .inl p, h3 => simp [okO, valO, isL, getL, h3.1, h3.2]
  | .inr p, h3 =>
   have hsm := doL_small 1048576 ws l p h1 hit hws h3
   obtain ⟨d1, d2⟩ := l1Copy_f p (by omega) hsm.2
   simp [okO, valO, isL, getR, h3, d1, d2]
abbrev Item : Type := ByteArray × List Int
abbrev Wrt : Type := ByteArray × Bool × List Int
def Lt (a b : ByteArray) : Prop := Op.bytesLess a.toList b.toList = true
def Srt (l : List Item) : Prop := l.Pairwise fun a b => Lt a.1 b.1
instance (a b : ByteArray) : Decidable (Lt a b) := by unfold Lt; infer_instance
theorem toList_inj {a b : ByteArray} (h : a.toList = b.toList) : a = b := by
 rw [ByteArray.toList_eq, ByteArray.toList_eq] at h
 cases a; cases b
 congr
 exact Array.toList_inj.1 h
theorem lt_irrefl (a : ByteArray) : ¬ Lt a a := by unfold Lt; rw [less_irrefl]; simp
theorem lt_trans {a b c : ByteArray} (h1 : Lt a b) (h2 : Lt b c) : Lt a c := less_trans _ _ _ h1 h2
theorem lt_asymm {a b : ByteArray} (h1 : Lt a b) (h2 : Lt b a) : False := lt_irrefl a (lt_trans h1 h2)
theorem lt_tri (a b : ByteArray) : Lt a b ∨ a = b ∨ Lt b a := by
 have h := leq_not a.toList b.toList
 unfold Lt
 cases h1 : Op.bytesLess a.toList b.toList
 ·rw [h1, Bool.false_or] at h
  cases h2 : Op.bytesLess b.toList a.toList
  ·rw [h2] at h
   exact .inr (.inl (toList_inj (by simpa using h)))
  ·exact .inr (.inr rfl)
 ·exact .inl rfl
theorem lt_ne {a b : ByteArray} (h : Lt a b) : a ≠ b := fun e => by subst e; exact lt_irrefl _ h
theorem beq_list (a b : ByteArray) : (a.toList == b.toList) = decide (a = b) := by
 rw [Bool.eq_iff_iff, beq_iff_eq, decide_eq_true_eq]
 exact ⟨toList_inj, fun e => by rw [e]⟩
theorem less_not {a b : ByteArray} (h : ¬ Lt a b) : Op.bytesLess a.toList b.toList = false := by
 unfold Lt at h; simpa using h
def okI' (x : Item) : Bool := keyP x.1 && valP x.2
theorem storeP_iff (l : List Item) : storeP l = true ↔ l.length ≤ 40 ∧ (∀ x ∈ l, okI' x = true) ∧ Srt l := by
 constructor
 ·intro h
  have h' := h
  simp only [storeP, Bool.and_eq_true, decide_eq_true_eq, List.all_eq_true, itemP] at h
  refine ⟨h.1, fun x hx => ?_, ?_⟩
  ·obtain ⟨i, hi, rfl⟩ := List.getElem_of_mem hx
   have := h.2 i (List.mem_range.2 hi)
   rw [at_eq (e := TI_) hi] at this
   simp [okI', this.1, this.2.1]
  ·unfold Srt
   rw [List.pairwise_iff_getElem]
   intro i j hi hj hij
   have := rises_lt h' (j - i - 1) i (by omega)
   rw [show i + (j - i - 1 + 1) = j by omega, at_eq (e := TI_) hi, at_eq (e := TI_) hj] at this
   exact this
 ·rintro ⟨h1, h2, h3⟩
  simp only [storeP, Bool.and_eq_true, decide_eq_true_eq, List.all_eq_true, itemP]
  refine ⟨h1, fun i hi => ?_⟩
  have hi := List.mem_range.1 hi
  have a := h2 _ (List.getElem_mem hi)
  rw [at_eq (e := TI_) hi]
  simp only [okI', Bool.and_eq_true] at a
  refine ⟨a.1, a.2, ?_⟩
  unfold risesP
  by_cases e : i = 0
  ·simp [e]
  ·have := (List.pairwise_iff_getElem.1 h3) (i - 1) i (by omega) hi (by omega)
   rw [at_eq (e := TI_) hi, at_eq (e := TI_) (show i - 1 < l.length by omega)]
   unfold Lt at this
   simp only [this, Bool.or_true]
theorem srt_tail {x : Item} {l : List Item} (h : Srt (x :: l)) : Srt l ∧ ∀ y ∈ l, Lt x.1 y.1 := by
 unfold Srt at h
 rw [List.pairwise_cons] at h
 exact ⟨h.2, h.1⟩
theorem wr_true (k : ByteArray) (d : Bool) (v : List Int) : ∀ r : List Item, (∀ x ∈ r, Lt k x.1) → wr k d v true r = (r, true)
 | [], _ => rfl
 | it :: r, h => by
  have h1 := h it List.mem_cons_self
  have ih := wr_true k d v r (fun x hx => h x (List.mem_cons_of_mem _ hx))
  have e : (it.1.toList == k.toList) = false := by rw [beq_list]; exact decide_eq_false fun e => lt_ne h1 e.symm
  simp only [wr, e, Bool.not_true, Bool.false_and, Bool.or_false, ih, cond_false, List.nil_append]
theorem writeS_nil (k : ByteArray) (d : Bool) (v : List Int) : writeS [] k d v = bif d then [] else [(k, v)] := by
 cases d <;> rfl
theorem writeS_lt {k : ByteArray} {it : Item} (h : Lt it.1 k) (d : Bool) (v : List Int) (r : List Item) : writeS (it :: r) k d v = it :: writeS r k d v := by
 have e : (it.1.toList == k.toList) = false := by rw [beq_list]; exact decide_eq_false (lt_ne h)
 have e2 : Op.bytesLess k.toList it.1.toList = false := less_not fun h2 => lt_asymm h h2
 simp only [writeS, wr, e, e2, Bool.and_false, Bool.or_false, cond_false, List.nil_append]
 cases (wr k d v d r).2 <;> rfl
theorem writeS_eq {k : ByteArray} {it : Item} (h : it.1 = k) (d : Bool) (v : List Int) (r : List Item) (hr : ∀ x ∈ r, Lt k x.1) : writeS (it :: r) k d v = bif d then r else (k, v) :: r := by
 have e : (it.1.toList == k.toList) = true := by rw [h]; simp
 have e2 : Op.bytesLess k.toList it.1.toList = false := by rw [h]; exact less_irrefl _
 cases d
 ·simp only [writeS, wr, e, e2, Bool.and_false, Bool.or_false, cond_false, cond_true, List.nil_append, Bool.not_false, wr_true k false v r hr]
 ·simp only [writeS, wr, e, e2, Bool.and_false, Bool.or_false, cond_false, cond_true, List.nil_append, Bool.not_true, wr_true k true v r hr]
theorem writeS_gt {k : ByteArray} {it : Item} (h : Lt k it.1) (d : Bool) (v : List Int) (r : List Item) (hr : ∀ x ∈ r, Lt k x.1) : writeS (it :: r) k d v = bif d then it :: r else (k, v) :: it :: r := by
 have e : (it.1.toList == k.toList) = false := by rw [beq_list]; exact decide_eq_false fun e => lt_ne h e.symm
 have e2 : Op.bytesLess k.toList it.1.toList = true := h
 cases d
 ·simp only [writeS, wr, e, e2, Bool.not_false, Bool.and_true, Bool.or_true, Bool.true_and, cond_false, cond_true, List.cons_append, List.nil_append, wr_true k false v r hr]
 ·simp only [writeS, wr, e, e2, Bool.not_true, Bool.false_and, Bool.or_false, cond_false, cond_true, List.nil_append, wr_true k true v r hr]
theorem writeS_mem {k : ByteArray} (d : Bool) (v : List Int) : ∀ {l : List Item}, Srt l → ∀ x ∈ writeS l k d v, x ∈ l ∨ (d = false ∧ x = (k, v))
 | [], _, x, hx => by
  rw [writeS_nil] at hx
  cases d
  ·exact .inr ⟨rfl, by simpa using hx⟩
  ·cases hx
 | it :: r, hs, x, hx => by
  obtain ⟨h1, h2⟩ := srt_tail hs
  rcases lt_tri it.1 k with h | h | h
  ·rw [writeS_lt h] at hx
   rcases List.mem_cons.1 hx with rfl | hx
   ·exact .inl List.mem_cons_self
   ·rcases writeS_mem d v h1 x hx with h | h
    ·exact .inl (List.mem_cons_of_mem _ h)
    ·exact .inr h
  ·rw [writeS_eq h d v r (fun y hy => h ▸ h2 y hy)] at hx
   cases d
   ·rcases List.mem_cons.1 hx with rfl | hx
    ·exact .inr ⟨rfl, rfl⟩
    ·exact .inl (List.mem_cons_of_mem _ hx)
   ·exact .inl (List.mem_cons_of_mem _ hx)
  ·rw [writeS_gt h d v r (fun y hy => lt_trans h (h2 y hy))] at hx
   cases d
   ·rcases List.mem_cons.1 hx with rfl | hx
    ·exact .inr ⟨rfl, rfl⟩
    ·exact .inl hx
   ·exact .inl hx
theorem writeS_srt {k : ByteArray} (d : Bool) (v : List Int) : ∀ {l : List Item}, Srt l → Srt (writeS l k d v)
 | [], _ => by rw [writeS_nil]; cases d <;> simp [Srt]
 | it :: r, hs => by
  obtain ⟨h1, h2⟩ := srt_tail hs
  rcases lt_tri it.1 k with h | h | h
  ·rw [writeS_lt h]
   refine List.pairwise_cons.2 ⟨fun x hx => ?_, writeS_srt d v h1⟩
   rcases writeS_mem d v h1 x hx with hx | ⟨_, rfl⟩
   ·exact h2 x hx
   ·exact h
  ·rw [writeS_eq h d v r (fun y hy => h ▸ h2 y hy)]
   cases d
   ·exact List.pairwise_cons.2 ⟨fun x hx => h ▸ h2 x hx, h1⟩
   ·exact h1
  ·rw [writeS_gt h d v r (fun y hy => lt_trans h (h2 y hy))]
   cases d
   ·refine List.pairwise_cons.2 ⟨fun x hx => ?_, hs⟩
    rcases List.mem_cons.1 hx with rfl | hx
    ·exact h
    ·exact lt_trans h (h2 x hx)
   ·exact hs
theorem writeS_store {l : List Item} (h : storeP l = true) {k : ByteArray} {d : Bool} {v : List Int} (hw : wrtP k d v = true) (hl : (writeS l k d v).length ≤ 40) : storeP (writeS l k d v) = true := by
 rw [storeP_iff] at h ⊢
 refine ⟨hl, fun x hx => ?_, writeS_srt d v h.2.2⟩
 rcases writeS_mem d v h.2.2 x hx with hx | ⟨rfl, rfl⟩
 ·exact h.2.1 x hx
 ·simpa [wrtP, okI'] using hw
theorem doL_store : ∀ (ws : List Wrt) (l r : List Item), storeP l = true → doL l ws = some r → storeP r = true
 | [], l, r, h, e => by simp only [doL, Option.some.injEq] at e; subst e; exact h
 | w :: ws, l, r, h, e => by
  simp only [doL] at e
  cases hw : wrtP w.1 w.2.1 w.2.2
  ·rw [hw] at e; cases e
  ·rw [hw, cond_true] at e
   by_cases hl : (writeS l w.1 w.2.1 w.2.2).length ≤ 40
   ·rw [decide_eq_true hl, cond_true] at e
    exact doL_store ws _ r (writeS_store h hw hl) e
   ·rw [decide_eq_false hl] at e; cases e
theorem storeP_nil : storeP [] = true := by decide
theorem doS_store (l : List Item) (ws : List Wrt) : storeP (doS l ws) = true := by
 unfold doS
 cases h : storeP l
 ·exact storeP_nil
 ·rw [cond_true]
  cases e : doL l ws with
  | none => exact storeP_nil
  | some r => exact doL_store ws l r h e
theorem getP_cons (it : Item) (l : List Item) (key : ByteArray) : getP (it :: l) key = bif decide (it.1 = key) then some it.2 else getP l key := by
 unfold getP
 rw [List.find?_cons, beq_list]
 cases decide (it.1 = key) <;> rfl
theorem getP_gt {key : ByteArray} : ∀ {l : List Item}, (∀ x ∈ l, Lt key x.1) → getP l key = none
 | [], _ => rfl
 | it :: l, h => by
  rw [getP_cons, decide_eq_false fun e => lt_ne (h it List.mem_cons_self) e.symm, cond_false]
  exact getP_gt fun x hx => h x (List.mem_cons_of_mem _ hx)
theorem posP_cons (it : Item) (l : List Item) (key : ByteArray) : posP (it :: l) key = if Lt it.1 key then posP l key + 1 else 0 := by
 unfold posP
 by_cases h : Lt it.1 key
 ·rw [if_pos h, List.takeWhile_cons_of_pos (p := fun x : Item => Op.bytesLess x.1.toList key.toList) h]; rfl
 ·rw [if_neg h, List.takeWhile_cons_of_neg (p := fun x : Item => Op.bytesLess x.1.toList key.toList) (by simp only [less_not h]; simp)]; rfl
def putP (l : List Item) (k : ByteArray) (d : Bool) (v : List Int) : List Item :=
 if (getP l k).isSome then (bif d then l.eraseIdx (posP l k) else l.set (posP l k) (k, v)) else bif d then l else l.take (posP l k) ++ (k, v) :: l.drop (posP l k)
theorem write_put (k : ByteArray) (d : Bool) (v : List Int) : ∀ {l : List Item}, Srt l → writeS l k d v = putP l k d v
 | [], _ => by rw [writeS_nil]; cases d <;> rfl
 | it :: r, hs => by
  obtain ⟨h1, h2⟩ := srt_tail hs
  rcases lt_tri it.1 k with h | h | h
  ·rw [writeS_lt h, write_put k d v h1]
   unfold putP
   rw [getP_cons, decide_eq_false (lt_ne h), cond_false, posP_cons, if_pos h]
   split
   ·cases d <;> rfl
   ·cases d
    ·simp
    ·rfl
  ·rw [writeS_eq h d v r (fun y hy => h ▸ h2 y hy)]
   unfold putP
   rw [getP_cons, decide_eq_true h, cond_true, if_pos (show (some it.2).isSome = true from rfl), posP_cons, if_neg (by rw [h]; exact lt_irrefl k)]
   cases d <;> simp
  ·rw [writeS_gt h d v r (fun y hy => lt_trans h (h2 y hy))]
   unfold putP
   rw [getP_gt, posP_cons, if_neg (fun h2 => lt_asymm h h2)]
   ·cases d <;> simp
   ·intro x hx
    rcases List.mem_cons.1 hx with rfl | hx
    ·exact h
    ·exact lt_trans h (h2 x hx)
theorem doL_bad : ∀ {ws : List Wrt} {l : List Item}, (∃ w ∈ ws, wrtP w.1 w.2.1 w.2.2 = false) → doL l ws = none
 | [], _, h => by obtain ⟨_, h, _⟩ := h; cases h
 | w :: ws, l, h => by
  simp only [doL]
  cases hw : wrtP w.1 w.2.1 w.2.2
  ·rfl
  ·have : ∃ w ∈ ws, wrtP w.1 w.2.1 w.2.2 = false := by
    obtain ⟨x, hx, e⟩ := h
    rcases List.mem_cons.1 hx with rfl | hx
    ·rw [hw] at e; cases e
    ·exact ⟨x, hx, e⟩
   rw [doL_bad this]
   cases decide ((writeS l w.1 w.2.1 w.2.2).length ≤ 40) <;> rfl
theorem doS_of {l : List Item} {ws : List Wrt} (h : storeP l = true) : doS l ws = (doL l ws).getD [] := by unfold doS; rw [h]; rfl
theorem doS_bad {l : List Item} {ws : List Wrt} (h : ∃ w ∈ ws, wrtP w.1 w.2.1 w.2.2 = false) : doS l ws = [] := by
 unfold doS
 rw [doL_bad h]
 cases storeP l <;> rfl
theorem cmp_lt (a b : ByteArray) : decide (g_compare a b < 0) = Op.bytesLess a.toList b.toList := by
 rw [ByteArray.toList_eq, ByteArray.toList_eq]
 exact compare_lt _ _
theorem cmp_eq (a b : ByteArray) : (g_compare a b == 0) = (a.toList == b.toList) := by
 rw [ByteArray.toList_eq, ByteArray.toList_eq]
 exact compare_eq _ _
theorem half_f (i j : Int) (h : 0 ≤ i ∧ 0 ≤ j ∧ i ≤ 100000 ∧ j ≤ 100000) : IntKind.wrap .i64 (Int.fdiv (IntKind.wrap .u64 (IntKind.wrap .i64 (i + j))) 2) = (i + j) / 2 := by
 have u : IntKind.wrap .u64 (i + j) = i + j := by
  simp only [IntKind.wrap, IntKind.bits, IntKind.signed]
  simp
  omega
 rw [wrap64 (x := i + j) (by omega), u, Int.fdiv_eq_ediv_of_nonneg _ (by decide), wrap64 (by omega)]
theorem search_f (l : List (ByteArray × List Int)) (key : ByteArray) (n : Int) (h : storeP l = true) : g_Lslices_BinarySearchFunc_i_StoItem_i_StoItem_string__i_StoStore_find_1_0 l key n (0, (l.length : Int)) = some (posP l key : Int) := by
 have hl : l.length ≤ 40 := by
  simp only [storeP, Bool.and_eq_true, decide_eq_true_eq] at h
  exact h.1
 have hp := pos_le l key
 obtain ⟨r, h1, h2⟩ := loop_inv (step := g_Sslices_BinarySearchFunc_i_StoItem_i_StoItem_string__i_StoStore_find_1_0 l key n) (fun x => 0 ≤ x.1 ∧ x.1 ≤ posP l key ∧ (posP l key : Int) ≤ x.2 ∧ x.2 ≤ l.length) (fun r => r = (posP l key : Int)) (fun x => (x.2 - x.1).toNat) (fun x hx => by
  obtain ⟨i, j⟩ := x
  obtain ⟨i1, i2, i3, i4⟩ := hx
  simp only at i1 i2 i3 i4
  by_cases hij : i < j
  ·have hh : 0 ≤ (i + j) / 2 ∧ (i + j) / 2 < l.length := by omega
   have hm : ((i + j) / 2).toNat < l.length := by omega
   have hlt := pos_lt h key ((i + j) / 2).toNat hm
   have sel : (g_Sslices_BinarySearchFunc_i_StoItem_i_StoItem_string__i_StoStore_find_1_0 l key n (i, j)).sel = bif decide (((i + j) / 2).toNat < posP l key) then .go ((i + j) / 2 + 1, j) else .go (i, (i + j) / 2) := by
    simp only [g_Sslices_BinarySearchFunc_i_StoItem_i_StoItem_string__i_StoStore_find_1_0, RT.sel, cond_true, half_f i j (by omega), hij, hh, decide_true, and_self, cmp_lt]
    rw [hlt, wrap64 (x := (i + j) / 2 + 1) (by omega)]
   by_cases hc : ((i + j) / 2).toNat < posP l key
   ·rw [decide_eq_true hc, cond_true] at sel
    refine .inl ⟨_, sel, ⟨by simp only; omega, by simp only; omega, i3, i4⟩, by simp only; omega⟩
   ·rw [decide_eq_false hc, cond_false] at sel
    refine .inl ⟨_, sel, ⟨i1, i2, by simp only; omega, by simp only; omega⟩, by simp only; omega⟩
  ·refine .inr ⟨i, ?_, by omega⟩
   simp only [g_Sslices_BinarySearchFunc_i_StoItem_i_StoItem_string__i_StoStore_find_1_0, RT.sel, cond_true, hij, decide_false, cond_false]) (0, (l.length : Int)) ⟨by simp, by simp, by simp only; omega, by simp⟩
 rw [← h2]
 exact h1
def thereP (l : List (ByteArray × List Int)) (key : ByteArray) : Bool := decide (posP l key < l.length) && (at_ TI_ l (posP l key)).1.toList == key.toList
theorem find_f (l : List (ByteArray × List Int)) (key : ByteArray) (h : storeP l = true) : g_Ai_StoStore_find l key = true ∧ g_Vslices_BinarySearchFunc_i_StoItem_i_StoItem_string__i_StoStore_find_1_0 l key = (posP l key : Int) ∧ g_Vslices_BinarySearchFunc_i_StoItem_i_StoItem_string__i_StoStore_find_1_1 l key = thereP l key := by
 have hs := search_f l key (l.length : Int) h
 refine ⟨?_, ?_, ?_⟩
 ·simp only [g_Ai_StoStore_find, g_Aslices_BinarySearchFunc_i_StoItem_i_StoItem_string__i_StoStore_find_1, hs, okO, valO, Option.isSome_some, Option.getD_some, Bool.true_and, Bool.and_true]
  by_cases hp : (posP l key : Int) < (l.length : Int)
  ·have h0 : (0 : Int) ≤ (posP l key : Int) := by omega
   simp [hp, h0]
  ·simp [hp]
 ·simp only [g_Vslices_BinarySearchFunc_i_StoItem_i_StoItem_string__i_StoStore_find_1_0, hs, valO, Option.getD_some, Bool.cond_self]
 ·simp only [g_Vslices_BinarySearchFunc_i_StoItem_i_StoItem_string__i_StoStore_find_1_1, hs, valO, Option.getD_some, cmp_eq, thereP, Int.toNat_natCast, cond_f']
  rw [show decide ((posP l key : Int) < (l.length : Int)) = decide (posP l key < l.length) from decide_eq_decide.2 (by omega)]
theorem get_there {l : List (ByteArray × List Int)} (h : storeP l = true) (key : ByteArray) : getP l key = bif thereP l key then some (at_ TI_ l (posP l key)).2 else none := by
 rw [get_pos h key]
 unfold thereP
 by_cases h1 : posP l key < l.length
 ·by_cases h2 : (at_ TI_ l (posP l key)).1.toList = key.toList
  ·rw [if_pos ⟨h1, h2⟩, decide_eq_true h1, Bool.true_and, h2, BEq.rfl, cond_true]
  ·rw [if_neg (fun h => h2 h.2), decide_eq_true h1, Bool.true_and, beq_eq_false_iff_ne.2 h2, cond_false]
 ·rw [if_neg (fun h => h1 h.1), decide_eq_false h1, Bool.false_and, cond_false]
theorem capF_f (a b k : Nat) (h : a + b ≤ 2200000) (hk : k ≤ 1000) : decide ((a + b) * k ≤ nat_lit 140737488355328 ∧ a + b ≤ nat_lit 9223372036854775807) = true := by
 have : (a + b) * k ≤ 2200000 * 1000 := Nat.mul_le_mul h hk
 exact decide_eq_true ⟨Nat.le_trans this (by decide), Nat.le_trans h (by decide)⟩
theorem cap0_f (b k : Nat) (h : b ≤ 1048576) (hk : k ≤ 1000) : decide ((nat_lit 0 + b) * k ≤ nat_lit 140737488355328 ∧ nat_lit 0 + b ≤ nat_lit 9223372036854775807) = true := capF_f 0 b k (by omega) hk
theorem loop_app {e : Ty} {σ ρ β : Type} {step : σ → RT σ ρ} (l : List e.den) (mk : Int → List β → σ) (g : e.den → β) (out : List β → ρ)
  (h1 : ∀ (i : Nat) (r : List β), i < l.length → r.length = i → (step (mk (i : Int) r)).sel = .go (mk ((i + 1 : Nat) : Int) (r ++ [g (at_ e l i)])))
  (h2 : ∀ r : List β, r.length = l.length → (step (mk (l.length : Int) r)).sel = .out (out r)) : loopO step (mk 0 []) = some (out (l.map g)) := by
 have key : ∀ (k i : Nat) (r : List β), i + k = l.length → r = (l.take i).map g → loopO step (mk (i : Int) r) = some (out (l.map g)) := by
  intro k
  induction k with
  | zero =>
   intro i r hi hr
   have hi : i = l.length := by omega
   subst hi
   rw [List.take_length] at hr
   rw [loopO_eq, h2 r (by rw [hr, List.length_map]), hr]
  | succ k ih =>
   intro i r hi hr
   have hil : i < l.length := by omega
   rw [loopO_eq, h1 i r hil (by rw [hr, List.length_map, List.length_take]; omega)]
   simp only
   refine ih (i + 1) _ (by omega) ?_
   rw [hr, at_eq hil, List.take_succ_eq_append_getElem hil, List.map_append]
   rfl
 exact key l.length 0 [] (by omega) (by simp)
theorem i_scopied_f (l : List Item) (hl : l.length ≤ 1048576) (hit : ∀ x ∈ l, x.2.length ≤ 1048576) : g_Ai_StoStore_copied l = true ∧ g_Vi_StoStore_copied_0 l = l := by
 have L : g_Li_StoStore_copied_0 l (l.length : Int) [] (0, []) = some (l.map id) := by
  refine loop_app (e := TI_) (step := g_Si_StoStore_copied_0 l (l.length : Int) []) l (fun i r => (i, r)) id id (fun i r hi hr => ?_) (fun r hr => by simp only [g_Si_StoStore_copied_0, RT.sel, cond_true, Int.lt_irrefl, decide_false, cond_false, id])
  have k1 : (i : Int) < l.length := by omega
  have k2 : (0 : Int) ≤ (i : Int) := by omega
  have hx := hit _ (at_mem (e := TI_) hi)
  simp only [g_Si_StoStore_copied_0, RT.sel, cond_true, k1, k2, decide_true, and_self, Int.toNat_natCast, g_Aslices_Clone_int_int_b, id]
  rw [cap0_f _ _ hx (by decide), capF_f _ _ _ (by simp only [List.length_cons, List.length_nil]; omega) (by decide), cond_true, cond_true, wrap64 (x := (i : Int) + 1) (by omega)]
  rfl
 rw [List.map_id] at L
 simp only [g_Ai_StoStore_copied, g_Vi_StoStore_copied_0, L, okO, valO, Option.isSome_some, Option.getD_some, and_self]
theorem i_write_f (l : List Item) (h : storeP l = true) (k : ByteArray) (d : Bool) (v : List Int) (hv : v.length ≤ 1048576) : g_Ai_StoStore_write l k d v = true ∧ g_Vi_StoStore_write_0 l k d v = writeS l k d v := by
 have hl := ((storeP_iff l).1 h).1
 have hs := ((storeP_iff l).1 h).2.2
 obtain ⟨f1, f2, f3⟩ := find_f l k h
 have hp := pos_le l k
 have gt := get_there h k
 have w1 : IntKind.wrap .i64 ((posP l k : Int) + 1) = ((posP l k + 1 : Nat) : Int) := by rw [wrap64 (by omega)]; omega
 have e0 : decide ((0 : Int) ≤ (posP l k : Int) ∧ (posP l k : Int) ≤ (l.length : Int)) = true := decide_eq_true (by omega)
 have cl : g_Aslices_Clone_int_int_b v = true := by
  rw [g_Aslices_Clone_int_int_b]
  exact cap0_f _ _ hv (by decide)
 have ins : g_Aslices_Insert_i_StoItem_i_StoItem l (posP l k : Int) [(k, v)] = true := by
  unfold g_Aslices_Insert_i_StoItem_i_StoItem
  refine decide_eq_true ⟨by omega, by simp, by simp only [List.length_cons, List.length_nil]; omega⟩
 have lt : thereP l k = true → posP l k < l.length := fun e => by
  unfold thereP at e
  simp only [Bool.and_eq_true, decide_eq_true_eq] at e
  exact e.1
 unfold g_Ai_StoStore_write g_Vi_StoStore_write_0
 rw [f1, f2, f3, w1, cl, ins, write_put k d v hs]
 unfold putP
 rw [gt]
 cases ht : thereP l k
 ·refine ⟨by cases d <;> rfl, ?_⟩
  cases d
  ·simp only [cond_false, Option.isSome_none, if_false, Bool.false_eq_true]
   unfold g_Vslices_Insert_i_StoItem_i_StoItem_0
   rw [Int.toNat_natCast]
   rfl
  ·rfl
 ·have hlt := lt ht
  have del : g_Aslices_Delete_i_StoItem_i_StoItem l (posP l k : Int) ((posP l k + 1 : Nat) : Int) = true := by
   unfold g_Aslices_Delete_i_StoItem_i_StoItem
   exact decide_eq_true (by omega)
  have d1 : decide ((0 : Int) ≤ (posP l k : Int) ∧ (posP l k : Int) < (l.length : Int)) = true := decide_eq_true (by omega)
  have d2 : decide (Int.toNat (posP l k : Int) < l.length) = true := decide_eq_true (by rw [Int.toNat_natCast]; exact hlt)
  rw [del, d1, d2]
  refine ⟨by cases d <;> rfl, ?_⟩
  cases d
  ·simp only [cond_false, cond_true, Option.isSome_some, if_true]
   have hk : (at_ TI_ l (posP l k)).1 = k := by
    unfold thereP at ht
    simp only [Bool.and_eq_true, beq_iff_eq] at ht
    exact toList_inj ht.2
   show l.set (Int.toNat (posP l k : Int)) ((at_ TI_ l (Int.toNat (posP l k : Int))).1, v) = _
   rw [Int.toNat_natCast, hk]
  ·simp only [cond_true, Option.isSome_some, if_true]
   unfold g_Vslices_Delete_i_StoItem_i_StoItem_0
   rw [Int.toNat_natCast, Int.toNat_natCast, List.eraseIdx_eq_take_drop_succ]
theorem i_anyBad_f (ws : List Wrt) (hw : ws.length ≤ 1048576) (hws : ∀ w ∈ ws, w.2.2.length ≤ 1048576) : g_Aslices_ContainsFunc_i_StoWrite_i_StoWrite__i_StoDo_1 ws = true ∧ g_Vslices_ContainsFunc_i_StoWrite_i_StoWrite__i_StoDo_1_0 ws = ws.any fun w => !wrtP w.1 w.2.1 w.2.2 := by
 obtain ⟨r, h1, h2⟩ := loop_idx (e := .pair .str (.pair .bool (.sl 3 (.int .i64)))) ws (step := g_Sslices_IndexFunc_i_StoWrite_i_StoWrite__i_StoDo_1_0 ws (ws.length : Int)) (fun w => !wrtP w.1 w.2.1 w.2.2) (fun i hi => by
  have k1 : (i : Int) < ws.length := by omega
  have k2 : (0 : Int) ≤ (i : Int) := by omega
  have hx := hws _ (at_mem (e := .pair .str (.pair .bool (.sl 3 (.int .i64)))) hi)
  obtain ⟨q1, q2⟩ := i_WrtOk_f (at_ (.pair .str (.pair .bool (.sl 3 (.int .i64)))) ws i).1 (at_ (.pair .str (.pair .bool (.sl 3 (.int .i64)))) ws i).2.1 (at_ (.pair .str (.pair .bool (.sl 3 (.int .i64)))) ws i).2.2 hx
  simp only [g_Sslices_IndexFunc_i_StoWrite_i_StoWrite__i_StoDo_1_0, RT.sel, cond_true, k1, k2, decide_true, and_self, Int.toNat_natCast, g_Ai_StoDo_1, q1, q2]
  rw [wrap64 (x := (i : Int) + 1) (by omega)]
  rfl) (by simp only [g_Sslices_IndexFunc_i_StoWrite_i_StoWrite__i_StoDo_1_0, RT.sel, cond_true, Int.lt_irrefl, decide_false, cond_false])
 have h1 : g_Lslices_IndexFunc_i_StoWrite_i_StoWrite__i_StoDo_1_0 ws (ws.length : Int) 0 = some r := h1
 unfold g_Aslices_ContainsFunc_i_StoWrite_i_StoWrite__i_StoDo_1 g_Vslices_ContainsFunc_i_StoWrite_i_StoWrite__i_StoDo_1_0 g_Aslices_IndexFunc_i_StoWrite_i_StoWrite__i_StoDo_1 g_Vslices_IndexFunc_i_StoWrite_i_StoWrite__i_StoDo_1_0
 rw [h1]
 exact ⟨rfl, h2⟩
theorem i_StoDo_f (l : List Item) (ws : List Wrt) (hl : l.length ≤ 1048576) (hit : ∀ x ∈ l, x.2.length ≤ 1048576) (hw : ws.length ≤ 1048576) (hws : ∀ w ∈ ws, w.2.2.length ≤ 1048576) : g_Ai_StoDo l ws = true ∧ g_Vi_StoDo_0 l ws = doS l ws := by
 obtain ⟨a1, a2⟩ := i_StoOk_f l hl hit
 obtain ⟨b1, b2⟩ := i_anyBad_f ws hw hws
 obtain ⟨c1, c2⟩ := i_scopied_f l hl hit
 unfold g_Ai_StoDo g_Vi_StoDo_0
 rw [a1, a2, b1, b2, c1, c2]
 cases hs : storeP l
 ·unfold doS; rw [hs]; exact ⟨rfl, rfl⟩
 ·cases hb : ws.any fun w => !wrtP w.1 w.2.1 w.2.2
  ·have hok : ∀ w ∈ ws, wrtP w.1 w.2.1 w.2.2 = true := by
    intro w hw
    have := (List.any_eq_false.1 hb) w hw
    simpa using this
   rw [doS_of hs]
   have L : ∃ r, g_Li_StoDo_0 ws (ws.length : Int) [] (0, l) = some r ∧ match r with
     | .inl p => p.1 = [] ∧ doL l ws = none
     | .inr p => doL l ws = some p := by
    refine loop_inv (step := g_Si_StoDo_0 ws (ws.length : Int) []) (fun x => 0 ≤ x.1 ∧ x.1.toNat ≤ ws.length ∧ storeP x.2 = true ∧ doL x.2 (ws.drop x.1.toNat) = doL l ws) _ (fun x => ws.length - x.1.toNat) ?_ _ ⟨by simp, by simp, hs, by simp⟩
    rintro ⟨i, y⟩ ⟨i1, i2, i3, i4⟩
    simp only at i1 i2 i3 i4
    by_cases hk : i < (ws.length : Int)
    ·have hn : i.toNat < ws.length := by omega
     rw [List.drop_eq_getElem_cons hn] at i4
     have hv := hws _ (List.getElem_mem hn)
     have ho := hok _ (List.getElem_mem hn)
     have e1 : (i + 1).toNat = i.toNat + 1 := by omega
     have hat : at_ (.pair .str (.pair .bool (.sl 3 (.int .i64)))) ws i.toNat = ws[i.toNat] := at_eq (e := .pair .str (.pair .bool (.sl 3 (.int .i64)))) hn
     generalize hw : ws[i.toNat] = w at hv i4 hat ho
     obtain ⟨p1, p2⟩ := i_write_f y i3 w.1 w.2.1 w.2.2 hv
     have sel : (g_Si_StoDo_0 ws (ws.length : Int) [] (i, y)).sel = bif decide ((writeS y w.1 w.2.1 w.2.2).length ≤ 40) then .go (i + 1, writeS y w.1 w.2.1 w.2.2) else .out (.inl ([], writeS y w.1 w.2.1 w.2.2)) := by
      simp only [g_Si_StoDo_0, RT.sel, hk, i1, and_self, decide_true, cond_true, hat, p1, p2, wrap64 (x := i + 1) (by omega)]
      by_cases hc : (writeS y w.1 w.2.1 w.2.2).length ≤ 40
      ·simp only [cond_false, cond_true, decide_eq_true hc, decide_eq_false (show ¬ ((writeS y w.1 w.2.1 w.2.2).length : Int) > 40 by omega)]
      ·simp only [cond_false, cond_true, decide_eq_false hc, decide_eq_true (show ((writeS y w.1 w.2.1 w.2.2).length : Int) > 40 by omega)]
     simp only [doL, ho, cond_true] at i4
     by_cases hc : (writeS y w.1 w.2.1 w.2.2).length ≤ 40
     ·rw [decide_eq_true hc, cond_true] at sel i4
      refine .inl ⟨_, sel, ⟨by simp only; omega, by simp only; omega, writeS_store i3 ho hc, ?_⟩, by simp only; omega⟩
      simp only [e1]
      exact i4
     ·rw [decide_eq_false hc, cond_false] at sel i4
      exact .inr ⟨_, sel, rfl, i4.symm⟩
    ·refine .inr ⟨.inr y, ?_, ?_⟩
     ·simp only [g_Si_StoDo_0, RT.sel, hk, decide_false, cond_true, cond_false]
     ·rw [List.drop_of_length_le (by omega)] at i4
      simp only [doL] at i4
      exact i4.symm
   obtain ⟨r, h2, h3⟩ := L
   rw [h2]
   match r, h3 with
   | .inl p, h3 => simp [okO, valO, isL, getL, h3.1, h3.2]
   | .inr p, h3 => simp [okO, valO, isL, getR, h3]
  ·obtain ⟨w, hw, e⟩ := List.any_eq_true.1 hb
   rw [doS_bad ⟨w, hw, by simpa using e⟩]
   exact ⟨rfl, rfl⟩
def isR (tx : Int) (n : Note) : Bool := decide (n.2.1 = tx) && decide (n.1 = 1)
theorem ready_snoc (l : List Note) (n : Note) (tx : Int) : g_ready (l ++ [n]) tx = bif isR tx n then some n else g_ready l tx := by
 have e : g_ready (l ++ [n]) tx = match isR tx n with | true => some n | false => g_ready l tx := by
  unfold g_ready
  rw [List.reverse_append, List.reverse_singleton, List.singleton_append, List.find?_cons]
  rfl
 rw [e]
 cases isR tx n <;> rfl
theorem ready_mem {l : List Note} {tx : Int} {m : Note} (h : g_ready l tx = some m) : m ∈ l := by
 unfold g_ready at h
 exact List.mem_reverse.1 (List.mem_of_find?_eq_some h)
def stepF (pre : List Note) (n : Note) (s : List Item) : List Item := bif decide (n.1 = 2) then (match g_ready pre n.2.1 with | some m => doS s m.2.2.2 | none => s) else s
def foldA : List Note → List Note → List Item → List Item
 | _, [], s => s
 | pre, n :: r, s => foldA (pre ++ [n]) r (stepF pre n s)
def foldP (l : List Note) : List Item := foldA [] l []
theorem stepF_store {pre : List Note} {n : Note} {s : List Item} (h : storeP s = true) : storeP (stepF pre n s) = true := by
 unfold stepF
 cases decide (n.1 = 2)
 ·exact h
 ·rw [cond_true]
  cases g_ready pre n.2.1
  ·exact h
  ·exact doS_store _ _
theorem foldA_store : ∀ (l pre : List Note) (s : List Item), storeP s = true → storeP (foldA pre l s) = true
 | [], _, _, h => h
 | _ :: l, _, _, h => foldA_store l _ _ (stepF_store h)
theorem foldP_store (l : List Note) : storeP (foldP l) = true := foldA_store l [] [] storeP_nil
theorem store_mid {s : List Item} (h : storeP s = true) : s.length ≤ 40 ∧ ∀ x ∈ s, x.2.length ≤ 1048576 := by
 have hv := (storeP_iff s).1 h
 refine ⟨hv.1, fun x hx => ?_⟩
 have := hv.2.1 x hx
 simp only [okI', Bool.and_eq_true, valP, decide_eq_true_eq] at this
 exact Nat.le_trans this.2.1.2 (by decide)
theorem s_l2Ready_f (l : List Note) (tx : Int) (hl : l.length ≤ 1048576) : g_As_l2Ready l tx = true ∧ g_Vs_l2Ready_3 l tx = ((g_ready l tx).map (·.2.2.2)).getD [] ∧ g_Vs_l2Ready_4 l tx = (g_ready l tx).isSome := by
 have L : ∃ r, g_Ls_l2Ready_0 l tx 0 0 [] [] ((l.length : Int) - 1) = some r ∧ (match r with
   | .inl p => p.1 = true ∧ ∃ m, g_ready l tx = some m ∧ p.2.2.2.2 = m.2.2.2
   | .inr _ => g_ready l tx = none) := by
  refine loop_inv (step := g_Ss_l2Ready_0 l tx 0 0 [] []) (fun x => -1 ≤ x ∧ x < l.length ∧ g_ready (l.take (x + 1).toNat) tx = g_ready l tx) _ (fun x => (x + 1).toNat) ?_ _ ⟨by omega, by omega, by rw [List.take_of_length_le (by omega)]⟩
  rintro x ⟨i1, i2, i3⟩
  by_cases hx : x ≥ 0
  ·have hn : x.toNat < l.length := by omega
   have hat : at_ NI_ l x.toNat = l[x.toNat] := at_eq (e := NI_) hn
   have v0 : decide ((0 : Int) ≤ x ∧ x < (l.length : Int)) = true := decide_eq_true ⟨hx, i2⟩
   have hw : IntKind.wrap .i64 (x - 1) = x - 1 := wrap64 (by omega)
   rw [show (x + 1).toNat = x.toNat + 1 by omega, List.take_succ_eq_append_getElem hn, ready_snoc] at i3
   by_cases h1 : l[x.toNat].1 = 1
   ·have h1' : (l[x.toNat].1 == 1) = true := by simpa using h1
    by_cases h2 : l[x.toNat].2.1 = tx
    ·have h2' : (l[x.toNat].2.1 == tx) = true := by simpa using h2
     have : isR tx l[x.toNat] = true := by unfold isR; rw [decide_eq_true h1, decide_eq_true h2]; rfl
     rw [this, cond_true] at i3
     refine .inr ⟨.inl (true, l[x.toNat].1, l[x.toNat].2.1, l[x.toNat].2.2.1, l[x.toNat].2.2.2), ?_, rfl, _, i3.symm, rfl⟩
     simp only [g_Ss_l2Ready_0, RT.sel, decide_eq_true hx, cond_true, v0, hat, h1', h2']
    ·have h2' : (l[x.toNat].2.1 == tx) = false := by simpa using h2
     have : isR tx l[x.toNat] = false := by unfold isR; rw [decide_eq_false h2]; rfl
     rw [this, cond_false] at i3
     refine .inl ⟨x - 1, ?_, ⟨by omega, by omega, by rwa [show (x - 1 + 1).toNat = x.toNat by omega]⟩, by omega⟩
     simp only [g_Ss_l2Ready_0, RT.sel, decide_eq_true hx, cond_true, cond_false, v0, hat, h1', h2', hw]
   ·have h1' : (l[x.toNat].1 == 1) = false := by simpa using h1
    have : isR tx l[x.toNat] = false := by unfold isR; rw [decide_eq_false h1, Bool.and_false]
    rw [this, cond_false] at i3
    refine .inl ⟨x - 1, ?_, ⟨by omega, by omega, by rwa [show (x - 1 + 1).toNat = x.toNat by omega]⟩, by omega⟩
    simp only [g_Ss_l2Ready_0, RT.sel, decide_eq_true hx, cond_true, cond_false, v0, hat, h1', hw]
  ·refine .inr ⟨.inr (), ?_, ?_⟩
   ·simp only [g_Ss_l2Ready_0, RT.sel, decide_eq_false hx, cond_true, cond_false]
   ·rw [show (x + 1).toNat = 0 by omega, List.take_zero] at i3
    exact i3.symm
 obtain ⟨r, r1, r2⟩ := L
 unfold g_As_l2Ready g_Vs_l2Ready_3 g_Vs_l2Ready_4
 rw [wrap64 (x := (l.length : Int) - 1) (by omega), r1]
 match r, r2 with
 | .inl p, ⟨e1, m, e2, e3⟩ =>
  rw [e2]
  simp only [okO, valO, isL, getL, Option.isSome_some, Option.getD_some, cond_true, Option.map_some, e1, e3, and_self]
 | .inr _, e2 =>
  have e2 : g_ready l tx = none := e2
  rw [e2]
  exact ⟨rfl, rfl, rfl⟩
theorem ready_small {l : List Note} (hit : ∀ x ∈ l, smallN x) {k : Nat} {tx : Int} {m : Note} (h : g_ready (l.take k) tx = some m) : m.2.2.2.length ≤ 1048576 ∧ ∀ w ∈ m.2.2.2, w.2.2.length ≤ 1048576 := by
 have := hit m (List.mem_of_mem_take (ready_mem h))
 exact this.2
theorem fold_next (l : List Note) {x : Nat} (hn : x < l.length) (s : List Item) : foldA (l.take x) (l.drop x) s = foldA (l.take (x + 1)) (l.drop (x + 1)) (stepF (l.take x) l[x] s) := by
 rw [List.drop_eq_getElem_cons hn, foldA, List.take_succ_eq_append_getElem hn]
theorem foldL_i (l : List Note) (safe : Int) (hl : l.length ≤ 1048576) (hit : ∀ x ∈ l, smallN x) : g_Li_DiskFold_0 l (l.length : Int) l safe [] (0, []) = some (foldP l) := by
 have L : ∃ r, g_Li_DiskFold_0 l (l.length : Int) l safe [] (0, []) = some r ∧ r = foldP l := by
  refine loop_inv (step := g_Si_DiskFold_0 l (l.length : Int) l safe []) (fun x => 0 ≤ x.1 ∧ x.1 ≤ l.length ∧ storeP x.2 = true ∧ foldA (l.take x.1.toNat) (l.drop x.1.toNat) x.2 = foldP l) _ (fun x => (l.length - x.1).toNat) ?_ _ ⟨by simp, by simp, storeP_nil, by simp [foldP]⟩
  rintro ⟨x, s⟩ ⟨i1, i2, i3, i4⟩
  simp only at i1 i2 i3 i4
  by_cases hx : x < (l.length : Int)
  ·have hn : x.toNat < l.length := by omega
   have hat : at_ NI_ l x.toNat = l[x.toNat] := at_eq (e := NI_) hn
   have v0 : decide ((0 : Int) ≤ x ∧ x < (l.length : Int)) = true := decide_eq_true ⟨i1, hx⟩
   have v1 : decide ((0 : Int) ≤ x ∧ x ≤ (l.length : Int)) = true := decide_eq_true ⟨i1, i2⟩
   have hw : IntKind.wrap .i64 (x + 1) = x + 1 := wrap64 (by omega)
   have e0 : ∀ z : List Note, List.drop (nat_lit 0) z = z := fun z => rfl
   have ra : g_Ai_ready (l.take x.toNat) = true := by
    unfold g_Ai_ready
    exact decide_eq_true (by have := List.length_take_le' x.toNat l; omega)
   rw [fold_next l hn] at i4
   refine .inl ⟨(x + 1, stepF (l.take x.toNat) l[x.toNat] s), ?_, ⟨by simp only; omega, by simp only; omega, stepF_store i3, by simp only [show (x + 1).toNat = x.toNat + 1 by omega]; exact i4⟩, by simp only; omega⟩
   by_cases h2 : l[x.toNat].1 = 2
   ·have h2' : (l[x.toNat].1 != 2) = false := by simpa using h2
    unfold stepF
    rw [decide_eq_true h2, cond_true]
    cases hr : g_ready (l.take x.toNat) l[x.toNat].2.1 with
    | none => simp only [g_Si_DiskFold_0, RT.sel, decide_eq_true hx, cond_true, cond_false, v0, v1, hat, h2', hw, e0, ra, g_Vi_ready_1, hr, Option.isSome_none]
    | some m =>
     obtain ⟨b1, b2⟩ := store_mid i3
     obtain ⟨c1, c2⟩ := ready_small hit hr
     obtain ⟨d1, d2⟩ := i_StoDo_f s m.2.2.2 (by omega) b2 c1 c2
     simp only [g_Si_DiskFold_0, RT.sel, decide_eq_true hx, cond_true, cond_false, v0, v1, hat, h2', hw, e0, ra, g_Vi_ready_1, g_Vi_ready_0, hr, Option.isSome_some, Option.map_some, Option.getD_some, d1, d2]
   ·have h2' : (l[x.toNat].1 != 2) = true := by simpa using h2
    unfold stepF
    rw [decide_eq_false h2, cond_false]
    simp only [g_Si_DiskFold_0, RT.sel, decide_eq_true hx, cond_true, v0, hat, h2', hw]
  ·refine .inr ⟨s, ?_, ?_⟩
   ·simp only [g_Si_DiskFold_0, RT.sel, decide_eq_false hx, cond_true, cond_false]
   ·rw [List.drop_of_length_le (by omega)] at i4
    exact i4
 obtain ⟨r, r1, r2⟩ := L
 rw [r1, r2]
theorem foldL_s (l : List Note) (safe : Int) (hl : l.length ≤ 1048576) (hit : ∀ x ∈ l, smallN x) : g_Ls_DiskFold_0 l safe [] (0, []) = some (foldP l) := by
 have L : ∃ r, g_Ls_DiskFold_0 l safe [] (0, []) = some r ∧ r = foldP l := by
  refine loop_inv (step := g_Ss_DiskFold_0 l safe []) (fun x => 0 ≤ x.1 ∧ x.1 ≤ l.length ∧ storeP x.2 = true ∧ foldA (l.take x.1.toNat) (l.drop x.1.toNat) x.2 = foldP l) _ (fun x => (l.length - x.1).toNat) ?_ _ ⟨by simp, by simp, storeP_nil, by simp [foldP]⟩
  rintro ⟨x, s⟩ ⟨i1, i2, i3, i4⟩
  simp only at i1 i2 i3 i4
  by_cases hx : x < (l.length : Int)
  ·have hn : x.toNat < l.length := by omega
   have hat : at_ NI_ l x.toNat = l[x.toNat] := at_eq (e := NI_) hn
   have v0 : decide ((0 : Int) ≤ x ∧ x < (l.length : Int)) = true := decide_eq_true ⟨i1, hx⟩
   have v1 : decide ((0 : Int) ≤ x ∧ x ≤ (l.length : Int)) = true := decide_eq_true ⟨i1, i2⟩
   have hw : IntKind.wrap .i64 (x + 1) = x + 1 := wrap64 (by omega)
   have e0 : ∀ z : List Note, List.drop (nat_lit 0) z = z := fun z => rfl
   obtain ⟨ra, rb, rc⟩ := s_l2Ready_f (l.take x.toNat) l[x.toNat].2.1 (by have := List.length_take_le' x.toNat l; omega)
   rw [fold_next l hn] at i4
   refine .inl ⟨(x + 1, stepF (l.take x.toNat) l[x.toNat] s), ?_, ⟨by simp only; omega, by simp only; omega, stepF_store i3, by simp only [show (x + 1).toNat = x.toNat + 1 by omega]; exact i4⟩, by simp only; omega⟩
   by_cases h2 : l[x.toNat].1 = 2
   ·have h2' : (l[x.toNat].1 != 2) = false := by simpa using h2
    unfold stepF
    rw [decide_eq_true h2, cond_true]
    cases hr : g_ready (l.take x.toNat) l[x.toNat].2.1 with
    | none =>
     rw [hr] at rc
     simp only [Option.isSome_none] at rc
     simp only [g_Ss_DiskFold_0, RT.sel, decide_eq_true hx, cond_true, cond_false, v0, v1, hat, h2', hw, e0, ra, rc]
    | some m =>
     obtain ⟨b1, b2⟩ := store_mid i3
     obtain ⟨c1, c2⟩ := ready_small hit hr
     obtain ⟨d1, d2⟩ := s_StoDo_f s m.2.2.2 (by omega) b2 c1 c2
     rw [hr] at rb rc
     simp only [Option.isSome_some, Option.map_some, Option.getD_some] at rb rc
     simp only [g_Ss_DiskFold_0, RT.sel, decide_eq_true hx, cond_true, cond_false, v0, v1, hat, h2', hw, e0, ra, rb, rc, d1, d2]
   ·have h2' : (l[x.toNat].1 != 2) = true := by simpa using h2
    unfold stepF
    rw [decide_eq_false h2, cond_false]
    simp only [g_Ss_DiskFold_0, RT.sel, decide_eq_true hx, cond_true, v0, hat, h2', hw]
  ·refine .inr ⟨s, ?_, ?_⟩
   ·simp only [g_Ss_DiskFold_0, RT.sel, decide_eq_false hx, cond_true, cond_false]
   ·rw [List.drop_of_length_le (by omega)] at i4
    exact i4
 obtain ⟨r, r1, r2⟩ := L
 rw [r1, r2]
theorem i_DiskFold_f (l : List Note) (safe : Int) (hl : l.length ≤ 1048576) (hit : ∀ x ∈ l, smallN x) : g_Ai_DiskFold l safe = true ∧ g_Vi_DiskFold_0 l safe = bif diskP l safe then foldP l else [] := by
 obtain ⟨a1, a2⟩ := i_DiskOk_f l safe hl hit
 unfold g_Ai_DiskFold g_Vi_DiskFold_0
 rw [a1, a2, foldL_i l safe hl hit]
 cases diskP l safe <;> exact ⟨rfl, rfl⟩
theorem s_DiskFold_f (l : List Note) (safe : Int) (hl : l.length ≤ 1048576) (hit : ∀ x ∈ l, smallN x) : g_As_DiskFold l safe = true ∧ g_Vs_DiskFold_0 l safe = bif diskP l safe then foldP l else [] := by
 obtain ⟨a1, a2⟩ := s_DiskOk_f l safe hl hit
 unfold g_As_DiskFold g_Vs_DiskFold_0
 rw [a1, a2, foldL_s l safe hl hit]
 cases diskP l safe <;> exact ⟨rfl, rfl⟩
noncomputable abbrev mI (x : ByteArray × List Int) (k : Int) : ByteArray × List Int := (g_Vw_markText_0 k, mkI x.2 (k + 1))
abbrev cI (x : ByteArray × List Int) : Nat := 1 + x.2.length
theorem markStoItemS_f (l : List (ByteArray × List Int)) (k : Int) (hl : l.length ≤ 1048576) (hit : ∀ x ∈ l, x.2.length ≤ 1048576) (h : 0 ≤ k ∧ k + (sumC cI l : Nat) ≤ MK) : g_Aw_markStoItemS l k = true ∧ g_Vw_markStoItemS_0 l k = k + (sumC cI l : Nat) ∧ g_Vw_markStoItemS_1 l k = mkL mI cI l k := by
 have L : g_Lw_markStoItemS_0 (l, k, 0) = some (mkL mI cI l k, k + (sumC cI l : Nat)) := by
  refine mark_loop (e := TI_) (step := g_Sw_markStoItemS_0) mI cI l MK (fun i r k hi hr ha h0 hb => ?_) (fun r k hr => by simp only [g_Sw_markStoItemS_0, RT.sel, cond_true, hr, Int.lt_irrefl, decide_false, cond_false]) k h.1 h.2
  have k1 : (i : Int) < r.length := by omega
  have k2 : (0 : Int) ≤ (i : Int) := by omega
  have k3 : i < r.length := by omega
  have ha : at_ (.pair .str (.sl 3 (.int .i64))) r i = at_ TI_ l i := ha
  have hx := hit _ (at_mem (e := TI_) hi)
  simp only [cI] at hb
  unfold MK at hb
  have t := markText_f k ⟨h0, by unfold MK; omega⟩
  obtain ⟨a1, a2, a3⟩ := markIntS_f (at_ TI_ l i).2 (k + 1) hx ⟨by omega, by unfold MK; omega⟩
  simp only [g_Sw_markStoItemS_0, updE, RT.sel, cond_true, k1, k2, k3, decide_true, and_self, Int.toNat_natCast, t, List.length_set, at_set k3, ha, wrapM (x := k + 1) (by omega), a1, a2, a3, List.set_set, wrapM (x := (i : Int) + 1) (by omega)]
  simp only [cI]
  congr 3
  omega
 simp only [g_Aw_markStoItemS, g_Vw_markStoItemS_0, g_Vw_markStoItemS_1, L, okO, valO, Option.isSome_some, Option.getD_some, and_self]
theorem eqStoItem_self (k : ByteArray) (l : List Int) (hl : l.length ≤ 1048576) : g_Aw_eqStoItem k l k l = true ∧ g_Vw_eqStoItem_0 k l k l = true := by
 obtain ⟨a, b⟩ := eqIntS_self l hl
 simp [g_Aw_eqStoItem, g_Vw_eqStoItem_0, a, b]
theorem eqStoItemS_self (l : List (ByteArray × List Int)) (hl : l.length ≤ 1048576) (hit : ∀ w ∈ l, w.2.length ≤ 1048576) : g_Aw_eqStoItemS l l = true ∧ g_Vw_eqStoItemS_0 l l = true := by
 have h : g_Lw_eqStoItemS_0 l l 0 = some (.inr ()) := by
  have := loop_all (step := g_Sw_eqStoItemS_0 l l) (fun i : Nat => (i : Int)) (fun _ => true) (.inl false) (.inr ()) l.length (fun i hi => by
   have k1 : (i : Int) < l.length := by omega
   have k2 : (0 : Int) ≤ (i : Int) := by omega
   have hw : IntKind.wrap .i64 ((i : Int) + 1) = ((i + 1 : Nat) : Int) := by rw [wrap64 (by omega)]; omega
   obtain ⟨q1, q2⟩ := eqStoItem_self (at_ TI_ l i).1 _ (hit _ (at_mem (e := TI_) hi))
   simp only [g_Sw_eqStoItemS_0, RT.sel, cond_true, k1, k2, hw, decide_true, and_self, Int.toNat_natCast, q1, q2, Bool.not_true, cond_false]) (by simp [g_Sw_eqStoItemS_0, RT.sel])
  rw [show (List.range l.length).all (fun _ => true) = true by simp] at this
  exact this
 simp [g_Aw_eqStoItemS, g_Vw_eqStoItemS_0, h, okO, valO, isL]
theorem eqStoStore_self (l : List (ByteArray × List Int)) (hl : l.length ≤ 1048576) (hit : ∀ w ∈ l, w.2.length ≤ 1048576) : g_Aw_eqStoStore l l = true ∧ g_Vw_eqStoStore_0 l l = true := by
 obtain ⟨a, b⟩ := eqStoItemS_self l hl hit
 simp [g_Aw_eqStoStore, g_Vw_eqStoStore_0, a, b]
theorem heldStoItemS_f (l : List (ByteArray × List Int)) (k : Int) (hl : l.length ≤ 1048576) (hit : ∀ x ∈ l, x.2.length ≤ 1048576) (h : 0 ≤ k ∧ k + (sumC cI l : Nat) ≤ MK) : g_Aw_heldStoItemS (mkL mI cI l k) k = true ∧ g_Vw_heldStoItemS_0 (mkL mI cI l k) k = k + (sumC cI l : Nat) := by
 have L : g_Lw_heldStoItemS_0 (mkL mI cI l k) (k, 0) = some (.inr (k + (sumC cI l : Nat))) := by
  refine held_loop (e := TI_) (step := g_Sw_heldStoItemS_0 (mkL mI cI l k)) mI cI l MK (fun k => .inr k) k (fun i k' hi ha h0 hb => ?_) (fun k' => by
    have hlen : (mkL mI cI l k).length = l.length := mkL_len _ _ _ _
    simp only [g_Sw_heldStoItemS_0, RT.sel, cond_true, hlen, Int.lt_irrefl, decide_false, cond_false]) h.1 h.2
  have hlen : (mkL mI cI l k).length = l.length := mkL_len _ _ _ _
  have k1 : (i : Int) < (mkL mI cI l k).length := by omega
  have k2 : (0 : Int) ≤ (i : Int) := by omega
  have ha : at_ (.pair .str (.sl 3 (.int .i64))) (mkL mI cI l k) i = mI (at_ TI_ l i) k' := ha
  have hx := hit _ (at_mem (e := TI_) hi)
  simp only [cI] at hb
  unfold MK at hb
  have t := markText_f k' ⟨h0, by unfold MK; omega⟩
  obtain ⟨a1, a2⟩ := heldIntS_f (at_ TI_ l i).2 (k' + 1) hx ⟨by omega, by unfold MK; omega⟩
  have n1 : ¬ (k' + 1 + ((at_ TI_ l i).2.length : Int) < 0) := by omega
  simp only [g_Sw_heldStoItemS_0, RT.sel, cond_true, k1, k2, decide_true, and_self, Int.toNat_natCast, ha, mI, t, BEq.rfl, bne_self_eq_false, Bool.not_true, cond_false, wrapM (x := k' + 1) (by omega), a1, a2, decide_eq_false n1, wrapM (x := (i : Int) + 1) (by omega)]
  simp only [cI]
  congr 2
  omega
 simp only [g_Aw_heldStoItemS, g_Vw_heldStoItemS_0, L, okO, valO, Option.isSome_some, Option.getD_some, isL, getR, cond_false, and_self]
theorem pure_FnExactDiskFold (x : List Note × Int) (ok : (x.1.length ≤ maxLen ∧ ∀ n ∈ x.1, okN n) ∧ (Lit.int .i64 x.2).wf = true) :
  Fw_FnExactDiskFold [argRV true (.pair (.sl 133 NL_) (.int .i64)) x] = some (true, .val false [.bool true], []) := by
 obtain ⟨l, safe⟩ := x
 obtain ⟨⟨h1, h2⟩, _⟩ := ok
 show some (g_Aw_FnExactDiskFold l safe, RV.val false [Cell.bool (g_Vw_FnExactDiskFold_0 l safe)], []) = _
 obtain ⟨a1, a2⟩ := szLogDisk_f l safe h1 h2 1048576 (by decide) (by decide)
 have key : g_Aw_FnExactDiskFold l safe = true ∧ g_Vw_FnExactDiskFold_0 l safe = true := by
  unfold g_Aw_FnExactDiskFold g_Vw_FnExactDiskFold_0
  rw [a1, a2, left_dec _ _ (by decide)]
  by_cases hc : ((szL szN l : Nat) : Int) ≤ 1048576
  ·have b := small_disk (l := l) (B := 1048576) (by omega) (by decide)
   have mm := sumC_N l
   obtain ⟨c1, c2⟩ := toLogNoteS_f l b.1 b.2
   obtain ⟨e1, e2⟩ := i_DiskFold_f l safe b.1 b.2
   obtain ⟨f1, f2⟩ := s_DiskFold_f l safe b.1 b.2
   obtain ⟨q1, q2⟩ := eqLogDisk_self l safe b.1 b.2
   obtain ⟨m1, m2, m3⟩ := markLogNoteS_f l 1 b.1 b.2 ⟨by decide, by unfold MK; omega⟩
   have hst : storeP (bif diskP l safe then foldP l else []) = true := by
    cases diskP l safe
    ·exact storeP_nil
    ·exact foldP_store l
   generalize (bif diskP l safe then foldP l else []) = v at hst e2 f2
   have hv := (storeP_iff v).1 hst
   have hv1 : v.length ≤ 1048576 := by have := hv.1; omega
   have hv3 : ∀ x ∈ v, x.2.length ≤ 3 := fun x hx => by
    have := hv.2.1 x hx
    simp only [okI', Bool.and_eq_true, valP, decide_eq_true_eq] at this
    exact this.2.1.2
   have hv2 : ∀ x ∈ v, x.2.length ≤ 1048576 := fun x hx => Nat.le_trans (hv3 x hx) (by decide)
   have h40 := hv.1
   have hvs : sumC cI v ≤ 4 * v.length := by
    clear hv hst hv1 hv2 e2 f2 h40
    induction v with
    | nil => simp [sumC]
    | cons x v ih =>
     have := ih (fun y hy => hv3 y (List.mem_cons_of_mem _ hy))
     have := hv3 x List.mem_cons_self
     rw [sumC_cons, List.length_cons]
     simp only [cI]
     omega
   obtain ⟨p1, p2⟩ := eqStoStore_self v hv1 hv2
   obtain ⟨k1, k2, k3⟩ := markStoItemS_f v 1 hv1 hv2 ⟨by decide, by unfold MK; omega⟩
   obtain ⟨z1, z2⟩ := heldStoItemS_f v 1 hv1 hv2 ⟨by decide, by unfold MK; omega⟩
   have n1 : ¬ ((1 : Int) + (sumC cN l : Nat) < 0) := by omega
   have n2 : ¬ ((1 : Int) + (sumC cI v : Nat) < 0) := by omega
   simp only [g_Aw_toLogDisk, g_Aw_markLogDisk, g_Aw_markStoStore, g_Aw_heldStoStore, g_Vw_heldStoStore_0, c1, c2, e1, e2, f1, f2, q1, q2, m1, m2, p1, p2, k1, k2, k3, z1, z2, decide_eq_true hc, decide_eq_false n1, decide_eq_false n2, bne_self_eq_false, BEq.rfl, Bool.not_true, Bool.not_false, Bool.and_self, Bool.or_true, Bool.true_or, Bool.or_self, Bool.false_or, cond_true, cond_false, and_self, Bool.true_and, Bool.and_true]
  ·rw [decide_eq_false hc]
   exact ⟨rfl, rfl⟩
 rw [key.1, key.2]
end Go.Proofs.YtjoggjjjlafdmaaGreatDoor.E
