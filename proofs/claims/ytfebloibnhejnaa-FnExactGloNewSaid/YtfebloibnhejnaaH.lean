import Derived.Below
import Derived.Lib.SlTrimSet
import Derived.Laws.Cover1
namespace Go.Proofs.Ytfebloibnhejnaa.H
def digits : List UInt8 := [48, 49, 50, 51, 52, 53, 54, 55, 56, 57]
/-- A name: a small letter, and one or two digits. -/
def keyOkL (l : List UInt8) : Bool := match l with
  | c :: r => decide (1 ≤ r.length) && decide (r.length ≤ 2) && (decide (97 ≤ c.toNat) && decide (c.toNat ≤ 122)) && r.all (digits.contains ·)
  | [] => false
def keyOk (s : ByteArray) : Bool := keyOkL s.data.toList
theorem dropWhile_nil {α : Type} (p : α → Bool) (l : List α) : l.dropWhile p = [] ↔ ∀ x ∈ l, p x = true := by
  induction l with
  | nil => simp
  | cons a l ih =>
    by_cases h : p a = true
    · rw [List.dropWhile_cons_of_pos h, ih]; simp [h]
    · rw [List.dropWhile_cons_of_neg h]; simp [h]
theorem trimS_nil (l cs : List UInt8) : (Lib.trimS l cs = []) ↔ l.all (cs.contains ·) = true := by
  unfold Lib.trimS Lib.trimLeftS Lib.trimRightS
  constructor
  · intro h
    rw [dropWhile_nil] at h
    rw [List.all_eq_true]
    intro x hx
    have h2 : ∀ (m : List UInt8), (∀ y ∈ (m.dropWhile (cs.contains ·)).reverse, cs.contains y = true) → ∀ y ∈ m, cs.contains y = true := by
      intro m
      induction m with
      | nil => intro _ y hy; cases hy
      | cons a m ih =>
        intro hm y hy
        by_cases ha : cs.contains a = true
        · rw [List.dropWhile_cons_of_pos ha] at hm
          rcases List.mem_cons.1 hy with rfl | hy
          · exact ha
          · exact ih hm y hy
        · rw [List.dropWhile_cons_of_neg ha] at hm
          exact hm y (List.mem_reverse.2 hy)
    exact h2 l.reverse (fun y hy => h y hy) x (by simpa using hx)
  · intro h
    rw [List.all_eq_true] at h
    rw [dropWhile_nil]
    intro x hx
    have : x ∈ l := by
      have h3 := List.mem_reverse.1 hx
      have := (List.dropWhile_sublist (fun x => cs.contains x) (l := l.reverse)).subset h3
      simpa using this
    exact h x this
/-- The first place where p holds, or -1. -/
def idxF {α : Type} (p : α → Bool) (l : List α) : Int := match l.findIdx? p with | some i => (i : Int) | none => -1
def numOk (n : Int) : Bool := decide (0 ≤ n) && decide (n ≤ 9999)
def valOk (l : List Int) : Bool := decide (1 ≤ l.length) && decide (l.length ≤ 3) && l.all numOk
theorem idxF_any {α : Type} (p : α → Bool) (l : List α) : decide (0 ≤ idxF p l) = l.any p := by
  unfold idxF
  cases h : l.findIdx? p with
  | none =>
    rw [List.findIdx?_eq_none_iff] at h
    have : l.any p = false := by rw [List.any_eq_false]; intro x hx; rw [h x hx]; simp
    rw [this]; rfl
  | some i =>
    have := List.findIdx?_eq_some_iff_getElem.1 h
    obtain ⟨hi, hp, _⟩ := this
    have : l.any p = true := List.any_eq_true.2 ⟨_, List.getElem_mem hi, hp⟩
    rw [this]; simp
theorem idxF_hit_ {α : Type} (p : α → Bool) (l : List α) (k : Nat) (hk : k < l.length) (h0 : ∀ j (hj : j < k), p (l[j]'(by omega)) = false) (h1 : p l[k] = true) : idxF p l = k := by
  unfold idxF
  have : l.findIdx? p = some k := List.findIdx?_eq_some_iff_getElem.2 ⟨hk, h1, fun j hj => by rw [h0 j hj]; simp⟩
  rw [this]
theorem idxF_miss_ {α : Type} (p : α → Bool) (l : List α) (h0 : ∀ j (hj : j < l.length), p l[j] = false) : idxF p l = -1 := by
  unfold idxF
  have : l.findIdx? p = none := by
    rw [List.findIdx?_eq_none_iff]
    intro x hx
    obtain ⟨j, hj, rfl⟩ := List.getElem_of_mem hx
    exact h0 j hj
  rw [this]
/-- Keys rise. -/
def lessB (a b : ByteArray) : Bool := Go.Op.bytesLess a.toList b.toList
theorem leq_not : ∀ a b : List UInt8, (Go.Op.bytesLess a b || a == b) = !(Go.Op.bytesLess b a)
  | [], [] => rfl
  | [], _ :: _ => rfl
  | _ :: _, [] => rfl
  | a :: x, b :: y => by
    have ih := leq_not x y
    simp only [Go.Op.bytesLess]
    rcases Nat.lt_trichotomy a.toNat b.toNat with h | h | h
    · have h1 : decide (a < b) = true := decide_eq_true (UInt8.lt_iff_toNat_lt.2 h)
      have h2 : decide (b < a) = false := decide_eq_false (fun e => by have := UInt8.lt_iff_toNat_lt.1 e; omega)
      have h3 : (b == a) = false := by rw [beq_eq_false_iff_ne]; rintro rfl; omega
      simp [h1, h2, h3]
    · obtain rfl : a = b := UInt8.toNat_inj.1 h
      have h1 : decide (a < a) = false := decide_eq_false (fun e => by have := UInt8.lt_iff_toNat_lt.1 e; omega)
      have h2 : (a :: x == a :: y) = (x == y) := by simp
      rw [h2, h1]
      simpa using ih
    · have h1 : decide (a < b) = false := decide_eq_false (fun e => by have := UInt8.lt_iff_toNat_lt.1 e; omega)
      have h2 : decide (b < a) = true := decide_eq_true (UInt8.lt_iff_toNat_lt.2 h)
      have h3 : (a == b) = false := by rw [beq_eq_false_iff_ne]; rintro rfl; omega
      have h4 : (a :: x == b :: y) = false := by rw [beq_eq_false_iff_ne]; intro e; injection e with e1 _; subst e1; omega
      rw [h1, h2, h3, h4]
      simp
/-- What '<=' and '>=' of strings come to, as the walk spells them. -/
theorem leq_of (a b : ByteArray) (r : Bool) (h : lessB b a = !r) : (Go.Op.bytesLess a.toList b.toList || a.toList == b.toList) = r := by
  rw [leq_not]
  unfold lessB at h
  rw [h]
  simp
section
open Go
variable {P : Program}
theorem run_leq_str (t : TypeId) (a b : ByteArray) (r : Bool) (h : lessB b a = !r) (w : World) : Sem.run P (binOp .leq t (.string a) (.string b)) w = .ok (.bool r) w := by
  rw [binOp_string_leq, leq_not]
  unfold lessB at h
  rw [h]
  simp
theorem run_geq_str (t : TypeId) (a b : ByteArray) (r : Bool) (h : lessB a b = !r) (w : World) : Sem.run P (binOp .geq t (.string a) (.string b)) w = .ok (.bool r) w := by
  rw [binOp_string_geq]
  unfold lessB at h
  rw [h]
  simp
end
theorem valOk_any (l : List Int) : valOk l = (decide (1 ≤ l.length) && decide (l.length ≤ 3) && !(l.any fun x => !numOk x)) := by
  unfold valOk
  congr 1
  rw [Bool.eq_iff_iff]
  simp
end Go.Proofs.Ytfebloibnhejnaa.H
