import Derived.Test.YtfebloibnhejnaaH
import Derived.Test.YtfebloibnhejnaaWWords
import Derived.BigQuiet
namespace Go.Proofs.Ytfebloibnhejnaa.H
open Go.Proofs.YtfebloibnhejnaaW.PrintWords
section
open Go.RowKit
variable {P : Program} {ops : Array Oper} {a : Act} {o : Oper}
/-- A world behind W, in which all of W lies as it lay. -/
structure Later (W : World) where
  w : World
  below : Below W.heap.size W w
instance later_nonempty (W : World) : Nonempty (Later W) := ⟨⟨W, Below.refl _ _⟩⟩
theorem Later.cell {W : World} {ad : Addr} {v : Value} (h : W.cell? ad = some v) (x : Later W) : x.w.cell? ad = some v := pw_cell_below x.below h
/-- A region that draws its order, whose operations only read what lies below, and whose callees leave that as it is: one walk, in the text's order. -/
theorem still_lit {id : Nat} {Q : Exit → Act → World → Prop} {w : World} {l : List Oper} (hm : P.follows .mixedOrders = true) (hB : Region.lexB .any l.toArray = true)
    (h : wpQuiet P l.toArray (fun w' => ∃ x : Later w, w' = x.w) (fun a' => ∀ w', (∃ x : Later w, w' = x.w) → Q .normal a' w') l a) : (Code.region id l.toArray true).wp P Q a w :=
  wp_region_quiet (C := fun w' => ∃ x : Later w, w' = x.w) hm hB ⟨⟨_, Below.drew (Below.refl _ _)⟩, rfl⟩ (by simpa using h)
theorem still_call {w0 : World} (x : Later w0) {f : FuncId} {args : Array Value} {v : Value} (h : Calls P f args x.w fun e w' => e = .returned v ∧ Below x.w.heap.size x.w w') : Calls P f args x.w fun e w' => e = .returned v ∧ ∃ y : Later w0, w' = y.w :=
  h.mono fun _ w' ⟨h1, h2⟩ => ⟨h1, ⟨w', below_step x.below h2⟩, rfl⟩
theorem still_quiet {w0 : World} (x : Later w0) {f : FuncId} {args : Array Value} {v : Value} (h : Calls P f args x.w fun e w' => e = .returned v ∧ Drawn0 x.w w') : Calls P f args x.w fun e w' => e = .returned v ∧ ∃ y : Later w0, w' = y.w :=
  still_call x (h.mono fun _ _ ⟨h1, h2⟩ => ⟨h1, h2.below⟩)
end
theorem rd_get (l : List Int) (j : Nat) (h : j < l.length) : rd l (j : Int) = l[j] := by simp [rd, h]
theorem idxF_hit (p : Int → Bool) (l : List Int) (k : Nat) (hk : k < l.length) (h0 : ∀ j : Nat, j < k → p (rd l j) = false) (h1 : p (rd l k) = true) : idxF p l = k :=
  idxF_hit_ p l k hk (fun j hj => by rw [← rd_get]; exact h0 j hj) (by rw [← rd_get]; exact h1)
theorem idxF_miss (p : Int → Bool) (l : List Int) (h0 : ∀ j : Nat, j < l.length → p (rd l j) = false) : idxF p l = -1 :=
  idxF_miss_ p l (fun j hj => by rw [← rd_get]; exact h0 j hj)
theorem bt_w (s : ByteArray) (h : 0 < s.size) : Go.RowKit.wrap64 ((s[0]'h).toNat : Int) = bt s 0 := by
  have h1 := (s[0]'h).toNat_lt
  unfold bt
  rw [dif_pos (by simpa using h)]
  show Go.RowKit.wrap64 ((s[0]'h).toNat : Int) = ((s[0]'h).toNat : Int)
  unfold Go.RowKit.wrap64
  omega
theorem trim_key (s : ByteArray) : (Lib.trimS (List.take (s.size - 1) s.data.toList.tail) [48, 49, 50, 51, 52, 53, 54, 55, 56, 57]).isEmpty = (s.extract 1 s.size).data.toList.all (digits.contains ·) := by
  have e : (s.extract 1 s.size).data.toList = List.take (s.size - 1) s.data.toList.tail := by
    simp only [ByteArray.data_extract, Array.toList_extract, List.extract_eq_take_drop, List.drop_one]
  rw [e, Bool.eq_iff_iff, List.isEmpty_iff]
  exact trimS_nil _ _
theorem keyOk_def (s : ByteArray) : keyOk s = (decide (2 ≤ s.size) && decide (s.size ≤ 3) && (decide (97 ≤ bt s 0) && decide (bt s 0 ≤ 122)) && (s.extract 1 s.size).data.toList.all (digits.contains ·)) := by
  obtain ⟨⟨l⟩⟩ := s
  unfold keyOk keyOkL
  cases l with
  | nil => simp [ByteArray.size]
  | cons c r =>
    have e1 : (ByteArray.mk ⟨c :: r⟩).size = r.length + 1 := by simp [ByteArray.size]
    have e2 : ((ByteArray.mk ⟨c :: r⟩).extract 1 (r.length + 1)).data.toList = r := by simp [ByteArray.data_extract]
    have e0 : bt (ByteArray.mk ⟨c :: r⟩) 0 = (c.toNat : Int) := by
      unfold bt
      rw [dif_pos (by rw [e1]; simp)]
      rfl
    rw [e0, e1, e2]
    rw [show decide (2 ≤ r.length + 1) = decide (1 ≤ r.length) from decide_eq_decide.2 (by omega), show decide (r.length + 1 ≤ 3) = decide (r.length ≤ 2) from decide_eq_decide.2 (by omega),
      show decide ((97 : Int) ≤ (c.toNat : Int)) = decide (97 ≤ c.toNat) from decide_eq_decide.2 (by omega), show decide ((c.toNat : Int) ≤ 122) = decide (c.toNat ≤ 122) from decide_eq_decide.2 (by omega)]
end Go.Proofs.Ytfebloibnhejnaa.H
