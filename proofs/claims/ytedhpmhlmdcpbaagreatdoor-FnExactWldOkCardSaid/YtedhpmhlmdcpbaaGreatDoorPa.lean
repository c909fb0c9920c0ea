/- What these values are, in plain words: for the proof (laws.FnExactWldOk): part 1. No conditions. -/
import Derived.Test.YtedhpmhlmdcpbaaGreatDoorGc
import Derived.Lib.SlTrimSet
set_option linter.all false
namespace Go.Proofs.YtedhpmhlmdcpbaaGreatDoor.E
open Go
set_option maxRecDepth 100000
set_option maxHeartbeats 0
theorem wrap64 {x:Int} (h:-9223372036854775808 ≤ x ∧ x < 9223372036854775808):IntKind.wrap .i64 x = x := by
 simp only [IntKind.wrap,IntKind.bits,IntKind.signed]
 simp
 omega
def forR {α ρ:Type} (f:Nat → α → α ⊕ ρ) (fin:α → ρ):Nat → Nat → α → ρ
 | 0,_,a => fin a
 | k + 1,i,a => match f i a with
  | .inl a' => forR f fin k (i + 1) a'
  | .inr r => r
section
variable {σ ρ α β:Type} {step:σ → RT σ ρ}
theorem loop_for (mk:Nat → α → σ) (f:Nat → α → α ⊕ ρ) (fin:α → ρ) (n:Nat) (J:Nat → α → Prop)
  (h1:∀ i a,i < n → J i a → (step (mk i a)).sel = (match f i a with | .inl a' => .go (mk (i + 1) a') | .inr r => .out r) ∧ ∀ a',f i a = .inl a' → J (i + 1) a')
  (h2:∀ a,J n a → (step (mk n a)).sel = .out (fin a)):∀ (k i:Nat) (a:α),i + k = n → J i a → loopO step (mk i a) = some (forR f fin k i a) := by
 intro k
 induction k with
 | zero =>
  intro i a hi hJ
  have hi:i = n := by omega
  subst hi
  rw [loopO_eq,h2 a hJ]
  rfl
 | succ k ih =>
  intro i a hi hJ
  obtain ⟨h3,h4⟩ := h1 i a (by omega) hJ
  rw [loopO_eq,h3]
  unfold forR
  cases hf:f i a with
  | inl a' => simp only; exact ih (i + 1) a' (by omega) (h4 a' hf)
  | inr r => rfl
theorem loop_all (mk:Nat → σ) (p:Nat → Bool) (e fin:ρ) (n:Nat) (h1:∀ i,i < n → (step (mk i)).sel = bif p i then .go (mk (i + 1)) else .out e) (h2:(step (mk n)).sel = .out fin) :
  loopO step (mk 0) = some (bif (List.range n).all p then fin else e) := by
 have key:∀ k i,i + k = n → loopO step (mk i) = some (bif (List.range' i k).all p then fin else e) := by
  intro k
  induction k with
  | zero =>
   intro i hi
   have hi:i = n := by omega
   subst hi
   rw [loopO_eq,h2]
   rfl
  | succ k ih =>
   intro i hi
   rw [loopO_eq,h1 i (by omega),List.range'_succ,List.all_cons]
   cases p i with
   | true => simp only [cond_true,Bool.true_and]; exact ih (i + 1) (by omega)
   | false => rfl
 rw [key n 0 (by omega),List.range_eq_range']
theorem range_all {e:Ty} (l:List e.den) (p:e.den → Bool):(List.range l.length).all (fun i => p (at_ e l i)) = l.all p := by
 rw [Bool.eq_iff_iff,List.all_eq_true,List.all_eq_true]
 constructor
 ·intro h x hx
  obtain ⟨i,hi,rfl⟩ := List.getElem_of_mem hx
  have := h i (List.mem_range.2 hi)
  simpa [at_,hi] using this
 ·intro h i hi
  have hi := List.mem_range.1 hi
  have := h l[i] (List.getElem_mem hi)
  simpa [at_,hi] using this
theorem at_mem {e:Ty} {l:List e.den} {i:Nat} (h:i < l.length):at_ e l i ∈ l := by
 have:at_ e l i = l[i] := by simp [at_,h]
 rw [this]
 exact List.getElem_mem h
theorem at_eq {e:Ty} {l:List e.den} {i:Nat} (h:i < l.length):at_ e l i = l[i] := by simp [at_,h]
theorem loop_list {e:Ty} (l:List e.den) (mk:Nat → σ) (p:e.den → Bool) (x fin:ρ) (h1:∀ i,i < l.length → (step (mk i)).sel = bif p (at_ e l i) then .go (mk (i + 1)) else .out x) (h2:(step (mk l.length)).sel = .out fin) :
  loopO step (mk 0) = some (bif l.all p then fin else x) := by
 rw [loop_all mk (fun i => p (at_ e l i)) x fin l.length h1 h2,range_all]
theorem loop_map {e:Ty} (l:List e.den) {ρ:Type} {step:List β×Int → RT (List β×Int) ρ} (g:e.den → β) (out:List β → ρ)
  (h1:∀ (i:Nat) (r:List β),i < l.length → r.length = l.length → (step (r,(i:Int))).sel = .go (r.set i (g (at_ e l i)),((i + 1:Nat):Int)))
  (h2:∀ r:List β,r.length = l.length → (step (r,(l.length:Int))).sel = .out (out r)) (r0:List β) (h0:r0.length = l.length):loopO step (r0,0) = some (out (l.map g)) := by
 have key:∀ (k i:Nat) (r:List β),i + k = l.length → r.length = l.length → r.take i = (l.map g).take i → loopO step (r,(i:Int)) = some (out (l.map g)) := by
  intro k
  induction k with
  | zero =>
   intro i r hi hr ht
   have hi:i = l.length := by omega
   subst hi
   rw [loopO_eq,h2 r hr]
   have e1:r.take l.length = r := by rw [← hr,List.take_length]
   have e2:(l.map g).take l.length = l.map g := by rw [List.take_of_length_le (by simp)]
   rw [e1,e2] at ht
   rw [ht]
  | succ k ih =>
   intro i r hi hr ht
   rw [loopO_eq,h1 i r (by omega) hr]
   simp only
   refine ih (i + 1) _ (by omega) (by simp [hr]) ?_
   have hil:i < l.length := by omega
   rw [List.take_succ,List.take_succ,List.take_set_of_le (by omega),ht]
   congr 1
   simp [hr,hil,at_]
 exact key l.length 0 r0 (by omega) h0 (by simp)
def sumF (t:Nat → Nat):Nat → Nat → Nat
 | 0,_ => 0
 | k + 1,i => t i + sumF t k (i + 1)
def left_ (t:Nat) (left:Int):Int := if (t:Int) ≤ left then left - t else -1
theorem loop_sz {step:Int×Int → RT (Int×Int) ((Int×Int) ⊕ Int)} (t:Nat → Nat) (n:Nat) (h1:∀ (i:Nat) (left:Int),i < n → 0 ≤ left → left ≤ 1048576 → (step (left,(i:Int))).sel = bif decide ((t i:Int) ≤ left) then .go (left - t i,((i + 1:Nat):Int)) else .out (.inl (-1,-1)))
  (h2:∀ left:Int,(step (left,(n:Int))).sel = .out (.inr left)) (left:Int) (h0:0 ≤ left) (hl:left ≤ 1048576) :
  ∃ r,loopO step (left,0) = some r ∧ (bif isL r then (getL r).2 else getR r) = left_ (sumF t n 0) left := by
 have key:∀ (k i:Nat) (left:Int),i + k = n → 0 ≤ left → left ≤ 1048576 → ∃ r,loopO step (left,(i:Int)) = some r ∧ (bif isL r then (getL r).2 else getR r) = left_ (sumF t k i) left := by
  intro k
  induction k with
  | zero =>
   intro i left hi h0 hl
   have hi:i = n := by omega
   subst hi
   refine ⟨.inr left,by rw [loopO_eq,h2],?_⟩
   simp [isL,getR,left_,sumF,h0]
  | succ k ih =>
   intro i left hi h0 hl
   rw [loopO_eq,h1 i left (by omega) h0 hl]
   by_cases hc:(t i:Int) ≤ left
   ·simp only [hc,decide_true,cond_true]
    obtain ⟨r,e1,e2⟩ := ih (i + 1) (left - t i) (by omega) (by omega) (by omega)
    refine ⟨r,e1,?_⟩
    rw [e2]
    unfold left_
    have e3:sumF t (k + 1) i = t i + sumF t k (i + 1) := rfl
    rw [e3]
    by_cases hc2:(sumF t k (i + 1):Int) ≤ left - t i
    ·rw [if_pos hc2,if_pos (by omega)]; omega
    ·rw [if_neg hc2,if_neg (by omega)]
   ·simp only [hc,decide_false,cond_false]
    refine ⟨_,rfl,?_⟩
    have e3:sumF t (k + 1) i = t i + sumF t k (i + 1) := rfl
    simp only [isL,getL,cond_true,left_]
    rw [e3,if_neg (by omega)]
 exact key n 0 left (by omega) h0 hl
theorem loop_idx {e:Ty} (l:List e.den) {step:Int → RT Int (Int ⊕ Unit)} (q:e.den → Bool) (h1:∀ i:Nat,i < l.length → (step (i:Int)).sel = bif q (at_ e l i) then .out (.inl (i:Int)) else .go ((i + 1:Nat):Int))
  (h2:(step (l.length:Int)).sel = .out (.inr ())):∃ r,loopO step 0 = some r ∧ decide ((bif isL r then getL r else (-1:Int)) ≥ 0) = l.any q := by
 have key:∀ (k i:Nat),i + k = l.length → ∃ r,loopO step (i:Int) = some r ∧ decide ((bif isL r then getL r else (-1:Int)) ≥ 0) = (l.drop i).any q := by
  intro k
  induction k with
  | zero =>
   intro i hi
   have hi:i = l.length := by omega
   subst hi
   refine ⟨_,by rw [loopO_eq,h2],?_⟩
   simp [isL]
  | succ k ih =>
   intro i hi
   rw [loopO_eq,h1 i (by omega)]
   have hil:i < l.length := by omega
   rw [List.drop_eq_getElem_cons hil,List.any_cons,at_eq hil]
   cases hq:q l[i] with
   | true => exact ⟨_,rfl,by simp [isL,getL]⟩
   | false => simp only [cond_false,Bool.false_or]; exact ih (i + 1) (by omega)
 exact key l.length 0 (by omega)
end
theorem dropWhile_nil {α:Type} (p:α → Bool) (l:List α):l.dropWhile p = [] ↔ ∀ x ∈ l,p x = true := by
 induction l with
 | nil => simp
 | cons a l ih =>
  by_cases h:p a = true
  ·rw [List.dropWhile_cons_of_pos h,ih]; simp [h]
  ·rw [List.dropWhile_cons_of_neg h]; simp [h]
theorem trimS_nil (l cs:List UInt8):(Lib.trimS l cs = []) ↔ l.all (cs.contains ·) = true := by
 unfold Lib.trimS Lib.trimLeftS Lib.trimRightS
 constructor
 ·intro h
  rw [dropWhile_nil] at h
  rw [List.all_eq_true]
  intro x hx
  have h2:∀ (m:List UInt8),(∀ y ∈ (m.dropWhile (cs.contains ·)).reverse,cs.contains y = true) → ∀ y ∈ m,cs.contains y = true := by
   intro m
   induction m with
   | nil => intro _ y hy; cases hy
   | cons a m ih =>
    intro hm y hy
    by_cases ha:cs.contains a = true
    ·rw [List.dropWhile_cons_of_pos ha] at hm
     rcases List.mem_cons.1 hy with rfl | hy
     ·exact ha
     ·exact ih hm y hy
    ·rw [List.dropWhile_cons_of_neg ha] at hm
     exact hm y (List.mem_reverse.2 hy)
  exact h2 l.reverse (fun y hy => h y hy) x (by simpa using hx)
 ·intro h
  rw [List.all_eq_true] at h
  rw [dropWhile_nil]
  intro x hx
  have:x ∈ l := by
   have h3 := List.mem_reverse.1 hx
   have := (List.dropWhile_sublist (fun x => cs.contains x) (l := l.reverse)).subset h3
   simpa using this
  exact h x this
theorem maxLen_lt {n:Nat} (h:n ≤ maxLen):(n:Int) < 9223372036854775808 := by
 have:maxLen = 9223372036854775807 := by decide
 omega
theorem left_step {n:Nat} {left:Int} (h:(n:Int) < 9223372036854775808) (h0:0 ≤ left) (hl:left ≤ 1048576):IntKind.wrap .i64 (left - (n:Int)) = left - n := wrap64 (by omega)
theorem left_two {a b:Nat} {left:Int}:(bif decide (left - (a:Int) < 0) then (-1:Int) else left_ b (left - a)) = left_ (a + b) left := by
 unfold left_
 by_cases h:left - (a:Int) < 0
 ·rw [decide_eq_true h,cond_true,if_neg (by omega)]
 ·rw [decide_eq_false h,cond_false]
  by_cases h2:(b:Int) ≤ left - a
  ·rw [if_pos h2,if_pos (by omega)]; omega
  ·rw [if_neg h2,if_neg (by omega)]
theorem left_neg (a:Nat) (left:Int) (h0:0 ≤ left):(bif decide (left_ a left < 0) then (-1:Int) else left_ a left) = left_ a left := by
 unfold left_
 split
 ·rw [decide_eq_false (by omega),cond_false]
 ·rfl
theorem left_dec (a:Nat) (left:Int) (h0:0 ≤ left):decide (left_ a left < 0) = !decide ((a:Int) ≤ left) := by
 unfold left_
 by_cases h:(a:Int) ≤ left
 ·rw [if_pos h,decide_eq_true h,decide_eq_false (by omega)]; rfl
 ·rw [if_neg h,decide_eq_false h]; rfl
theorem left_val {a:Nat} {left:Int} (h:(a:Int) ≤ left):left_ a left = left - a := if_pos h
def szL {α:Type} (z:α → Nat) (l:List α):Nat := l.length + (l.map z).sum
theorem sumF_sum {e:Ty} (l:List e.den) (z:e.den → Nat):sumF (fun i => z (at_ e l i)) l.length 0 = (l.map z).sum := by
 have key:∀ (k i:Nat),i + k = l.length → sumF (fun i => z (at_ e l i)) k i = ((l.drop i).map z).sum := by
  intro k
  induction k with
  | zero => intro i hi; rw [List.drop_eq_nil_of_le (by omega)]; rfl
  | succ k ih =>
   intro i hi
   have hil:i < l.length := by omega
   unfold sumF
   rw [ih (i + 1) (by omega),List.drop_eq_getElem_cons hil,List.map_cons,List.sum_cons,at_eq hil]
 exact key l.length 0 (by omega)
theorem szL_len {α:Type} {z:α → Nat} {l:List α} {B:Nat} (h:szL z l ≤ B):l.length ≤ B ∧ ∀ x ∈ l,z x ≤ B := by
 unfold szL at h
 refine ⟨by omega,fun x hx => ?_⟩
 have key:∀ l:List α,x ∈ l → z x ≤ (l.map z).sum := by
  intro l
  induction l with
  | nil => intro h; cases h
  | cons a l ih =>
   intro h
   rw [List.map_cons,List.sum_cons]
   rcases List.mem_cons.1 h with rfl | h
   ·omega
   ·have := ih h; omega
 have := key l hx
 omega
theorem szIntS_f (l:List Int) (hl:l.length ≤ maxLen) (left:Int) (h0:0 ≤ left) (h1:left ≤ 1048576):g_Vw_szIntS_0 l left = left_ l.length left := by
 have := maxLen_lt hl
 unfold g_Vw_szIntS_0 left_
 rw [left_step this h0 h1]
 by_cases h:left - (l.length:Int) < 0
 ·rw [decide_eq_true h,cond_true,if_neg (by omega)]
 ·rw [decide_eq_false h,cond_false,if_pos (by omega)]
theorem toIntS_f (l:List Int) (hl:l.length ≤ 1048576):g_Aw_toIntS l = true ∧ g_Vw_toIntS_0 l = l := by
 have h:g_Lw_toIntS_0 l (List.replicate (Int.toNat (l.length:Int)) 0,0) = some (l.map id) := by
  refine loop_map (e := .int .i64) l id id (fun i r hi hr => ?_) (fun r hr => ?_) _ (by simp)
  ·have k1:(i:Int) < l.length := by omega
   have k2:(0:Int) ≤ (i:Int) := by omega
   have k3:(i:Int) < r.length := by omega
   have k4:i < r.length := by omega
   have hw:IntKind.wrap .i64 ((i:Int) + 1) = ((i + 1:Nat):Int) := by rw [wrap64 (by omega)]; omega
   simp only [g_Sw_toIntS_0,RT.sel,cond_true,k1,k2,k3,k4,hw,decide_true,and_self,Int.toNat_natCast,id]
  ·simp [g_Sw_toIntS_0,RT.sel]
 rw [List.map_id] at h
 constructor
 ·rw [Int.toNat_natCast] at h; simp [g_Aw_toIntS,h,okO]; omega
 ·simp only [g_Vw_toIntS_0,h,valO,Option.getD_some]
theorem eqIntS_self (l:List Int) (hl:l.length ≤ 1048576):g_Aw_eqIntS l l = true ∧ g_Vw_eqIntS_0 l l = true := by
 have h:g_Lw_eqIntS_0 l l 0 = some (.inr ()) := by
  have := loop_all (step := g_Sw_eqIntS_0 l l) (fun i:Nat => (i:Int)) (fun _ => true) (.inl false) (.inr ()) l.length (fun i hi => by
   have k1:(i:Int) < l.length := by omega
   have k2:(0:Int) ≤ (i:Int) := by omega
   have hw:IntKind.wrap .i64 ((i:Int) + 1) = ((i + 1:Nat):Int) := by rw [wrap64 (by omega)]; omega
   simp only [g_Sw_eqIntS_0,RT.sel,cond_true,k1,k2,hw,decide_true,and_self,Int.toNat_natCast,bne_self_eq_false,cond_false]) (by simp [g_Sw_eqIntS_0,RT.sel])
  rw [show (List.range l.length).all (fun _ => true) = true by simp] at this
  exact this
 simp [g_Aw_eqIntS,g_Vw_eqIntS_0,h,okO,valO,isL]
theorem szStringS_f (l:List ByteArray) (hl:l.length ≤ maxLen) (hok:∀ w ∈ l,w.size ≤ maxLen) (left:Int) (h0:0 ≤ left) (h1:left ≤ 1048576):g_AZ58 l left = true ∧ g_VZ58_0 l left = left_ (szL ByteArray.size l) left := by
 have hm := maxLen_lt hl
 unfold g_AZ58 g_VZ58_0
 rw [left_step hm h0 h1]
 by_cases h:left - (l.length:Int) < 0
 ·rw [decide_eq_true h]
  refine ⟨rfl,?_⟩
  unfold left_ szL
  rw [cond_true,if_neg (by omega)]
 ·rw [decide_eq_false h]
  have key:∃ r,loopO (g_SZ58_0 l) (left - l.length,0) = some r ∧ (bif isL r then (getL r).2 else getR r) = left_ (l.map ByteArray.size).sum (left - l.length) := by
   have hfor := loop_for (step := g_SZ58_0 l) (fun (i:Nat) (a:Int) => (a,(i:Int))) (fun i a => if ((at_ .str l i).size:Int) ≤ a then .inl (a - (at_ .str l i).size) else .inr (.inl (a - (at_ .str l i).size,-1))) (fun a => .inr a) l.length (fun _ a => 0 ≤ a ∧ a ≤ 1048576) (fun i a hi ha => by
    have k1:(i:Int) < l.length := by omega
    have k2:(0:Int) ≤ (i:Int) := by omega
    have hw:IntKind.wrap .i64 ((i:Int) + 1) = ((i + 1:Nat):Int) := by rw [wrap64 (by omega)]; omega
    have hit := maxLen_lt (hok _ (at_mem (e := .str) hi))
    have q1 := left_step hit ha.1 ha.2
    simp only [g_SZ58_0,RT.sel,cond_true,k1,k2,hw,decide_true,and_self,Int.toNat_natCast,q1]
    by_cases hc:((at_ .str l i).size:Int) ≤ a
    ·rw [if_pos hc,decide_eq_false (by omega)]
     exact ⟨rfl,fun a' e => by cases e; omega⟩
    ·rw [if_neg hc,decide_eq_true (by omega)]
     exact ⟨rfl,fun a' e => by cases e⟩) (fun a _ => by simp [g_SZ58_0,RT.sel]) l.length 0 (left - l.length) (by omega) ⟨by omega,by omega⟩
   refine ⟨_,hfor,?_⟩
   have hs:∀ (k i:Nat) (a:Int),i + k = l.length → 0 ≤ a → (bif isL (forR (fun i a => if ((at_ .str l i).size:Int) ≤ a then .inl (a - (at_ .str l i).size) else .inr (.inl (a - (at_ .str l i).size,-1))) (fun a => (.inr a:(Int×Int) ⊕ Int)) k i a) then (getL (forR (fun i a => if ((at_ .str l i).size:Int) ≤ a then .inl (a - (at_ .str l i).size) else .inr (.inl (a - (at_ .str l i).size,-1))) (fun a => (.inr a:(Int×Int) ⊕ Int)) k i a)).2 else getR (forR (fun i a => if ((at_ .str l i).size:Int) ≤ a then .inl (a - (at_ .str l i).size) else .inr (.inl (a - (at_ .str l i).size,-1))) (fun a => (.inr a:(Int×Int) ⊕ Int)) k i a)) = left_ (sumF (fun i => (at_ .str l i).size) k i) a := by
    intro k
    induction k with
    | zero => intro i a _ h0; simp [forR,isL,getR,sumF,left_,h0]
    | succ k ih =>
     intro i a hi h0
     unfold forR sumF
     by_cases hc:((at_ .str l i).size:Int) ≤ a
     ·simp only [if_pos hc]
      rw [ih (i + 1) _ (by omega) (by omega),← left_two,decide_eq_false (by omega),cond_false]
     ·simp only [if_neg hc,isL,getL,cond_true]
      unfold left_
      rw [if_neg (by omega)]
   rw [hs l.length 0 _ (by omega) (by omega),sumF_sum (e := .str)]
  obtain ⟨r,e1,e2⟩ := key
  have e1:g_LZ58_0 l (left - l.length,0) = some r := e1
  rw [e1]
  refine ⟨rfl,?_⟩
  simp only [valO,Option.getD_some,cond_false]
  rw [e2]
  show _ = left_ (l.length + (l.map ByteArray.size).sum) left
  rw [← left_two,decide_eq_false h,cond_false]
theorem toStringS_f (l:List ByteArray) (hl:l.length ≤ 1048576):g_AZ63 l = true ∧ g_VZ63_0 l = l := by
 have h:g_LZ63_0 l (List.replicate (Int.toNat (l.length:Int)) (lit []),0) = some (l.map id) := by
  refine loop_map (e := .str) l id id (fun i r hi hr => ?_) (fun r hr => ?_) _ (by simp)
  ·have k1:(i:Int) < l.length := by omega
   have k2:(0:Int) ≤ (i:Int) := by omega
   have k3:(i:Int) < r.length := by omega
   have k4:i < r.length := by omega
   have hw:IntKind.wrap .i64 ((i:Int) + 1) = ((i + 1:Nat):Int) := by rw [wrap64 (by omega)]; omega
   simp only [g_SZ63_0,RT.sel,cond_true,k1,k2,k3,k4,hw,decide_true,and_self,Int.toNat_natCast,id]
  ·simp [g_SZ63_0,RT.sel]
 rw [List.map_id] at h
 constructor
 ·rw [Int.toNat_natCast] at h; simp [g_AZ63,h,okO]; omega
 ·simp only [g_VZ63_0,h,valO,Option.getD_some]
theorem eqStringS_self (l:List ByteArray) (hl:l.length ≤ 1048576):g_AZ53 l l = true ∧ g_VZ53_0 l l = true := by
 have h:g_LZ53_0 l l 0 = some (.inr ()) := by
  have := loop_all (step := g_SZ53_0 l l) (fun i:Nat => (i:Int)) (fun _ => true) (.inl false) (.inr ()) l.length (fun i hi => by
   have k1:(i:Int) < l.length := by omega
   have k2:(0:Int) ≤ (i:Int) := by omega
   have hw:IntKind.wrap .i64 ((i:Int) + 1) = ((i + 1:Nat):Int) := by rw [wrap64 (by omega)]; omega
   simp only [g_SZ53_0,RT.sel,cond_true,k1,k2,hw,decide_true,and_self,Int.toNat_natCast,BEq.rfl,Bool.not_true,cond_false]) (by simp [g_SZ53_0,RT.sel])
  rw [show (List.range l.length).all (fun _ => true) = true by simp] at this
  exact this
 simp [g_AZ53,g_VZ53_0,h,okO,valO,isL]
def szW (w:ByteArray×Bool×List Int):Nat := w.1.size + w.2.2.length
def okW (w:ByteArray×Bool×List Int):Prop := w.1.size ≤ maxLen ∧ True ∧ (w.2.2.length ≤ maxLen ∧ ∀ n ∈ w.2.2,(Lit.int .i64 n).wf = true)
theorem szStoWrite_f (k:ByteArray) (d:Bool) (l:List Int) (hk:k.size ≤ maxLen) (hl:l.length ≤ maxLen) (left:Int) (h0:0 ≤ left) (h1:left ≤ 1048576):g_AZ41 k d l left = true ∧ g_VZ41_0 k d l left = left_ (k.size + l.length) left := by
 have := maxLen_lt hk
 constructor
 ·simp [g_AZ41]
 ·unfold g_VZ41_0
  rw [left_step this h0 h1]
  by_cases h:left - (k.size:Int) < 0
  ·rw [decide_eq_true h,cond_true]
   unfold left_
   rw [if_neg (by omega)]
  ·rw [szIntS_f l hl _ (by omega) (by omega),left_neg _ _ (by omega),left_two]
theorem szStoWriteS_f (l:List (ByteArray×Bool×List Int)) (hl:l.length ≤ maxLen) (hok:∀ w ∈ l,okW w) (left:Int) (h0:0 ≤ left) (h1:left ≤ 1048576):g_AZ32 l left = true ∧ g_VZ32_0 l left = left_ (szL szW l) left := by
 have hm := maxLen_lt hl
 unfold g_AZ32 g_VZ32_0
 rw [left_step hm h0 h1]
 by_cases h:left - (l.length:Int) < 0
 ·rw [decide_eq_true h]
  refine ⟨rfl,?_⟩
  unfold left_ szL
  rw [cond_true,if_neg (by omega)]
 ·rw [decide_eq_false h]
  obtain ⟨r,e1,e2⟩ := loop_sz (step := g_SZ32_0 l) (fun i => szW (at_ (.pair .str (.pair .bool (.sl 3 (.int .i64)))) l i)) l.length (fun i left hi h0 h1 => by
   have k1:(i:Int) < l.length := by omega
   have k2:(0:Int) ≤ (i:Int) := by omega
   have hw:IntKind.wrap .i64 ((i:Int) + 1) = ((i + 1:Nat):Int) := by rw [wrap64 (by omega)]; omega
   have hit := hok _ (at_mem (e := .pair .str (.pair .bool (.sl 3 (.int .i64)))) hi)
   obtain ⟨q1,q2⟩ := szStoWrite_f (at_ (.pair .str (.pair .bool (.sl 3 (.int .i64)))) l i).1 (at_ (.pair .str (.pair .bool (.sl 3 (.int .i64)))) l i).2.1 (at_ (.pair .str (.pair .bool (.sl 3 (.int .i64)))) l i).2.2 hit.1 hit.2.2.1 left h0 h1
   have q2:g_VZ41_0 (at_ (.pair .str (.pair .bool (.sl 3 (.int .i64)))) l i).1 (at_ (.pair .str (.pair .bool (.sl 3 (.int .i64)))) l i).2.1 (at_ (.pair .str (.pair .bool (.sl 3 (.int .i64)))) l i).2.2 left = left_ (szW (at_ (.pair .str (.pair .bool (.sl 3 (.int .i64)))) l i)) left := q2
   simp only [g_SZ32_0,RT.sel,cond_true,k1,k2,hw,decide_true,and_self,Int.toNat_natCast,q1,q2,left_dec _ _ h0]
   by_cases hc:((szW (at_ (.pair .str (.pair .bool (.sl 3 (.int .i64)))) l i):Nat):Int) ≤ left
   ·simp only [decide_eq_true hc,Bool.not_true,cond_false,cond_true,left_val hc]
   ·simp only [decide_eq_false hc,Bool.not_false,cond_true,cond_false]
    simp only [left_,if_neg hc]) (fun left => by simp [g_SZ32_0,RT.sel]) (left - l.length) (by omega) (by omega)
  have e1:g_LZ32_0 l (left - l.length,0) = some r := e1
  rw [e1]
  refine ⟨rfl,?_⟩
  simp only [valO,Option.getD_some,cond_false]
  rw [e2,sumF_sum (e := .pair .str (.pair .bool (.sl 3 (.int .i64))))]
  show _ = left_ (l.length + (l.map szW).sum) left
  rw [← left_two,decide_eq_false h,cond_false]
theorem toStoWriteS_f (l:List (ByteArray×Bool×List Int)) (hl:l.length ≤ 1048576) (hit:∀ w ∈ l,w.2.2.length ≤ 1048576):g_AZ33 l = true ∧ g_VZ33_0 l = l := by
 have h:g_LZ33_0 l (List.replicate (Int.toNat (l.length:Int)) (lit [],false,[]),0) = some (l.map id) := by
  refine loop_map (e := .pair .str (.pair .bool (.sl 3 (.int .i64)))) l id id (fun i r hi hr => ?_) (fun r hr => ?_) _ (by simp)
  ·have k1:(i:Int) < l.length := by omega
   have k2:(0:Int) ≤ (i:Int) := by omega
   have k3:(i:Int) < r.length := by omega
   have k4:i < r.length := by omega
   have hw:IntKind.wrap .i64 ((i:Int) + 1) = ((i + 1:Nat):Int) := by rw [wrap64 (by omega)]; omega
   obtain ⟨q1,q2⟩ := toIntS_f _ (hit _ (at_mem (e := .pair .str (.pair .bool (.sl 3 (.int .i64)))) hi))
   simp only [g_SZ33_0,RT.sel,cond_true,k1,k2,k3,k4,hw,decide_true,and_self,Int.toNat_natCast,id,g_AZ46,q1,q2]
  ·simp [g_SZ33_0,RT.sel]
 rw [List.map_id] at h
 constructor
 ·rw [Int.toNat_natCast] at h; simp [g_AZ33,h,okO]; omega
 ·simp only [g_VZ33_0,h,valO,Option.getD_some]
theorem eqStoWrite_self (k:ByteArray) (d:Bool) (l:List Int) (hl:l.length ≤ 1048576):g_AZ36 k d l k d l = true ∧ g_VZ36_0 k d l k d l = true := by
 obtain ⟨a,b⟩ := eqIntS_self l hl
 simp [g_AZ36,g_VZ36_0,a,b]
theorem eqStoWriteS_self (l:List (ByteArray×Bool×List Int)) (hl:l.length ≤ 1048576) (hit:∀ w ∈ l,w.2.2.length ≤ 1048576):g_AZ31 l l = true ∧ g_VZ31_0 l l = true := by
 have h:g_LZ31_0 l l 0 = some (.inr ()) := by
  have := loop_all (step := g_SZ31_0 l l) (fun i:Nat => (i:Int)) (fun _ => true) (.inl false) (.inr ()) l.length (fun i hi => by
   have k1:(i:Int) < l.length := by omega
   have k2:(0:Int) ≤ (i:Int) := by omega
   have hw:IntKind.wrap .i64 ((i:Int) + 1) = ((i + 1:Nat):Int) := by rw [wrap64 (by omega)]; omega
   obtain ⟨q1,q2⟩ := eqStoWrite_self (at_ (.pair .str (.pair .bool (.sl 3 (.int .i64)))) l i).1 (at_ (.pair .str (.pair .bool (.sl 3 (.int .i64)))) l i).2.1 _ (hit _ (at_mem (e := .pair .str (.pair .bool (.sl 3 (.int .i64)))) hi))
   simp only [g_SZ31_0,RT.sel,cond_true,k1,k2,hw,decide_true,and_self,Int.toNat_natCast,q1,q2,Bool.not_true,cond_false]) (by simp [g_SZ31_0,RT.sel])
  rw [show (List.range l.length).all (fun _ => true) = true by simp] at this
  exact this
 simp [g_AZ31,g_VZ31_0,h,okO,valO,isL]
theorem szLogNote_f (k t:Int) (ls:List ByteArray) (ws:List (ByteArray×Bool×List Int)) (h2:ls.length ≤ maxLen) (h3:∀ s ∈ ls,s.size ≤ maxLen) (h4:ws.length ≤ maxLen) (h5:∀ w ∈ ws,okW w) (left:Int) (h0:0 ≤ left) (h1:left ≤ 1048576) :
  g_AZ59 k t ls ws left = true ∧ g_VZ59_0 k t ls ws left = left_ (szL ByteArray.size ls + szL szW ws) left := by
 obtain ⟨a1,a2⟩ := szStringS_f ls h2 h3 left h0 h1
 unfold g_AZ59 g_VZ59_0
 rw [a1,a2,left_dec _ _ h0]
 by_cases hc:((szL ByteArray.size ls:Nat):Int) ≤ left
 ·rw [decide_eq_true hc,left_val hc]
  obtain ⟨b1,b2⟩ := szStoWriteS_f ws h4 h5 (left - (szL ByteArray.size ls:Nat)) (by omega) (by omega)
  rw [b1,b2,left_neg _ _ (by omega),Bool.not_true,cond_false]
  refine ⟨rfl,?_⟩
  rw [← left_two,decide_eq_false (by omega),cond_false]
 ·rw [decide_eq_false hc]
  refine ⟨rfl,?_⟩
  rw [Bool.not_false,cond_true]
  unfold left_
  rw [if_neg (by omega)]
theorem byte_range (s:ByteArray) (i:Nat):0 ≤ byteAt s i ∧ byteAt s i < 256 := by
 unfold byteAt
 have := (s.data[i]?.getD 0).toNat_lt
 omega
theorem i_in_f (a b c:Int):g_Ai_in a b c = true ∧ g_Vi_in_0 a b c = decide (b ≤ a ∧ a ≤ c) := by
 constructor
 ·simp [g_Ai_in]
 ·unfold g_Vi_in_0
  by_cases h:a ≥ b
  ·simp [h]
  ·simp [h]
theorem s_l1In_f (a b c:Int):g_As_l1In a b c = true ∧ g_Vs_l1In_0 a b c = decide (b ≤ a ∧ a ≤ c) := by
 constructor
 ·simp [g_As_l1In]
 ·unfold g_Vs_l1In_0
  by_cases h:a ≥ b
  ·simp [h]
  ·simp [h]
def dig (b:UInt8):Bool := decide (48 ≤ b.toNat ∧ b.toNat ≤ 57)
def keyP (s:ByteArray):Bool := decide (2 ≤ s.size ∧ s.size ≤ 3)&&(decide (97 ≤ byteAt s 0 ∧ byteAt s 0 ≤ 122)&&(s.data.toList.drop 1).all dig)
def valP (l:List Int):Bool := decide (1 ≤ l.length ∧ l.length ≤ 3)&&l.all fun n => decide (0 ≤ n ∧ n ≤ 9999)
def wrtP (k:ByteArray) (d:Bool) (l:List Int):Bool := keyP k&&bif d then l.isEmpty else valP l
theorem dig_mem (b:UInt8):[48,49,50,51,52,53,54,55,56,57].contains b = dig b := by
 have h:∀ b:Fin 256,[48,49,50,51,52,53,54,55,56,57].contains (UInt8.ofNat b.val) = dig (UInt8.ofNat b.val) := by decide +kernel
 have := h ⟨b.toNat,b.toNat_lt⟩
 simpa using this
theorem i_keyOk_f (s:ByteArray):g_Ai_keyOk s = true ∧ g_Vi_keyOk_0 s = keyP s := by
 have hb := byte_range s 0
 have hw:IntKind.wrap .i64 (byteAt s 0) = byteAt s 0 := wrap64 (by omega)
 have e1:∀ n:Nat,decide ((2:Int) ≤ (n:Int) ∧ (n:Int) ≤ 3) = decide (2 ≤ n ∧ n ≤ 3) := fun n => decide_eq_decide.2 (by omega)
 constructor
 ·simp only [g_Ai_keyOk,(i_in_f _ _ _).1,(i_in_f _ _ _).2,hw,e1]
  by_cases h:2 ≤ s.size ∧ s.size ≤ 3
  ·have h1:(0:Int) < s.size := by omega
   have h2:(1:Int) ≤ s.size := by omega
   have h3:(s.extract 1 s.size).size ≤ 9223372036854775807 := by rw [ByteArray.size_extract]; omega
   have h4:g_ascii (lit [48,49,50,51,52,53,54,55,56,57]) = true := by decide +kernel
   simp only [h,h1,h2,h3,h4,and_self,decide_true,Bool.true_and,Bool.and_true,Bool.not_true,Bool.false_or,Int.le_refl,Bool.or_true,show (0:Int) ≤ 1 from by decide]
  ·simp [h]
 ·simp only [g_Vi_keyOk_0,(i_in_f _ _ _).2,hw,e1,keyP]
  have e2:(ByteArray.toList (g_trim (s.extract 1 s.size) (lit [48,49,50,51,52,53,54,55,56,57])) == []) = (s.data.toList.drop 1).all dig := by
   rw [ByteArray.toList_eq]
   show ((Lib.trimS (s.extract 1 s.size).data.toList [48,49,50,51,52,53,54,55,56,57]) == []) = _
   have e3:(s.extract 1 s.size).data.toList = s.data.toList.drop 1 := by
    simp only [ByteArray.data_extract,Array.toList_extract,List.extract_eq_take_drop]
    rw [List.take_of_length_le (by rw [List.length_drop,Array.length_toList]; exact Nat.le_refl _)]
   rw [e3,Bool.eq_iff_iff,beq_iff_eq]
   refine (trimS_nil (List.drop 1 s.data.toList) [48,49,50,51,52,53,54,55,56,57]).trans ?_
   simp only [dig_mem]
  rw [e2]
  cases decide (2 ≤ s.size ∧ s.size ≤ 3) <;> cases decide (97 ≤ byteAt s 0 ∧ byteAt s 0 ≤ 122) <;> rfl
theorem s_l1Key_loop (s:ByteArray) (hs:s.size < 1000) (h1:1 ≤ s.size):g_Ls_l1Key_0 s 1 = some (bif (s.data.toList.drop 1).all dig then .inr () else .inl false) := by
 have h := loop_all (step := g_Ss_l1Key_0 s) (fun i:Nat => ((i + 1:Nat):Int)) (fun i => dig ((s.data[i + 1]?).getD 0)) (Sum.inl false) (Sum.inr ()) (s.size - 1) (fun i hi => by
   have h1:((i + 1:Nat):Int) < s.size := by omega
   have h2:(0:Int) ≤ ((i + 1:Nat):Int) := by omega
   have hw:IntKind.wrap .i64 (((i + 1:Nat):Int) + 1) = ((i + 1 + 1:Nat):Int) := by rw [wrap64 (by omega)]; omega
   simp only [g_Ss_l1Key_0,RT.sel,cond_true,h1,h2,hw,decide_true,and_self,Int.toNat_natCast]
   have hb:byteAt s (i + 1) = (((s.data[i + 1]?).getD 0).toNat:Int) := rfl
   simp only [hb]
   generalize (s.data[i + 1]?).getD 0 = b
   unfold dig
   by_cases k1:b.toNat < 48
   ·have k2:¬ 48 ≤ b.toNat := by omega
    have k3:(b.toNat:Int) < 48 := by omega
    simp [k2,k3]
   ·have k2:48 ≤ b.toNat := by omega
    have k3:¬ (b.toNat:Int) < 48 := by omega
    by_cases k4:b.toNat ≤ 57
    ·have k5:¬ (b.toNat:Int) > 57 := by omega
     simp [k2,k3,k4,k5,RT.sel]
    ·have k5:(b.toNat:Int) > 57 := by omega
     simp [k2,k3,k4,k5,RT.sel]) (by
   have hn:((s.size - 1 + 1:Nat):Int) = (s.size:Int) := by omega
   simp only [g_Ss_l1Key_0,RT.sel,hn,cond_true,Int.lt_irrefl,decide_false,cond_false])
 unfold g_Ls_l1Key_0
 refine Eq.trans h ?_
 congr 2
 rw [Bool.eq_iff_iff,List.all_eq_true,List.all_eq_true]
 have hsz:s.size = s.data.toList.length := Array.length_toList.symm
 constructor
 ·intro h x hx
  obtain ⟨i,hi,rfl⟩ := List.getElem_of_mem hx
  have hi':i + 1 < s.data.toList.length := by simp at hi ⊢; omega
  have := h i (List.mem_range.2 (by omega))
  have e:(s.data[i + 1]?).getD 0 = s.data.toList[i + 1] := by rw [Array.getElem?_eq_getElem (by simpa using hi')]; simp
  rw [e] at this
  simpa [Nat.add_comm] using this
 ·intro h i hi
  have hi := List.mem_range.1 hi
  have hi':i + 1 < s.data.toList.length := by omega
  have e:(s.data[i + 1]?).getD 0 = s.data.toList[i + 1] := by rw [Array.getElem?_eq_getElem (by simpa using hi')]; simp
  rw [e]
  refine h _ ?_
  rw [List.mem_iff_getElem]
  exact ⟨i,by simp at hi' ⊢; omega,by simp [Nat.add_comm]⟩
theorem s_l1Key_f (s:ByteArray):g_As_l1Key s = true ∧ g_Vs_l1Key_0 s = keyP s := by
 have e1:∀ n:Nat,decide ((2:Int) ≤ (n:Int) ∧ (n:Int) ≤ 3) = decide (2 ≤ n ∧ n ≤ 3) := fun n => decide_eq_decide.2 (by omega)
 by_cases h:2 ≤ s.size ∧ s.size ≤ 3
 ·have h0:(0:Int) < s.size := by omega
  have hl := s_l1Key_loop s (by omega) (by omega)
  constructor
  ·simp only [g_As_l1Key,(s_l1In_f _ _ _).1,(s_l1In_f _ _ _).2,e1,hl,okO,h,h0,Option.isSome_some,and_self,decide_true,Bool.true_and,Bool.or_true,Int.le_refl]
  ·simp only [g_Vs_l1Key_0,(s_l1In_f _ _ _).2,e1,hl,okO,valO,keyP,Option.getD_some]
   by_cases k1:byteAt s 0 < 97
   ·simp [h,k1,show ¬ (97 ≤ byteAt s 0) by omega]
   ·by_cases k2:byteAt s 0 > 122
    ·simp [h,k1,k2,show ¬ (byteAt s 0 ≤ 122) by omega]
    ·simp only [h,k1,k2,show 97 ≤ byteAt s 0 by omega,show byteAt s 0 ≤ 122 by omega]
     cases (s.data.toList.drop 1).all dig <;> rfl
 ·constructor
  ·simp only [g_As_l1Key,(s_l1In_f _ _ _).1,(s_l1In_f _ _ _).2,e1]
   simp [h]
  ·simp only [g_Vs_l1Key_0,(s_l1In_f _ _ _).2,e1,keyP]
   simp [h]
theorem s_l1Val_loop (l:List Int) (hl:l.length ≤ 1048576):g_Ls_l1Val_0 l 0 = some (bif l.all (fun n => decide (0 ≤ n ∧ n ≤ 9999)) then .inr () else .inl false) := by
 refine loop_list (ρ := Bool ⊕ Unit) (e := .int .i64) l (fun i:Nat => (i:Int)) (fun n => decide (0 ≤ n ∧ n ≤ 9999)) (Sum.inl false) (Sum.inr ()) (fun i hi => ?_) ?_
 ·have h1:(i:Int) < l.length := by omega
  have h2:(0:Int) ≤ (i:Int) := by omega
  have hw:IntKind.wrap .i64 ((i:Int) + 1) = ((i + 1:Nat):Int) := by rw [wrap64 (by omega)]; omega
  simp only [g_Ss_l1Val_0,RT.sel,cond_true,h1,h2,hw,decide_true,and_self,Int.toNat_natCast,(s_l1In_f _ _ _).1,(s_l1In_f _ _ _).2]
  cases decide (0 ≤ at_ (.int .i64) l i ∧ at_ (.int .i64) l i ≤ 9999) <;> rfl
 ·simp [g_Ss_l1Val_0,RT.sel]
theorem s_l1Val_f (l:List Int) (hl:l.length ≤ 1048576):g_As_l1Val l = true ∧ g_Vs_l1Val_0 l = valP l := by
 have hk := s_l1Val_loop l hl
 have e1:decide ((1:Int) ≤ (l.length:Int) ∧ (l.length:Int) ≤ 3) = decide (1 ≤ l.length ∧ l.length ≤ 3) := decide_eq_decide.2 (by omega)
 constructor
 ·simp only [g_As_l1Val,hk,okO,valO,(s_l1In_f _ _ _).1]; simp
 ·simp only [g_Vs_l1Val_0,hk,valO,(s_l1In_f _ _ _).2,e1,valP,Option.getD_some]
  cases l.all (fun n => decide (0 ≤ n ∧ n ≤ 9999)) <;> cases decide (1 ≤ l.length ∧ l.length ≤ 3) <;> rfl
theorem i_valOk_1_f (n:Int):g_Ai_valOk_1 n = true ∧ g_Vi_valOk_1_0 n = !decide (0 ≤ n ∧ n ≤ 9999) := ⟨(i_in_f _ _ _).1,congrArg not (i_in_f _ _ _).2⟩
theorem i_valOk_f (l:List Int) (hl:l.length ≤ 1048576):g_Ai_valOk l = true ∧ g_Vi_valOk_0 l = valP l := by
 obtain ⟨r,h1,h2⟩ := loop_idx (e := .int .i64) l (step := g_SZ23_0 l (l.length:Int)) (fun n => !decide (0 ≤ n ∧ n ≤ 9999)) (fun i hi => by
  have h1:(i:Int) < l.length := by omega
  have h2:(0:Int) ≤ (i:Int) := by omega
  have hw:IntKind.wrap .i64 ((i:Int) + 1) = ((i + 1:Nat):Int) := by rw [wrap64 (by omega)]; omega
  simp only [g_SZ23_0,RT.sel,cond_true,h1,h2,hw,decide_true,and_self,Int.toNat_natCast,(i_valOk_1_f _).1,(i_valOk_1_f _).2]) (by simp [g_SZ23_0,RT.sel])
 have h1:g_LZ23_0 l (l.length:Int) 0 = some r := h1
 have e1:decide ((1:Int) ≤ (l.length:Int) ∧ (l.length:Int) ≤ 3) = decide (1 ≤ l.length ∧ l.length ≤ 3) := decide_eq_decide.2 (by omega)
 constructor
 ·simp [g_Ai_valOk,(i_in_f _ _ _).1,g_AZ22,g_AZ23,h1,okO]
 ·simp only [g_Vi_valOk_0,(i_in_f _ _ _).2,e1,g_VZ22_0,g_VZ23_0,h1,valO,Option.getD_some,h2,valP]
  rw [show (l.any fun n => !decide (0 ≤ n ∧ n ≤ 9999)) = !(l.all fun n => decide (0 ≤ n ∧ n ≤ 9999)) by rw [List.not_all_eq_any_not],Bool.not_not]
  cases decide (1 ≤ l.length ∧ l.length ≤ 3) <;> rfl
theorem s_WrtOk_f (k:ByteArray) (d:Bool) (l:List Int) (hl:l.length ≤ 1048576):g_As_WrtOk k d l = true ∧ g_Vs_WrtOk_0 k d l = wrtP k d l := by
 constructor
 ·simp [g_As_WrtOk,(s_l1Key_f _).1,(s_l1Val_f _ hl).1]
 ·simp only [g_Vs_WrtOk_0,(s_l1Key_f _).2,(s_l1Val_f _ hl).2,wrtP]
  cases d <;> cases keyP k <;> cases l <;> simp <;> omega
theorem i_WrtOk_f (k:ByteArray) (d:Bool) (l:List Int) (hl:l.length ≤ 1048576):g_Ai_WrtOk k d l = true ∧ g_Vi_WrtOk_0 k d l = wrtP k d l := by
 constructor
 ·simp [g_Ai_WrtOk,(i_keyOk_f _).1,(i_valOk_f _ hl).1]
 ·simp only [g_Vi_WrtOk_0,(i_keyOk_f _).2,(i_valOk_f _ hl).2,wrtP]
  cases d <;> cases keyP k <;> cases l <;> simp <;> omega
def hasP (ls:List ByteArray) (s:ByteArray):Bool := ls.any fun x => x.toList == s.toList
def noteP (k t:Int) (ls:List ByteArray) (ws:List (ByteArray×Bool×List Int)):Bool :=
 decide (1 ≤ k ∧ k ≤ 4)&&(decide (0 ≤ t ∧ t ≤ 29)&&(decide (ls.length ≤ 12)&&(decide (ws.length ≤ 12)&&(ls.all keyP&&(ws.all (fun w => wrtP w.1 w.2.1 w.2.2&&hasP ls w.1)&&(decide (k = 1) || (ls.isEmpty&&ws.isEmpty)))))))
theorem isTx_f (n:Int):g_Ai_isTx n = true ∧ g_Vi_isTx_0 n = decide (0 ≤ n ∧ n ≤ 29) := i_in_f n 0 29
theorem beq_comm' (a b:List UInt8):(a == b) = (b == a) := by
 rw [Bool.eq_iff_iff,beq_iff_eq,beq_iff_eq]
 exact eq_comm
theorem containsS_f (ls:List ByteArray) (s:ByteArray) (hl:ls.length ≤ 1048576):g_AZ24 ls s = true ∧ g_VZ24_0 ls s = hasP ls s := by
 obtain ⟨r,h1,h2⟩ := loop_idx (e := .str) ls (step := g_SZ25_0 ls s (ls.length:Int)) (fun x => x.toList == s.toList) (fun i hi => by
  have h1:(i:Int) < ls.length := by omega
  have h2:(0:Int) ≤ (i:Int) := by omega
  have hw:IntKind.wrap .i64 ((i:Int) + 1) = ((i + 1:Nat):Int) := by rw [wrap64 (by omega)]; omega
  simp only [g_SZ25_0,RT.sel,cond_true,h1,h2,hw,decide_true,and_self,Int.toNat_natCast,beq_comm' s.toList]) (by simp [g_SZ25_0,RT.sel])
 have h1:g_LZ25_0 ls s (ls.length:Int) 0 = some r := h1
 constructor
 ·simp [g_AZ24,g_AZ25,h1,okO]
 ·simp only [g_VZ24_0,g_VZ25_0,h1,valO,Option.getD_some,h2,hasP]
theorem l2Has_f (ls:List ByteArray) (s:ByteArray) (hl:ls.length ≤ 1048576):g_As_l2Has ls s = true ∧ g_Vs_l2Has_0 ls s = hasP ls s := by
 have h:g_Ls_l2Has_0 ls s 0 = some (bif ls.all (fun x => !(x.toList == s.toList)) then .inr () else .inl true) := by
  refine loop_list (ρ := Bool ⊕ Unit) (e := .str) ls (fun i:Nat => (i:Int)) (fun x => !(x.toList == s.toList)) (Sum.inl true) (Sum.inr ()) (fun i hi => ?_) ?_
  ·have h1:(i:Int) < ls.length := by omega
   have h2:(0:Int) ≤ (i:Int) := by omega
   have hw:IntKind.wrap .i64 ((i:Int) + 1) = ((i + 1:Nat):Int) := by rw [wrap64 (by omega)]; omega
   simp only [g_Ss_l2Has_0,RT.sel,cond_true,h1,h2,hw,decide_true,and_self,Int.toNat_natCast]
   cases (at_ .str ls i).toList == s.toList <;> rfl
  ·simp [g_Ss_l2Has_0,RT.sel]
 constructor
 ·simp [g_As_l2Has,h,okO]
 ·simp only [g_Vs_l2Has_0,h,valO,Option.getD_some,hasP,List.any_eq_not_all_not]
  cases ls.all (fun x => !(x.toList == s.toList)) <;> rfl
theorem anyKey_f (ls:List ByteArray) (hl:ls.length ≤ 1048576):g_AZ15 ls = true ∧ g_VZ15_0 ls = !ls.all keyP := by
 obtain ⟨r,h1,h2⟩ := loop_idx (e := .str) ls (step := g_SZ20_0 ls (ls.length:Int)) (fun x => !keyP x) (fun i hi => by
  have h1:(i:Int) < ls.length := by omega
  have h2:(0:Int) ≤ (i:Int) := by omega
  have hw:IntKind.wrap .i64 ((i:Int) + 1) = ((i + 1:Nat):Int) := by rw [wrap64 (by omega)]; omega
  simp only [g_SZ20_0,RT.sel,cond_true,h1,h2,hw,decide_true,and_self,Int.toNat_natCast,g_AZ68,(i_keyOk_f _).1,(i_keyOk_f _).2]) (by simp [g_SZ20_0,RT.sel])
 have h1:g_LZ20_0 ls (ls.length:Int) 0 = some r := h1
 constructor
 ·simp [g_AZ15,g_AZ20,h1,okO]
 ·simp only [g_VZ15_0,g_VZ20_0,h1,valO,Option.getD_some,h2,List.not_all_eq_any_not]
theorem anyWrite_f (ws:List (ByteArray×Bool×List Int)) (c:Int×Int×List ByteArray×List (ByteArray×Bool×List Int)) (hl:ws.length ≤ 1048576) (hit:∀ w ∈ ws,w.2.2.length ≤ 1048576) (hc:c.2.2.1.length ≤ 1048576) :
  g_AZ6 ws c = true ∧ g_VZ6_0 ws c = !ws.all (fun w => wrtP w.1 w.2.1 w.2.2&&hasP c.2.2.1 w.1) := by
 obtain ⟨r,h1,h2⟩ := loop_idx (e := .pair .str (.pair .bool (.sl 3 (.int .i64)))) ws (step := g_SZ8_0 ws c (ws.length:Int)) (fun w => !(wrtP w.1 w.2.1 w.2.2&&hasP c.2.2.1 w.1)) (fun i hi => by
  have h1:(i:Int) < ws.length := by omega
  have h2:(0:Int) ≤ (i:Int) := by omega
  have hw:IntKind.wrap .i64 ((i:Int) + 1) = ((i + 1:Nat):Int) := by rw [wrap64 (by omega)]; omega
  obtain ⟨q1,q2⟩ := i_WrtOk_f (at_ (.pair .str (.pair .bool (.sl 3 (.int .i64)))) ws i).1 (at_ (.pair .str (.pair .bool (.sl 3 (.int .i64)))) ws i).2.1 _ (hit _ (at_mem (e := .pair .str (.pair .bool (.sl 3 (.int .i64)))) hi))
  simp only [g_SZ8_0,RT.sel,cond_true,h1,h2,hw,decide_true,and_self,Int.toNat_natCast,g_AZ67,g_VZ67_0,q1,q2,(containsS_f _ _ hc).1,(containsS_f _ _ hc).2,Bool.or_true,Bool.and_true]
  generalize wrtP _ _ _ = p
  generalize hasP _ _ = q
  cases p <;> cases q <;> rfl) (by simp [g_SZ8_0,RT.sel])
 have h1:g_LZ8_0 ws c (ws.length:Int) 0 = some r := h1
 constructor
 ·simp [g_AZ6,g_AZ8,h1,okO]
 ·simp only [g_VZ6_0,g_VZ8_0,h1,valO,Option.getD_some,h2,List.not_all_eq_any_not]
theorem i_NoteOk_f (k t:Int) (ls:List ByteArray) (ws:List (ByteArray×Bool×List Int)) (h1:ls.length ≤ 1048576) (h2:ws.length ≤ 1048576) (h3:∀ w ∈ ws,w.2.2.length ≤ 1048576):g_Ai_NoteOk k t ls ws = true ∧ g_Vi_NoteOk_0 k t ls ws = noteP k t ls ws := by
 obtain ⟨a1,a2⟩ := anyKey_f ls h1
 obtain ⟨b1,b2⟩ := anyWrite_f ws (k,t,ls,ws) h2 h3 h1
 constructor
 ·simp [g_Ai_NoteOk,(isTx_f _).1,(i_in_f _ _ _).1,a1,b1]
 ·simp only [g_Vi_NoteOk_0,(isTx_f _).2,(i_in_f _ _ _).2,a2,b2,noteP]
  by_cases e1:k = 1
  ·subst e1
   have e2:decide ((ls.length:Int) > 12) = !decide (ls.length ≤ 12) := by rw [Bool.eq_iff_iff]; simp; omega
   have e3:decide ((ws.length:Int) > 12) = !decide (ws.length ≤ 12) := by rw [Bool.eq_iff_iff]; simp; omega
   simp only [e2,e3]
   generalize decide (0 ≤ t ∧ t ≤ 29) = p1
   generalize decide (ls.length ≤ 12) = p2
   generalize decide (ws.length ≤ 12) = p3
   generalize ls.all keyP = p4
   generalize ws.all _ = p5
   cases p1 <;> cases p2 <;> cases p3 <;> cases p4 <;> cases p5 <;> rfl
  ·have e4:(k != 1) = true := by simpa using e1
   have e5:decide (k = 1) = false := by simpa using e1
   simp only [e4,e5,cond_true,Bool.false_or]
   cases ls with
   | nil =>
    cases ws with
    | nil =>
     generalize decide (0 ≤ t ∧ t ≤ 29) = p1
     generalize decide (1 ≤ k ∧ k ≤ 4) = p2
     cases p1 <;> cases p2 <;> rfl
    | cons w ws =>
     have e6:(((w :: ws).length:Int) == 0) = false := by simp; omega
     simp only [e6,List.isEmpty_cons,Bool.and_false]
     cases decide (0 ≤ t ∧ t ≤ 29) <;> cases decide (1 ≤ k ∧ k ≤ 4) <;> simp
   | cons l ls =>
    have e6:(((l :: ls).length:Int) == 0) = false := by simp; omega
    simp only [e6,List.isEmpty_cons,Bool.and_false,Bool.false_and]
    cases decide (0 ≤ t ∧ t ≤ 29) <;> cases decide (1 ≤ k ∧ k ≤ 4) <;> simp
theorem s_NoteOk_f (k t:Int) (ls:List ByteArray) (ws:List (ByteArray×Bool×List Int)) (h1:ls.length ≤ 1048576) (h2:ws.length ≤ 1048576) (h3:∀ w ∈ ws,w.2.2.length ≤ 1048576):g_As_NoteOk k t ls ws = true ∧ g_Vs_NoteOk_0 k t ls ws = noteP k t ls ws := by
 have l0:g_Ls_NoteOk_0 k t ls ws 0 = some (bif ls.all keyP then .inr () else .inl false) := by
  refine loop_list (ρ := Bool ⊕ Unit) (e := .str) ls (fun i:Nat => (i:Int)) keyP (Sum.inl false) (Sum.inr ()) (fun i hi => ?_) ?_
  ·have k1:(i:Int) < ls.length := by omega
   have k2:(0:Int) ≤ (i:Int) := by omega
   have hw:IntKind.wrap .i64 ((i:Int) + 1) = ((i + 1:Nat):Int) := by rw [wrap64 (by omega)]; omega
   simp only [g_Ss_NoteOk_0,RT.sel,cond_true,k1,k2,hw,decide_true,and_self,Int.toNat_natCast,(s_l1Key_f _).1,(s_l1Key_f _).2]
   cases keyP (at_ .str ls i) <;> rfl
  ·simp [g_Ss_NoteOk_0,RT.sel]
 have l2:g_Ls_NoteOk_2 k t ls ws 0 = some (bif ws.all (fun w => wrtP w.1 w.2.1 w.2.2&&hasP ls w.1) then .inr () else .inl false) := by
  refine loop_list (ρ := Bool ⊕ Unit) (e := .pair .str (.pair .bool (.sl 3 (.int .i64)))) ws (fun i:Nat => (i:Int)) (fun w => wrtP w.1 w.2.1 w.2.2&&hasP ls w.1) (Sum.inl false) (Sum.inr ()) (fun i hi => ?_) ?_
  ·have k1:(i:Int) < ws.length := by omega
   have k2:(0:Int) ≤ (i:Int) := by omega
   have hw:IntKind.wrap .i64 ((i:Int) + 1) = ((i + 1:Nat):Int) := by rw [wrap64 (by omega)]; omega
   obtain ⟨q1,q2⟩ := s_WrtOk_f (at_ (.pair .str (.pair .bool (.sl 3 (.int .i64)))) ws i).1 (at_ (.pair .str (.pair .bool (.sl 3 (.int .i64)))) ws i).2.1 _ (h3 _ (at_mem (e := .pair .str (.pair .bool (.sl 3 (.int .i64)))) hi))
   simp only [g_Ss_NoteOk_2,RT.sel,cond_true,k1,k2,hw,decide_true,and_self,Int.toNat_natCast,q1,q2,(l2Has_f _ _ h1).1,(l2Has_f _ _ h1).2]
   generalize wrtP _ _ _ = p
   generalize hasP _ _ = q
   cases p <;> cases q <;> rfl
  ·simp [g_Ss_NoteOk_2,RT.sel]
 have e2:decide ((ls.length:Int) > 12) = !decide (ls.length ≤ 12) := by rw [Bool.eq_iff_iff]; simp; omega
 have e3:decide ((ws.length:Int) > 12) = !decide (ws.length ≤ 12) := by rw [Bool.eq_iff_iff]; simp; omega
 have e4:(k == 1) = decide (k = 1) := rfl
 have e5:(IntKind.wrap .i64 ((ls.length:Int) + (ws.length:Int)) == 0) = (ls.isEmpty&&ws.isEmpty) := by
  rw [wrap64 (by omega)]
  cases ls <;> cases ws <;> simp <;> omega
 constructor
 ·simp [g_As_NoteOk,(s_l1In_f _ _ _).1,l0,l2,okO]
 ·simp only [g_Vs_NoteOk_0,(s_l1In_f _ _ _).2,l0,l2,valO,Option.getD_some,noteP,e2,e3,e4,e5]
  generalize decide (1 ≤ k ∧ k ≤ 4) = p0
  generalize decide (0 ≤ t ∧ t ≤ 29) = p1
  generalize decide (ls.length ≤ 12) = p2
  generalize decide (ws.length ≤ 12) = p3
  generalize ls.all keyP = p4
  generalize ws.all _ = p5
  generalize decide (k = 1) = p6
  generalize (ls.isEmpty&&ws.isEmpty) = p7
  cases p0 <;> cases p1 <;> cases p2 <;> cases p3 <;> cases p4 <;> cases p5 <;> cases p6 <;> cases p7 <;> rfl
abbrev Note:Type := Int×Int×List ByteArray×List (ByteArray×Bool×List Int)
abbrev NI_:Ty := .pair (.int .i64) (.pair (.int .i64) (.pair (.sl 9 .str) (.sl 155 (.pair .str (.pair .bool (.sl 3 (.int .i64)))))))
def smallN (x:Note):Prop := x.2.2.1.length ≤ 1048576 ∧ x.2.2.2.length ≤ 1048576 ∧ ∀ w ∈ x.2.2.2,w.2.2.length ≤ 1048576
def noteQ (x:Note):Bool := noteP x.1 x.2.1 x.2.2.1 x.2.2.2
def diskP (d:List Note) (safe:Int):Bool := decide (d.length ≤ 120)&&(decide (0 ≤ safe ∧ safe ≤ (d.length:Int))&&d.all noteQ)
theorem s_DiskOk_f (l:List Note) (safe:Int) (hl:l.length ≤ 1048576) (hit:∀ x ∈ l,smallN x):g_As_DiskOk l safe = true ∧ g_Vs_DiskOk_0 l safe = diskP l safe := by
 have h:g_Ls_DiskOk_0 l safe 0 = some (bif l.all noteQ then .inr () else .inl false) := by
  refine loop_list (ρ := Bool ⊕ Unit) (e := NI_) l (fun i:Nat => (i:Int)) noteQ (Sum.inl false) (Sum.inr ()) (fun i hi => ?_) ?_
  ·have k1:(i:Int) < l.length := by omega
   have k2:(0:Int) ≤ (i:Int) := by omega
   have hw:IntKind.wrap .i64 ((i:Int) + 1) = ((i + 1:Nat):Int) := by rw [wrap64 (by omega)]; omega
   have hh := hit _ (at_mem (e := NI_) hi)
   obtain ⟨q1,q2⟩ := s_NoteOk_f (at_ NI_ l i).1 (at_ NI_ l i).2.1 (at_ NI_ l i).2.2.1 (at_ NI_ l i).2.2.2 hh.1 hh.2.1 hh.2.2
   have q2:g_Vs_NoteOk_0 (at_ NI_ l i).1 (at_ NI_ l i).2.1 (at_ NI_ l i).2.2.1 (at_ NI_ l i).2.2.2 = noteQ (at_ NI_ l i) := q2
   simp only [g_Ss_DiskOk_0,RT.sel,cond_true,k1,k2,hw,decide_true,and_self,Int.toNat_natCast,q1,q2]
   generalize noteQ _ = p
   cases p <;> rfl
  ·simp [g_Ss_DiskOk_0,RT.sel]
 have e2:decide ((l.length:Int) > 120) = !decide (l.length ≤ 120) := by rw [Bool.eq_iff_iff]; simp; omega
 constructor
 ·simp [g_As_DiskOk,h,okO,(s_l1In_f _ _ _).1]
 ·simp only [g_Vs_DiskOk_0,h,valO,Option.getD_some,e2,(s_l1In_f _ _ _).2,diskP]
  generalize l.all noteQ = p
  generalize decide (l.length ≤ 120) = q
  generalize decide (0 ≤ safe ∧ safe ≤ (l.length:Int)) = r
  cases p <;> cases q <;> cases r <;> rfl
theorem i_DiskOk_f (l:List Note) (safe:Int) (hl:l.length ≤ 1048576) (hit:∀ x ∈ l,smallN x):g_Ai_DiskOk l safe = true ∧ g_Vi_DiskOk_0 l safe = diskP l safe := by
 obtain ⟨r,h1,h2⟩ := loop_idx (e := NI_) l (step := g_SZ10_0 l (l.length:Int)) (fun x => !noteQ x) (fun i hi => by
  have h1:(i:Int) < l.length := by omega
  have h2:(0:Int) ≤ (i:Int) := by omega
  have hw:IntKind.wrap .i64 ((i:Int) + 1) = ((i + 1:Nat):Int) := by rw [wrap64 (by omega)]; omega
  have hh := hit _ (at_mem (e := NI_) hi)
  obtain ⟨q1,q2⟩ := i_NoteOk_f (at_ NI_ l i).1 (at_ NI_ l i).2.1 (at_ NI_ l i).2.2.1 (at_ NI_ l i).2.2.2 hh.1 hh.2.1 hh.2.2
  have q2:g_Vi_NoteOk_0 (at_ NI_ l i).1 (at_ NI_ l i).2.1 (at_ NI_ l i).2.2.1 (at_ NI_ l i).2.2.2 = noteQ (at_ NI_ l i) := q2
  simp only [g_SZ10_0,RT.sel,cond_true,h1,h2,hw,decide_true,and_self,Int.toNat_natCast,g_AZ69,q1,q2]) (by simp [g_SZ10_0,RT.sel])
 have h1:g_LZ10_0 l (l.length:Int) 0 = some r := h1
 have a1:g_AZ7 l = true := by simp [g_AZ7,g_AZ10,h1,okO]
 have a2:g_VZ7_0 l = !l.all noteQ := by simp only [g_VZ7_0,g_VZ10_0,h1,valO,Option.getD_some,h2,List.not_all_eq_any_not]
 have e2:decide ((l.length:Int) ≤ 120) = decide (l.length ≤ 120) := decide_eq_decide.2 (by omega)
 constructor
 ·simp [g_Ai_DiskOk,a1,(i_in_f _ _ _).1]
 ·simp only [g_Vi_DiskOk_0,a2,e2,(i_in_f _ _ _).2,diskP]
  generalize l.all noteQ = p
  generalize decide (l.length ≤ 120) = q
  generalize decide (0 ≤ safe ∧ safe ≤ (l.length:Int)) = r
  cases p <;> cases q <;> cases r <;> rfl
abbrev NL_:Ty := .pair (.int .i64) (.pair (.int .i64) (.pair (.sl 9 .str) (.sl 196 (.pair .str (.pair .bool (.sl 3 (.int .i64)))))))
def szN (x:Note):Nat := szL ByteArray.size x.2.2.1 + szL szW x.2.2.2
def okN (x:Note):Prop := (Lit.int .i64 x.1).wf = true ∧ (Lit.int .i64 x.2.1).wf = true ∧ (x.2.2.1.length ≤ maxLen ∧ ∀ s ∈ x.2.2.1,s.size ≤ maxLen) ∧ (x.2.2.2.length ≤ maxLen ∧ ∀ w ∈ x.2.2.2,okW w)
theorem small_note {x:Note} {B:Nat} (h:szN x ≤ B) (hB:B ≤ 1048576):smallN x := by
 unfold szN at h
 have b1 := szL_len (z := ByteArray.size) (l := x.2.2.1) (B := B) (by omega)
 have b2 := szL_len (z := szW) (l := x.2.2.2) (B := B) (by omega)
 exact ⟨by omega,by omega,fun w hw => by have := b2.2 w hw; unfold szW at this; omega⟩
theorem szLogNoteS_f (l:List Note) (hl:l.length ≤ maxLen) (hok:∀ w ∈ l,okN w) (left:Int) (h0:0 ≤ left) (h1:left ≤ 1048576):g_AZ42 l left = true ∧ g_VZ42_0 l left = left_ (szL szN l) left := by
 have hm := maxLen_lt hl
 unfold g_AZ42 g_VZ42_0
 rw [left_step hm h0 h1]
 by_cases h:left - (l.length:Int) < 0
 ·rw [decide_eq_true h]
  refine ⟨rfl,?_⟩
  unfold left_ szL
  rw [cond_true,if_neg (by omega)]
 ·rw [decide_eq_false h]
  obtain ⟨r,e1,e2⟩ := loop_sz (step := g_SZ42_0 l) (fun i => szN (at_ NL_ l i)) l.length (fun i left hi h0 h1 => by
   have k1:(i:Int) < l.length := by omega
   have k2:(0:Int) ≤ (i:Int) := by omega
   have hw:IntKind.wrap .i64 ((i:Int) + 1) = ((i + 1:Nat):Int) := by rw [wrap64 (by omega)]; omega
   have hit := hok _ (at_mem (e := NL_) hi)
   obtain ⟨q1,q2⟩ := szLogNote_f (at_ NL_ l i).1 (at_ NL_ l i).2.1 (at_ NL_ l i).2.2.1 (at_ NL_ l i).2.2.2 hit.2.2.1.1 hit.2.2.1.2 hit.2.2.2.1 hit.2.2.2.2 left h0 h1
   have q2:g_VZ59_0 (at_ NL_ l i).1 (at_ NL_ l i).2.1 (at_ NL_ l i).2.2.1 (at_ NL_ l i).2.2.2 left = left_ (szN (at_ NL_ l i)) left := q2
   simp only [g_SZ42_0,RT.sel,cond_true,k1,k2,hw,decide_true,and_self,Int.toNat_natCast,q1,q2,left_dec _ _ h0]
   by_cases hc:((szN (at_ NL_ l i):Nat):Int) ≤ left
   ·simp only [decide_eq_true hc,Bool.not_true,cond_false,cond_true,left_val hc]
   ·simp only [decide_eq_false hc,Bool.not_false,cond_true,cond_false]
    simp only [left_,if_neg hc]) (fun left => by simp [g_SZ42_0,RT.sel]) (left - l.length) (by omega) (by omega)
  have e1:g_LZ42_0 l (left - l.length,0) = some r := e1
  rw [e1]
  refine ⟨rfl,?_⟩
  simp only [valO,Option.getD_some,cond_false]
  rw [e2,sumF_sum (e := NL_)]
  show _ = left_ (l.length + (l.map szN).sum) left
  rw [← left_two,decide_eq_false h,cond_false]
theorem szLogDisk_f (l:List Note) (safe:Int) (hl:l.length ≤ maxLen) (hok:∀ w ∈ l,okN w) (left:Int) (h0:0 ≤ left) (h1:left ≤ 1048576):g_AZ60 l safe left = true ∧ g_VZ60_0 l safe left = left_ (szL szN l) left := by
 obtain ⟨a,b⟩ := szLogNoteS_f l hl hok left h0 h1
 simp only [g_AZ60,g_VZ60_0,a,b,left_neg _ _ h0,Bool.and_true,and_self]
theorem toLogNoteS_f (l:List Note) (hl:l.length ≤ 1048576) (hit:∀ x ∈ l,smallN x):g_AZ47 l = true ∧ g_VZ47_0 l = l := by
 have h:g_LZ47_0 l (List.replicate (Int.toNat (l.length:Int)) (0,0,[],[]),0) = some (l.map id) := by
  refine loop_map (e := NL_) l id id (fun i r hi hr => ?_) (fun r hr => ?_) _ (by simp)
  ·have k1:(i:Int) < l.length := by omega
   have k2:(0:Int) ≤ (i:Int) := by omega
   have k3:(i:Int) < r.length := by omega
   have k4:i < r.length := by omega
   have hw:IntKind.wrap .i64 ((i:Int) + 1) = ((i + 1:Nat):Int) := by rw [wrap64 (by omega)]; omega
   have hh := hit _ (at_mem (e := NL_) hi)
   obtain ⟨q1,q2⟩ := toStringS_f _ hh.1
   obtain ⟨q3,q4⟩ := toStoWriteS_f _ hh.2.1 hh.2.2
   simp only [g_SZ47_0,RT.sel,cond_true,k1,k2,k3,k4,hw,decide_true,and_self,Int.toNat_natCast,id,g_AZ64,q1,q2,q3,q4,Bool.and_self]
  ·simp [g_SZ47_0,RT.sel]
 rw [List.map_id] at h
 constructor
 ·rw [Int.toNat_natCast] at h; simp [g_AZ47,h,okO]; omega
 ·simp only [g_VZ47_0,h,valO,Option.getD_some]
theorem eqLogNote_self (x:Note) (h:smallN x):g_AZ54 x.1 x.2.1 x.2.2.1 x.2.2.2 x.1 x.2.1 x.2.2.1 x.2.2.2 = true ∧ g_VZ54_0 x.1 x.2.1 x.2.2.1 x.2.2.2 x.1 x.2.1 x.2.2.1 x.2.2.2 = true := by
 obtain ⟨p1,p2⟩ := eqStringS_self x.2.2.1 h.1
 obtain ⟨q1,q2⟩ := eqStoWriteS_self x.2.2.2 h.2.1 h.2.2
 simp [g_AZ54,g_VZ54_0,p1,p2,q1,q2]
theorem eqLogNoteS_self (l:List Note) (hl:l.length ≤ 1048576) (hit:∀ x ∈ l,smallN x):g_AZ37 l l = true ∧ g_VZ37_0 l l = true := by
 have h:g_LZ37_0 l l 0 = some (.inr ()) := by
  have := loop_all (step := g_SZ37_0 l l) (fun i:Nat => (i:Int)) (fun _ => true) (.inl false) (.inr ()) l.length (fun i hi => by
   have k1:(i:Int) < l.length := by omega
   have k2:(0:Int) ≤ (i:Int) := by omega
   have hw:IntKind.wrap .i64 ((i:Int) + 1) = ((i + 1:Nat):Int) := by rw [wrap64 (by omega)]; omega
   obtain ⟨q1,q2⟩ := eqLogNote_self _ (hit _ (at_mem (e := NI_) hi))
   simp only [g_SZ37_0,RT.sel,cond_true,k1,k2,hw,decide_true,and_self,Int.toNat_natCast,q1,q2,Bool.not_true,cond_false]) (by simp [g_SZ37_0,RT.sel])
  rw [show (List.range l.length).all (fun _ => true) = true by simp] at this
  exact this
 simp [g_AZ37,g_VZ37_0,h,okO,valO,isL]
theorem eqLogDisk_self (l:List Note) (safe:Int) (hl:l.length ≤ 1048576) (hit:∀ x ∈ l,smallN x):g_AZ55 l safe l safe = true ∧ g_VZ55_0 l safe l safe = true := by
 obtain ⟨a,b⟩ := eqLogNoteS_self l hl hit
 simp [g_AZ55,g_VZ55_0,a,b]
theorem small_disk {l:List Note} {B:Nat} (h:szL szN l ≤ B) (hB:B ≤ 1048576):l.length ≤ B ∧ ∀ x ∈ l,smallN x := by
 have := szL_len h
 exact ⟨this.1,fun x hx => small_note (this.2 x hx) hB⟩
abbrev OP_:Ty := .pair (.int .i64) (.pair (.int .i64) (.pair (.int .i64) (.pair (.int .i64) (.pair (.int .i64) (.pair (.int .i64) (.int .i64))))))
abbrev Op_:Type := Int×Int×Int×Int×Int×Int×Int
abbrev FT_:Ty := .pair (.int .i64) (.pair OP_ (.pair .bool (.pair (.sl 3 (.int .i64)) (.sl 3 (.int .i64)))))
abbrev FTx:Type := Int×Op_×Bool×List Int×List Int
def okZ (n:Int):Prop := (Lit.int .i64 n).wf = true
def okOp (o:Op_):Prop := okZ o.1 ∧ okZ o.2.1 ∧ okZ o.2.2.1 ∧ okZ o.2.2.2.1 ∧ okZ o.2.2.2.2.1 ∧ okZ o.2.2.2.2.2.1 ∧ okZ o.2.2.2.2.2.2
def okT (x:FTx):Prop := okZ x.1 ∧ okOp x.2.1 ∧ True ∧ (x.2.2.2.1.length ≤ maxLen ∧ ∀ n ∈ x.2.2.2.1,okZ n) ∧ (x.2.2.2.2.length ≤ maxLen ∧ ∀ n ∈ x.2.2.2.2,okZ n)
def szT (x:FTx):Nat := x.2.2.2.1.length + x.2.2.2.2.length
def smallT (x:FTx):Prop := x.2.2.2.1.length ≤ 1048576 ∧ x.2.2.2.2.length ≤ 1048576
theorem szFroTx_f (t k w i c s f g:Int) (y:Bool) (p q:List Int) (hp:p.length ≤ maxLen) (hq:q.length ≤ maxLen) (left:Int) (h0:0 ≤ left) (h1:left ≤ 1048576) :
  g_Aw_szFroTx t k w i c s f g y p q left = true ∧ g_Vw_szFroTx_0 t k w i c s f g y p q left = left_ (p.length + q.length) left := by
 constructor
 ·simp [g_Aw_szFroTx]
 ·unfold g_Vw_szFroTx_0
  rw [szIntS_f p hp _ h0 h1,left_dec _ _ h0]
  by_cases hc:((p.length:Nat):Int) ≤ left
  ·rw [decide_eq_true hc,left_val hc,szIntS_f q hq _ (by omega) (by omega),left_neg _ _ (by omega),Bool.not_true,cond_false,← left_two,decide_eq_false (by omega),cond_false]
  ·rw [decide_eq_false hc,Bool.not_false,cond_true]
   unfold left_
   rw [if_neg (by omega)]
theorem szFroTxS_f (l:List FTx) (hl:l.length ≤ maxLen) (hok:∀ w ∈ l,okT w) (left:Int) (h0:0 ≤ left) (h1:left ≤ 1048576):g_AZ76 l left = true ∧ g_VZ76_0 l left = left_ (szL szT l) left := by
 have hm := maxLen_lt hl
 unfold g_AZ76 g_VZ76_0
 rw [left_step hm h0 h1]
 by_cases h:left - (l.length:Int) < 0
 ·rw [decide_eq_true h]
  refine ⟨rfl,?_⟩
  unfold left_ szL
  rw [cond_true,if_neg (by omega)]
 ·rw [decide_eq_false h]
  obtain ⟨r,e1,e2⟩ := loop_sz (step := g_SZ76_0 l) (fun i => szT (at_ FT_ l i)) l.length (fun i left hi h0 h1 => by
   have k1:(i:Int) < l.length := by omega
   have k2:(0:Int) ≤ (i:Int) := by omega
   have hw:IntKind.wrap .i64 ((i:Int) + 1) = ((i + 1:Nat):Int) := by rw [wrap64 (by omega)]; omega
   have hit := hok _ (at_mem (e := FT_) hi)
   obtain ⟨q1,q2⟩ := szFroTx_f (at_ FT_ l i).1 (at_ FT_ l i).2.1.1 (at_ FT_ l i).2.1.2.1 (at_ FT_ l i).2.1.2.2.1 (at_ FT_ l i).2.1.2.2.2.1 (at_ FT_ l i).2.1.2.2.2.2.1 (at_ FT_ l i).2.1.2.2.2.2.2.1 (at_ FT_ l i).2.1.2.2.2.2.2.2 (at_ FT_ l i).2.2.1 (at_ FT_ l i).2.2.2.1 (at_ FT_ l i).2.2.2.2 hit.2.2.2.1.1 hit.2.2.2.2.1 left h0 h1
   have q2:g_Vw_szFroTx_0 (at_ FT_ l i).1 (at_ FT_ l i).2.1.1 (at_ FT_ l i).2.1.2.1 (at_ FT_ l i).2.1.2.2.1 (at_ FT_ l i).2.1.2.2.2.1 (at_ FT_ l i).2.1.2.2.2.2.1 (at_ FT_ l i).2.1.2.2.2.2.2.1 (at_ FT_ l i).2.1.2.2.2.2.2.2 (at_ FT_ l i).2.2.1 (at_ FT_ l i).2.2.2.1 (at_ FT_ l i).2.2.2.2 left = left_ (szT (at_ FT_ l i)) left := q2
   simp only [g_SZ76_0,RT.sel,cond_true,k1,k2,hw,decide_true,and_self,Int.toNat_natCast,q1,q2,left_dec _ _ h0]
   by_cases hc:((szT (at_ FT_ l i):Nat):Int) ≤ left
   ·simp only [decide_eq_true hc,Bool.not_true,cond_false,cond_true,left_val hc]
   ·simp only [decide_eq_false hc,Bool.not_false,cond_true,cond_false]
    simp only [left_,if_neg hc]) (fun left => by simp [g_SZ76_0,RT.sel]) (left - l.length) (by omega) (by omega)
  have e1:g_LZ76_0 l (left - l.length,0) = some r := e1
  rw [e1]
  refine ⟨rfl,?_⟩
  simp only [valO,Option.getD_some,cond_false]
  rw [e2,sumF_sum (e := FT_)]
  show _ = left_ (l.length + (l.map szT).sum) left
  rw [← left_two,decide_eq_false h,cond_false]
def szF (l:List Note) (w:List FTx):Nat := szL szN l + szL szT w
theorem szFroState_f (l:List Note) (safe:Int) (w:List FTx) (h1:l.length ≤ maxLen) (h2:∀ n ∈ l,okN n) (h3:w.length ≤ maxLen) (h4:∀ x ∈ w,okT x) (left:Int) (h0:0 ≤ left) (hl:left ≤ 1048576) :
  g_AZ43 l safe w left = true ∧ g_VZ43_0 l safe w left = left_ (szF l w) left := by
 obtain ⟨a1,a2⟩ := szLogDisk_f l safe h1 h2 left h0 hl
 unfold g_AZ43 g_VZ43_0
 rw [a1,a2,left_dec _ _ h0]
 by_cases hc:((szL szN l:Nat):Int) ≤ left
 ·rw [decide_eq_true hc,left_val hc]
  obtain ⟨b1,b2⟩ := szFroTxS_f w h3 h4 (left - (szL szN l:Nat)) (by omega) (by omega)
  rw [b1,b2,left_neg _ _ (by omega),Bool.not_true,cond_false]
  refine ⟨rfl,?_⟩
  unfold szF
  rw [← left_two,decide_eq_false (by omega),cond_false]
 ·rw [decide_eq_false hc]
  refine ⟨rfl,?_⟩
  rw [Bool.not_false,cond_true]
  unfold left_ szF
  rw [if_neg (by omega)]
theorem small_tx {x:FTx} {B:Nat} (h:szT x ≤ B) (hB:B ≤ 1048576):smallT x := by
 unfold szT at h
 exact ⟨by omega,by omega⟩
theorem small_way {w:List FTx} {B:Nat} (h:szL szT w ≤ B) (hB:B ≤ 1048576):w.length ≤ B ∧ ∀ x ∈ w,smallT x := by
 have := szL_len h
 exact ⟨this.1,fun x hx => small_tx (this.2 x hx) hB⟩
theorem toFroTxS_f (l:List FTx) (hl:l.length ≤ 1048576) (hit:∀ x ∈ l,smallT x):g_AZ78 l = true ∧ g_VZ78_0 l = l := by
 have h:g_LZ78_0 l (List.replicate (Int.toNat (l.length:Int)) (0,(0,0,0,0,0,0,0),false,[],[]),0) = some (l.map id) := by
  refine loop_map (e := FT_) l id id (fun i r hi hr => ?_) (fun r hr => ?_) _ (by simp)
  ·have k1:(i:Int) < l.length := by omega
   have k2:(0:Int) ≤ (i:Int) := by omega
   have k3:(i:Int) < r.length := by omega
   have k4:i < r.length := by omega
   have hw:IntKind.wrap .i64 ((i:Int) + 1) = ((i + 1:Nat):Int) := by rw [wrap64 (by omega)]; omega
   have hh := hit _ (at_mem (e := FT_) hi)
   obtain ⟨q1,q2⟩ := toIntS_f _ hh.1
   obtain ⟨q3,q4⟩ := toIntS_f _ hh.2
   simp only [g_SZ78_0,RT.sel,cond_true,k1,k2,k3,k4,hw,decide_true,and_self,Int.toNat_natCast,id,g_Aw_toFroTx,q1,q2,q3,q4,Bool.and_self]
  ·simp [g_SZ78_0,RT.sel]
 rw [List.map_id] at h
 constructor
 ·rw [Int.toNat_natCast] at h; simp [g_AZ78,h,okO]; omega
 ·simp only [g_VZ78_0,h,valO,Option.getD_some]
theorem eqFroTx_self (x:FTx) (h:smallT x):g_Aw_eqFroTx x.1 x.2.1.1 x.2.1.2.1 x.2.1.2.2.1 x.2.1.2.2.2.1 x.2.1.2.2.2.2.1 x.2.1.2.2.2.2.2.1 x.2.1.2.2.2.2.2.2 x.2.2.1 x.2.2.2.1 x.2.2.2.2 x.1 x.2.1.1 x.2.1.2.1 x.2.1.2.2.1 x.2.1.2.2.2.1 x.2.1.2.2.2.2.1 x.2.1.2.2.2.2.2.1 x.2.1.2.2.2.2.2.2 x.2.2.1 x.2.2.2.1 x.2.2.2.2 = true ∧
  g_Vw_eqFroTx_0 x.1 x.2.1.1 x.2.1.2.1 x.2.1.2.2.1 x.2.1.2.2.2.1 x.2.1.2.2.2.2.1 x.2.1.2.2.2.2.2.1 x.2.1.2.2.2.2.2.2 x.2.2.1 x.2.2.2.1 x.2.2.2.2 x.1 x.2.1.1 x.2.1.2.1 x.2.1.2.2.1 x.2.1.2.2.2.1 x.2.1.2.2.2.2.1 x.2.1.2.2.2.2.2.1 x.2.1.2.2.2.2.2.2 x.2.2.1 x.2.2.2.1 x.2.2.2.2 = true := by
 obtain ⟨p1,p2⟩ := eqIntS_self x.2.2.2.1 h.1
 obtain ⟨q1,q2⟩ := eqIntS_self x.2.2.2.2 h.2
 simp [g_Aw_eqFroTx,g_Vw_eqFroTx_0,g_Aw_eqOpOp,g_Vw_eqOpOp_0,p1,p2,q1,q2]
theorem eqFroTxS_self (l:List FTx) (hl:l.length ≤ 1048576) (hit:∀ x ∈ l,smallT x):g_AZ74 l l = true ∧ g_VZ74_0 l l = true := by
 have h:g_LZ74_0 l l 0 = some (.inr ()) := by
  have := loop_all (step := g_SZ74_0 l l) (fun i:Nat => (i:Int)) (fun _ => true) (.inl false) (.inr ()) l.length (fun i hi => by
   have k1:(i:Int) < l.length := by omega
   have k2:(0:Int) ≤ (i:Int) := by omega
   have hw:IntKind.wrap .i64 ((i:Int) + 1) = ((i + 1:Nat):Int) := by rw [wrap64 (by omega)]; omega
   obtain ⟨q1,q2⟩ := eqFroTx_self _ (hit _ (at_mem (e := FT_) hi))
   simp only [g_SZ74_0,RT.sel,cond_true,k1,k2,hw,decide_true,and_self,Int.toNat_natCast,q1,q2,Bool.not_true,cond_false]) (by simp [g_SZ74_0,RT.sel])
  rw [show (List.range l.length).all (fun _ => true) = true by simp] at this
  exact this
 simp [g_AZ74,g_VZ74_0,h,okO,valO,isL]
theorem eqFroState_self (l:List Note) (safe:Int) (w:List FTx) (hl:l.length ≤ 1048576) (hit:∀ x ∈ l,smallN x) (hw:w.length ≤ 1048576) (hiw:∀ x ∈ w,smallT x):g_AZ38 l safe w l safe w = true ∧ g_VZ38_0 l safe w l safe w = true := by
 obtain ⟨a,b⟩ := eqLogDisk_self l safe hl hit
 obtain ⟨c,d⟩ := eqFroTxS_self w hw hiw
 simp [g_AZ38,g_VZ38_0,a,b,c,d]
theorem small_front {l:List Note} {w:List FTx} {B:Nat} (h:szF l w ≤ B) (hB:B ≤ 1048576):(l.length ≤ 1048576 ∧ ∀ x ∈ l,smallN x) ∧ w.length ≤ 1048576 ∧ ∀ x ∈ w,smallT x := by
 unfold szF at h
 have a := small_disk (l := l) (B := B) (by omega) hB
 have b := small_way (w := w) (B := B) (by omega) hB
 exact ⟨⟨by omega,a.2⟩,by omega,b.2⟩
abbrev Msg:Type := Int×Int×Int×Int×Int×Int×Int×Int×Int×Int×Int
abbrev MI_:Ty := .pair (.int .i64) (.pair (.int .i64) (.pair (.int .i64) (.pair (.int .i64) (.pair (.int .i64) (.pair (.int .i64) (.pair (.int .i64) (.pair (.int .i64) (.pair (.int .i64) (.pair (.int .i64) (.int .i64))))))))))
theorem isService_f (n:Int):g_AZ51 n = true ∧ g_VZ51_0 n = decide (1 ≤ n ∧ n ≤ 3) := i_in_f n 1 3
abbrev Disk:Type := List Note×Int
abbrev DL_:Ty := .pair (.sl 169 NL_) (.int .i64)
abbrev DI_:Ty := .pair (.sl 92 NI_) (.int .i64)
abbrev QI_:Ty := .pair (.int .i64) .bool
abbrev Out_:Type := Int×Bool
def szD (x:Disk):Nat := szL szN x.1
def okD (x:Disk):Prop := (x.1.length ≤ maxLen ∧ ∀ n ∈ x.1,okN n) ∧ okZ x.2
def smallD (x:Disk):Prop := x.1.length ≤ 1048576 ∧ ∀ n ∈ x.1,smallN n
theorem left_one {n:Nat} (h:n ≤ maxLen) (left:Int) (h0:0 ≤ left) (h1:left ≤ 1048576):(bif decide (IntKind.wrap .i64 (left - (n:Int)) < 0) then (-1:Int) else IntKind.wrap .i64 (left - (n:Int))) = left_ n left := by
 have := maxLen_lt h
 unfold left_
 rw [left_step this h0 h1]
 by_cases h:left - (n:Int) < 0
 ·rw [decide_eq_true h,cond_true,if_neg (by omega)]
 ·rw [decide_eq_false h,cond_false,if_pos (by omega)]
theorem szLogDiskS_f (l:List Disk) (hl:l.length ≤ maxLen) (hok:∀ w ∈ l,okD w) (left:Int) (h0:0 ≤ left) (h1:left ≤ 1048576):g_AZ44 l left = true ∧ g_VZ44_0 l left = left_ (szL szD l) left := by
 have hm := maxLen_lt hl
 unfold g_AZ44 g_VZ44_0
 rw [left_step hm h0 h1]
 by_cases h:left - (l.length:Int) < 0
 ·rw [decide_eq_true h]
  refine ⟨rfl,?_⟩
  unfold left_ szL
  rw [cond_true,if_neg (by omega)]
 ·rw [decide_eq_false h]
  obtain ⟨r,e1,e2⟩ := loop_sz (step := g_SZ44_0 l) (fun i => szD (at_ DL_ l i)) l.length (fun i left hi h0 h1 => by
   have k1:(i:Int) < l.length := by omega
   have k2:(0:Int) ≤ (i:Int) := by omega
   have hw:IntKind.wrap .i64 ((i:Int) + 1) = ((i + 1:Nat):Int) := by rw [wrap64 (by omega)]; omega
   have hit := hok _ (at_mem (e := DL_) hi)
   obtain ⟨q1,q2⟩ := szLogDisk_f (at_ DL_ l i).1 (at_ DL_ l i).2 hit.1.1 hit.1.2 left h0 h1
   have q2:g_VZ60_0 (at_ DL_ l i).1 (at_ DL_ l i).2 left = left_ (szD (at_ DL_ l i)) left := q2
   simp only [g_SZ44_0,RT.sel,cond_true,k1,k2,hw,decide_true,and_self,Int.toNat_natCast,q1,q2,left_dec _ _ h0]
   by_cases hc:((szD (at_ DL_ l i):Nat):Int) ≤ left
   ·simp only [decide_eq_true hc,Bool.not_true,cond_false,cond_true,left_val hc]
   ·simp only [decide_eq_false hc,Bool.not_false,cond_true,cond_false]
    simp only [left_,if_neg hc]) (fun left => by simp [g_SZ44_0,RT.sel]) (left - l.length) (by omega) (by omega)
  have e1:g_LZ44_0 l (left - l.length,0) = some r := e1
  rw [e1]
  refine ⟨rfl,?_⟩
  simp only [valO,Option.getD_some,cond_false]
  rw [e2,sumF_sum (e := DL_)]
  show _ = left_ (l.length + (l.map szD).sum) left
  rw [← left_two,decide_eq_false h,cond_false]
def szA (l:List Note) (w:List FTx) (d:List Disk) (m:List Msg) (o:List Op_) (q:List Out_):Nat := szF l w + (szL szD d + (m.length + (o.length + q.length)))
theorem left_next {a b:Nat} {left:Int} (h0:0 ≤ left) (v:Int) (hv:(a:Int) ≤ left → v = left_ b (left - a)):(bif decide (left_ a left < 0) then (-1:Int) else v) = left_ (a + b) left := by
 rw [left_dec _ _ h0]
 by_cases hc:(a:Int) ≤ left
 ·rw [decide_eq_true hc,hv hc,Bool.not_true,cond_false,← left_two,decide_eq_false (by omega),cond_false]
 ·rw [decide_eq_false hc,Bool.not_false,cond_true]
  unfold left_
  rw [if_neg (by omega)]
theorem szWldWorld_f (l:List Note) (safe:Int) (w:List FTx) (d:List Disk) (m:List Msg) (o:List Op_) (q:List Out_) (h1:l.length ≤ maxLen) (h2:∀ n ∈ l,okN n) (h3:w.length ≤ maxLen) (h4:∀ x ∈ w,okT x) (h5:d.length ≤ maxLen) (h6:∀ x ∈ d,okD x)
  (h7:m.length ≤ maxLen) (h8:o.length ≤ maxLen) (h9:q.length ≤ maxLen) (left:Int) (h0:0 ≤ left) (hl:left ≤ 1048576) :
  g_AZ45 l safe w d m o q left = true ∧ g_VZ45_0 l safe w d m o q left = left_ (szA l w d m o q) left := by
 obtain ⟨a1,a2⟩ := szFroState_f l safe w h1 h2 h3 h4 left h0 hl
 unfold g_AZ45 g_VZ45_0
 rw [a1,a2]
 constructor
 ·rw [left_dec _ _ h0]
  by_cases hc:((szF l w:Nat):Int) ≤ left
  ·rw [left_val hc]
   obtain ⟨b1,b2⟩ := szLogDiskS_f d h5 h6 (left - (szF l w:Nat)) (by omega) (by omega)
   rw [b1]; simp
  ·rw [decide_eq_false hc]; rfl
 ·unfold szA
  refine left_next h0 _ (fun hc => ?_)
  rw [left_val hc]
  obtain ⟨b1,b2⟩ := szLogDiskS_f d h5 h6 (left - (szF l w:Nat)) (by omega) (by omega)
  rw [b2]
  refine left_next (by omega) _ (fun hc2 => ?_)
  rw [left_val hc2]
  have m2:g_VZ61_0 m (left - (szF l w:Nat) - (szL szD d:Nat)) = left_ m.length (left - (szF l w:Nat) - (szL szD d:Nat)) := left_one h7 _ (by omega) (by omega)
  rw [m2]
  refine left_next (by omega) _ (fun hc3 => ?_)
  rw [left_val hc3]
  have o2:g_Vw_szOpOpS_0 o (left - (szF l w:Nat) - (szL szD d:Nat) - (m.length:Nat)) = left_ o.length (left - (szF l w:Nat) - (szL szD d:Nat) - (m.length:Nat)) := left_one h8 _ (by omega) (by omega)
  rw [o2]
  refine left_next (by omega) _ (fun hc4 => ?_)
  rw [left_val hc4]
  have q2:g_VZ57_0 q (left - (szF l w:Nat) - (szL szD d:Nat) - (m.length:Nat) - (o.length:Nat)) = left_ q.length (left - (szF l w:Nat) - (szL szD d:Nat) - (m.length:Nat) - (o.length:Nat)) := left_one h9 _ (by omega) (by omega)
  rw [q2,left_neg _ _ (by omega)]
theorem toLogDiskS_f (l:List Disk) (hl:l.length ≤ 1048576) (hit:∀ x ∈ l,smallD x):g_AZ49 l = true ∧ g_VZ49_0 l = l := by
 have h:g_LZ49_0 l (List.replicate (Int.toNat (l.length:Int)) ([],0),0) = some (l.map id) := by
  refine loop_map (e := DL_) l id id (fun i r hi hr => ?_) (fun r hr => ?_) _ (by simp)
  ·have k1:(i:Int) < l.length := by omega
   have k2:(0:Int) ≤ (i:Int) := by omega
   have k3:(i:Int) < r.length := by omega
   have k4:i < r.length := by omega
   have hw:IntKind.wrap .i64 ((i:Int) + 1) = ((i + 1:Nat):Int) := by rw [wrap64 (by omega)]; omega
   have hh := hit _ (at_mem (e := DL_) hi)
   obtain ⟨q1,q2⟩ := toLogNoteS_f _ hh.1 hh.2
   simp only [g_SZ49_0,RT.sel,cond_true,k1,k2,k3,k4,hw,decide_true,and_self,Int.toNat_natCast,id,g_AZ65,q1,q2,Bool.and_self]
  ·simp [g_SZ49_0,RT.sel]
 rw [List.map_id] at h
 constructor
 ·rw [Int.toNat_natCast] at h; simp [g_AZ49,h,okO]; omega
 ·simp only [g_VZ49_0,h,valO,Option.getD_some]
theorem toMsgMsgS_f (l:List Msg) (hl:l.length ≤ 1048576):g_AZ66 l = true ∧ g_VZ66_0 l = l := by
 have h:g_LZ66_0 l (List.replicate (Int.toNat (l.length:Int)) (0,0,0,0,0,0,0,0,0,0,0),0) = some (l.map id) := by
  refine loop_map (e := MI_) l id id (fun i r hi hr => ?_) (fun r hr => ?_) _ (by simp)
  ·have k1:(i:Int) < l.length := by omega
   have k2:(0:Int) ≤ (i:Int) := by omega
   have k3:(i:Int) < r.length := by omega
   have k4:i < r.length := by omega
   have hw:IntKind.wrap .i64 ((i:Int) + 1) = ((i + 1:Nat):Int) := by rw [wrap64 (by omega)]; omega
   simp only [g_SZ66_0,RT.sel,cond_true,k1,k2,k3,k4,hw,decide_true,and_self,Int.toNat_natCast,id]
  ·simp [g_SZ66_0,RT.sel]
 rw [List.map_id] at h
 constructor
 ·rw [Int.toNat_natCast] at h; simp [g_AZ66,h,okO]; omega
 ·simp only [g_VZ66_0,h,valO,Option.getD_some]
theorem toOpOpS_f (l:List Op_) (hl:l.length ≤ 1048576):g_Aw_toOpOpS l = true ∧ g_Vw_toOpOpS_0 l = l := by
 have h:g_Lw_toOpOpS_0 l (List.replicate (Int.toNat (l.length:Int)) (0,0,0,0,0,0,0),0) = some (l.map id) := by
  refine loop_map (e := OP_) l id id (fun i r hi hr => ?_) (fun r hr => ?_) _ (by simp)
  ·have k1:(i:Int) < l.length := by omega
   have k2:(0:Int) ≤ (i:Int) := by omega
   have k3:(i:Int) < r.length := by omega
   have k4:i < r.length := by omega
   have hw:IntKind.wrap .i64 ((i:Int) + 1) = ((i + 1:Nat):Int) := by rw [wrap64 (by omega)]; omega
   simp only [g_Sw_toOpOpS_0,RT.sel,cond_true,k1,k2,k3,k4,hw,decide_true,and_self,Int.toNat_natCast,id]
  ·simp [g_Sw_toOpOpS_0,RT.sel]
 rw [List.map_id] at h
 constructor
 ·rw [Int.toNat_natCast] at h; simp [g_Aw_toOpOpS,h,okO]; omega
 ·simp only [g_Vw_toOpOpS_0,h,valO,Option.getD_some]
theorem toFroOutS_f (l:List Out_) (hl:l.length ≤ 1048576):g_AZ62 l = true ∧ g_VZ62_0 l = l := by
 have h:g_LZ62_0 l (List.replicate (Int.toNat (l.length:Int)) (0,false),0) = some (l.map id) := by
  refine loop_map (e := QI_) l id id (fun i r hi hr => ?_) (fun r hr => ?_) _ (by simp)
  ·have k1:(i:Int) < l.length := by omega
   have k2:(0:Int) ≤ (i:Int) := by omega
   have k3:(i:Int) < r.length := by omega
   have k4:i < r.length := by omega
   have hw:IntKind.wrap .i64 ((i:Int) + 1) = ((i + 1:Nat):Int) := by rw [wrap64 (by omega)]; omega
   simp only [g_SZ62_0,RT.sel,cond_true,k1,k2,k3,k4,hw,decide_true,and_self,Int.toNat_natCast,id]
  ·simp [g_SZ62_0,RT.sel]
 rw [List.map_id] at h
 constructor
 ·rw [Int.toNat_natCast] at h; simp [g_AZ62,h,okO]; omega
 ·simp only [g_VZ62_0,h,valO,Option.getD_some]
theorem eqLogDiskS_self (l:List Disk) (hl:l.length ≤ 1048576) (hit:∀ x ∈ l,smallD x):g_AZ39 l l = true ∧ g_VZ39_0 l l = true := by
 have h:g_LZ39_0 l l 0 = some (.inr ()) := by
  have := loop_all (step := g_SZ39_0 l l) (fun i:Nat => (i:Int)) (fun _ => true) (.inl false) (.inr ()) l.length (fun i hi => by
   have k1:(i:Int) < l.length := by omega
   have k2:(0:Int) ≤ (i:Int) := by omega
   have hw:IntKind.wrap .i64 ((i:Int) + 1) = ((i + 1:Nat):Int) := by rw [wrap64 (by omega)]; omega
   have hh := hit _ (at_mem (e := DI_) hi)
   obtain ⟨q1,q2⟩ := eqLogDisk_self (at_ DI_ l i).1 (at_ DI_ l i).2 hh.1 hh.2
   simp only [g_SZ39_0,RT.sel,cond_true,k1,k2,hw,decide_true,and_self,Int.toNat_natCast,q1,q2,Bool.not_true,cond_false]) (by simp [g_SZ39_0,RT.sel])
  rw [show (List.range l.length).all (fun _ => true) = true by simp] at this
  exact this
 simp [g_AZ39,g_VZ39_0,h,okO,valO,isL]
theorem eqMsgsW_self (l:List Msg) (hl:l.length ≤ 1048576):g_AZ56 l l = true ∧ g_VZ56_0 l l = true := by
 have h:g_LZ56_0 l l 0 = some (.inr ()) := by
  have := loop_all (step := g_SZ56_0 l l) (fun i:Nat => (i:Int)) (fun _ => true) (.inl false) (.inr ()) l.length (fun i hi => by
   have k1:(i:Int) < l.length := by omega
   have k2:(0:Int) ≤ (i:Int) := by omega
   have hw:IntKind.wrap .i64 ((i:Int) + 1) = ((i + 1:Nat):Int) := by rw [wrap64 (by omega)]; omega
   simp only [g_SZ56_0,RT.sel,cond_true,k1,k2,hw,decide_true,and_self,Int.toNat_natCast,g_AZ75,g_VZ75_0,g_Aw_eqOpOp,g_Vw_eqOpOp_0,bne_self_eq_false,cond_false,Bool.false_or,Bool.not_true]) (by simp [g_SZ56_0,RT.sel])
  rw [show (List.range l.length).all (fun _ => true) = true by simp] at this
  exact this
 simp [g_AZ56,g_VZ56_0,h,okO,valO,isL]
theorem eqOpOpS_self (l:List Op_) (hl:l.length ≤ 1048576):g_Aw_eqOpOpS l l = true ∧ g_Vw_eqOpOpS_0 l l = true := by
 have h:g_Lw_eqOpOpS_0 l l 0 = some (.inr ()) := by
  have := loop_all (step := g_Sw_eqOpOpS_0 l l) (fun i:Nat => (i:Int)) (fun _ => true) (.inl false) (.inr ()) l.length (fun i hi => by
   have k1:(i:Int) < l.length := by omega
   have k2:(0:Int) ≤ (i:Int) := by omega
   have hw:IntKind.wrap .i64 ((i:Int) + 1) = ((i + 1:Nat):Int) := by rw [wrap64 (by omega)]; omega
   simp only [g_Sw_eqOpOpS_0,RT.sel,cond_true,k1,k2,hw,decide_true,and_self,Int.toNat_natCast,g_Aw_eqOpOp,g_Vw_eqOpOp_0,bne_self_eq_false,cond_false,Bool.false_or,Bool.not_true]) (by simp [g_Sw_eqOpOpS_0,RT.sel])
  rw [show (List.range l.length).all (fun _ => true) = true by simp] at this
  exact this
 simp [g_Aw_eqOpOpS,g_Vw_eqOpOpS_0,h,okO,valO,isL]
theorem eqFroOutS_self (l:List Out_) (hl:l.length ≤ 1048576):g_AZ52 l l = true ∧ g_VZ52_0 l l = true := by
 have h:g_LZ52_0 l l 0 = some (.inr ()) := by
  have := loop_all (step := g_SZ52_0 l l) (fun i:Nat => (i:Int)) (fun _ => true) (.inl false) (.inr ()) l.length (fun i hi => by
   have k1:(i:Int) < l.length := by omega
   have k2:(0:Int) ≤ (i:Int) := by omega
   have hw:IntKind.wrap .i64 ((i:Int) + 1) = ((i + 1:Nat):Int) := by rw [wrap64 (by omega)]; omega
   have hq:∀ (a:Int) (b:Bool),g_VZ73_0 a b a b = true := fun a b => by cases b <;> simp [g_VZ73_0]
   simp only [g_SZ52_0,RT.sel,cond_true,k1,k2,hw,decide_true,and_self,Int.toNat_natCast,hq,bne_self_eq_false,cond_false,Bool.false_or,Bool.not_true]) (by simp [g_SZ52_0,RT.sel])
  rw [show (List.range l.length).all (fun _ => true) = true by simp] at this
  exact this
 simp [g_AZ52,g_VZ52_0,h,okO,valO,isL]
theorem eqWldWorld_self (l:List Note) (safe:Int) (w:List FTx) (d:List Disk) (m:List Msg) (o:List Op_) (q:List Out_) (h1:l.length ≤ 1048576) (h2:∀ x ∈ l,smallN x) (h3:w.length ≤ 1048576) (h4:∀ x ∈ w,smallT x) (h5:d.length ≤ 1048576) (h6:∀ x ∈ d,smallD x)
  (h7:m.length ≤ 1048576) (h8:o.length ≤ 1048576) (h9:q.length ≤ 1048576):g_AZ40 l safe w d m o q l safe w d m o q = true ∧ g_VZ40_0 l safe w d m o q l safe w d m o q = true := by
 obtain ⟨a1,a2⟩ := eqFroState_self l safe w h1 h2 h3 h4
 obtain ⟨b1,b2⟩ := eqLogDiskS_self d h5 h6
 obtain ⟨c1,c2⟩ := eqMsgsW_self m h7
 obtain ⟨d1,d2⟩ := eqOpOpS_self o h8
 obtain ⟨e1,e2⟩ := eqFroOutS_self q h9
 simp only [g_AZ40,g_VZ40_0,a1,a2,b1,b2,c1,c2,d1,d2,e1,e2,bne_self_eq_false,Bool.not_true,cond_false,cond_true,Bool.or_true,Bool.true_or,Bool.false_or,Bool.and_self,Bool.or_self,and_self]
theorem small_world {l:List Note} {w:List FTx} {d:List Disk} {m:List Msg} {o:List Op_} {q:List Out_} (h:szA l w d m o q ≤ 1048576):((l.length ≤ 1048576 ∧ ∀ x ∈ l,smallN x) ∧ w.length ≤ 1048576 ∧ ∀ x ∈ w,smallT x) ∧ (d.length ≤ 1048576 ∧ ∀ x ∈ d,smallD x) ∧ m.length ≤ 1048576 ∧ o.length ≤ 1048576 ∧ q.length ≤ 1048576 := by
 unfold szA at h
 have a := small_front (l := l) (w := w) (B := 1048576) (by omega) (Nat.le_refl _)
 have b := szL_len (z := szD) (l := d) (B := 1048576) (by omega)
 refine ⟨a,⟨b.1,fun x hx => ?_⟩,by omega,by omega,by omega⟩
 have c := small_disk (l := x.1) (B := 1048576) (b.2 x hx) (Nat.le_refl _)
 exact ⟨c.1,c.2⟩
def ofG (how:Int) (l:List Note) (tx:Int):Int := l.foldl (fun h n => bif decide (n.2.1 = tx)&&!decide (n.1 = 4) then n.1 else h) how
def ofP (l:List Note) (tx:Int):Int := ofG 0 l tx
theorem ofG_cons (how:Int) (n:Note) (l:List Note) (tx:Int):ofG how (n :: l) tx = ofG (bif decide (n.2.1 = tx)&&!decide (n.1 = 4) then n.1 else how) l tx := rfl
def foldS {α β:Type} (f:List β → α → α):List β → α → α
 | [],a => a
 | x :: r,a => foldS f r (f (x :: r) a)
theorem loop_foldS {e:Ty} {σ ρ α:Type} {step:σ → RT σ ρ} (l:List e.den) (mk:Int → α → σ) (f:List e.den → α → α) (out:α → ρ) (J:Nat → α → Prop)
  (h1:∀ (i:Nat) (a:α),i < l.length → J i a → (step (mk (i:Int) a)).sel = .go (mk ((i + 1:Nat):Int) (f (l.drop i) a)) ∧ J (i + 1) (f (l.drop i) a))
  (h2:∀ a:α,(step (mk (l.length:Int) a)).sel = .out (out a)) (a0:α) (h0:J 0 a0):loopO step (mk 0 a0) = some (out (foldS f l a0)) ∧ J l.length (foldS f l a0) := by
 have key:∀ (k i:Nat) (a:α),i + k = l.length → J i a → loopO step (mk (i:Int) a) = some (out (foldS f (l.drop i) a)) ∧ J l.length (foldS f (l.drop i) a) := by
  intro k
  induction k with
  | zero =>
   intro i a hi hJ
   have hi:i = l.length := by omega
   subst hi
   rw [loopO_eq,h2 a,List.drop_length]
   exact ⟨rfl,hJ⟩
  | succ k ih =>
   intro i a hi hJ
   have hil:i < l.length := by omega
   obtain ⟨e1,e2⟩ := h1 i a hil hJ
   rw [loopO_eq,e1]
   have := ih (i + 1) _ (by omega) e2
   rw [List.drop_eq_getElem_cons hil] at this ⊢
   exact this
 exact key l.length 0 a0 (by omega) h0
theorem of_eq (l:List Note) (tx:Int):g_VZ34_0 l tx = ofP l tx := by
 have key:∀ (l:List Note) (how:Int),((l.reverse.find? fun n => decide (n.2.1 = tx)&&!decide (n.1 = 4)).map (·.1)).getD how = ofG how l tx := by
  intro l
  induction l with
  | nil => intro how; rfl
  | cons n l ih =>
   intro how
   rw [ofG_cons,← ih,List.reverse_cons,List.find?_append]
   cases h:l.reverse.find? fun n => decide (n.2.1 = tx)&&!decide (n.1 = 4) with
   | some m => rfl
   | none =>
    rw [Option.none_or,List.find?_cons]
    cases decide (n.2.1 = tx)&&!decide (n.1 = 4) <;> rfl
 exact key l 0
def ofF (tx:Int) (r:List Note) (a:Int):Int := match r with | [] => a | n :: _ => bif decide (n.2.1 = tx)&&!decide (n.1 = 4) then n.1 else a
theorem l2Of_f (l:List Note) (tx:Int) (hl:l.length ≤ 1048576):g_As_l2Of l tx = true ∧ g_Vs_l2Of_0 l tx = ofP l tx := by
 obtain ⟨L,_⟩ := loop_foldS (e := NI_) (step := g_Ss_l2Of_0 l tx) l (fun i a => (a,i)) (ofF tx) id (fun _ _ => True) (fun i a hi _ => by
  have k1:(i:Int) < l.length := by omega
  have k2:(0:Int) ≤ (i:Int) := by omega
  rw [List.drop_eq_getElem_cons hi]
  have hat:at_ NI_ l i = l[i] := at_eq (e := NI_) hi
  refine ⟨?_,trivial⟩
  simp only [g_Ss_l2Of_0,RT.sel,cond_true,k1,k2,decide_true,and_self,Int.toNat_natCast,wrap64 (x := (i:Int) + 1) (by omega),hat]
  have e1:(l[i].2.1 == tx) = decide (l[i].2.1 = tx) := rfl
  have e2:(l[i].1 != 4) = !decide (l[i].1 = 4) := rfl
  rw [e1,e2]
  simp only [ofF]
  cases decide (l[i].2.1 = tx) <;> cases decide (l[i].1 = 4) <;> rfl) (fun a => by simp only [g_Ss_l2Of_0,RT.sel,cond_true,Int.lt_irrefl,decide_false,cond_false,id]) (0:Int) trivial
 have key:∀ (l:List Note) (how:Int),foldS (ofF tx) l how = ofG how l tx := by
  intro l
  induction l with
  | nil => intro how; rfl
  | cons n l ih => intro how; rw [ofG_cons,← ih]; rfl
 rw [show foldS (ofF tx) l 0 = ofG 0 l tx from key l 0] at L
 have L:g_Ls_l2Of_0 l tx (0,0) = some (ofP l tx) := L
 simp only [g_As_l2Of,g_Vs_l2Of_0,L,okO,valO,Option.isSome_some,Option.getD_some,and_self]
theorem cond_nf8 (a b:Bool):(bif !a then false else b) = (a&&b) := by cases a <;> rfl
theorem cond_f8 (a b:Bool):(bif a then b else false) = (a&&b) := by cases a <;> rfl
def opK (k w i c s f g:Int):Bool :=
 bif decide (k = 1) || decide (k = 5) then decide (c = 0)&&(decide (s = 0)&&(decide (f = 0)&&decide (g = 0)))
 else bif decide (k = 2) then decide (f = 0)&&decide (g = 0)
 else bif decide (k = 3) then decide (w = 0)&&(decide (i = 0)&&decide (g = 0))
 else decide (k = 4)&&(decide (w = 0)&&(decide (i = 0)&&(decide (c = 0)&&decide (s = 0))))
def opP (k w i c s f g:Int):Bool := decide (0 ≤ w ∧ w ≤ 9)&&(decide (0 ≤ i ∧ i ≤ 9)&&(decide (0 ≤ c ∧ c ≤ 9)&&(decide (0 ≤ f ∧ f ≤ 9)&&(decide (0 ≤ s ∧ s ≤ 99)&&(decide (0 ≤ g ∧ g ≤ 99)&&opK k w i c s f g)))))
theorem s_OpOk_f (k w i c s f g:Int):g_As_OpOk k w i c s f g = true ∧ g_Vs_OpOk_0 k w i c s f g = opP k w i c s f g := by
 have i1:∀ a b:Int,(a == b) = decide (a = b) := fun _ _ => rfl
 constructor
 ·simp [g_As_OpOk,(s_l1In_f _ _ _).1]
 ·have e:opP k w i c s f g = (decide (0 ≤ w ∧ w ≤ 9)&&(decide (0 ≤ i ∧ i ≤ 9)&&(decide (0 ≤ c ∧ c ≤ 9)&&(decide (0 ≤ s ∧ s ≤ 99)&&(decide (0 ≤ f ∧ f ≤ 9)&&(decide (0 ≤ g ∧ g ≤ 99)&&opK k w i c s f g)))))) := by
   unfold opP
   congr 1; congr 1; congr 1
   rw [← Bool.and_assoc,← Bool.and_assoc (decide (0 ≤ s ∧ s ≤ 99)),Bool.and_comm (decide (0 ≤ f ∧ f ≤ 9))]
  rw [e]
  simp only [g_Vs_OpOk_0,(s_l1In_f _ _ _).2,i1,cond_nf8,cond_f8,opK]
  congr 1; congr 1; congr 1; congr 1; congr 1; congr 1
  by_cases h1:k = 1
  ·subst h1; simp
  ·by_cases h5:k = 5
   ·subst h5; simp
   ·by_cases h2:k = 2
    ·subst h2; simp
    ·by_cases h3:k = 3
     ·subst h3; simp
     ·simp [h1,h2,h3,h5]
theorem i_OpOk_f (k w i c s f g:Int):g_Ai_OpOk k w i c s f g = true ∧ g_Vi_OpOk_0 k w i c s f g = opP k w i c s f g := by
 have i1:∀ a b:Int,(a == b) = decide (a = b) := fun _ _ => rfl
 constructor
 ·simp [g_Ai_OpOk,g_Ai_OpOk_1,g_Ai_OpOk_2,(i_in_f _ _ _).1]
 ·simp only [g_Vi_OpOk_0,g_Vi_OpOk_1_0,g_Vi_OpOk_2_0,(i_in_f _ _ _).2,i1,decide_true,Bool.true_and,Bool.and_true,cond_nf8,opP,opK]
  congr 1; congr 1; congr 1; congr 1; congr 1; congr 1
  by_cases h1:k = 1
  ·subst h1; simp
  ·by_cases h5:k = 5
   ·subst h5; simp
   ·by_cases h2:k = 2
    ·subst h2; simp
    ·by_cases h3:k = 3
     ·subst h3; simp
     ·simp [h1,h2,h3,h5]
def svcP (l:List Int):Bool := (List.range l.length).all fun i => decide (1 ≤ at_ (.int .i64) l i ∧ at_ (.int .i64) l i ≤ 3)&&(decide (i = 0) || decide (at_ (.int .i64) l (i - 1) < at_ (.int .i64) l i))
theorem le_not_lt (a b:Int):decide (a ≤ b) = !decide (b < a) := by
 rw [Bool.eq_iff_iff]; simp
theorem ge_not_lt (a b:Int):decide (a ≥ b) = !decide (a < b) := by
 rw [Bool.eq_iff_iff]; simp
theorem Z35_f (l:List Int) (hl:l.length ≤ 1048576):g_AZ35 l = true ∧ g_VZ35_0 l = svcP l := by
 have L:g_LZ35_0 l l (l.length:Int) 0 = some (bif svcP l then .inr () else .inl false) := by
  refine loop_all (step := g_SZ35_0 l l (l.length:Int)) (fun i:Nat => (i:Int)) (fun i => decide (1 ≤ at_ (.int .i64) l i ∧ at_ (.int .i64) l i ≤ 3)&&(decide (i = 0) || decide (at_ (.int .i64) l (i - 1) < at_ (.int .i64) l i))) (.inl false) (.inr ()) l.length (fun i hi => ?_) ?_
  ·have k1:(i:Int) < l.length := by omega
   have k2:(0:Int) ≤ (i:Int) := by omega
   have hw:IntKind.wrap .i64 ((i:Int) + 1) = ((i + 1:Nat):Int) := by rw [wrap64 (by omega)]; omega
   cases i with
   | zero =>
    simp only [g_SZ35_0,RT.sel,cond_true,k1,k2,hw,decide_true,and_self,Int.toNat_natCast,(isService_f _).1,(isService_f _).2]
    cases decide (1 ≤ at_ (.int .i64) l 0 ∧ at_ (.int .i64) l 0 ≤ 3) <;> rfl
   | succ i =>
    have k3:((i + 1:Nat):Int) > 0 := by omega
    have hm:IntKind.wrap .i64 (((i + 1:Nat):Int) - 1) = (i:Int) := by rw [wrap64 (by omega)]; omega
    have k4:(i:Int) < l.length := by omega
    have k5:(0:Int) ≤ (i:Int) := by omega
    simp only [g_SZ35_0,RT.sel,cond_true,k1,k2,k3,k4,k5,hw,hm,decide_true,and_self,Int.toNat_natCast,(isService_f _).1,(isService_f _).2,le_not_lt,Nat.add_sub_cancel]
    cases decide (1 ≤ at_ (.int .i64) l (i + 1) ∧ at_ (.int .i64) l (i + 1) ≤ 3) <;> cases decide (at_ (.int .i64) l i < at_ (.int .i64) l (i + 1)) <;> rfl
  ·simp only [g_SZ35_0,RT.sel,cond_true,Int.lt_irrefl,decide_false,cond_false]
 simp only [g_AZ35,g_VZ35_0,L,okO,valO,Option.isSome_some,Option.getD_some,true_and]
 cases svcP l <;> rfl
theorem l6Places_f (l:List Int) (hl:l.length ≤ 1048576):g_AZ70 l = true ∧ g_VZ70_0 l = svcP l := by
 have L:g_LZ70_0 l 0 = some (bif svcP l then .inr () else .inl false) := by
  refine loop_all (step := g_SZ70_0 l) (fun i:Nat => (i:Int)) (fun i => decide (1 ≤ at_ (.int .i64) l i ∧ at_ (.int .i64) l i ≤ 3)&&(decide (i = 0) || decide (at_ (.int .i64) l (i - 1) < at_ (.int .i64) l i))) (.inl false) (.inr ()) l.length (fun i hi => ?_) ?_
  ·have k1:(i:Int) < l.length := by omega
   have k2:(0:Int) ≤ (i:Int) := by omega
   have hw:IntKind.wrap .i64 ((i:Int) + 1) = ((i + 1:Nat):Int) := by rw [wrap64 (by omega)]; omega
   cases i with
   | zero =>
    simp only [g_SZ70_0,RT.sel,cond_true,k1,k2,hw,decide_true,and_self,Int.toNat_natCast,(s_l1In_f _ _ _).1,(s_l1In_f _ _ _).2]
    cases decide (1 ≤ at_ (.int .i64) l 0 ∧ at_ (.int .i64) l 0 ≤ 3) <;> rfl
   | succ i =>
    have k3:((i + 1:Nat):Int) > 0 := by omega
    have hm:IntKind.wrap .i64 (((i + 1:Nat):Int) - 1) = (i:Int) := by rw [wrap64 (by omega)]; omega
    have k4:(i:Int) < l.length := by omega
    have k5:(0:Int) ≤ (i:Int) := by omega
    simp only [g_SZ70_0,RT.sel,cond_true,k1,k2,k3,k4,k5,hw,hm,decide_true,and_self,Int.toNat_natCast,(s_l1In_f _ _ _).1,(s_l1In_f _ _ _).2,ge_not_lt,Nat.add_sub_cancel]
    cases decide (1 ≤ at_ (.int .i64) l (i + 1) ∧ at_ (.int .i64) l (i + 1) ≤ 3) <;> cases decide (at_ (.int .i64) l i < at_ (.int .i64) l (i + 1)) <;> rfl
  ·simp only [g_SZ70_0,RT.sel,cond_true,Int.lt_irrefl,decide_false,cond_false]
 simp only [g_AZ70,g_VZ70_0,L,okO,valO,Option.isSome_some,Option.getD_some,true_and]
 cases svcP l <;> rfl
def opQ (o:Op_):Bool := opP o.1 o.2.1 o.2.2.1 o.2.2.2.1 o.2.2.2.2.1 o.2.2.2.2.2.1 o.2.2.2.2.2.2
def wayQ (l:List Note) (x:FTx):Bool := decide (0 ≤ x.1 ∧ x.1 ≤ 29)&&(svcP x.2.2.2.1&&(svcP x.2.2.2.2&&((x.2.2.1 == decide (ofP l x.1 = 2))&&(x.2.2.1 || (opQ x.2.1&&x.2.2.2.2.isEmpty)))))
def riseQ (w:List FTx) (i:Nat):Bool := decide (i = 0) || decide ((at_ FT_ w (i - 1)).1 < (at_ FT_ w i).1)
def frontN (n:Note):Bool := decide (n.1 = 2) || decide (n.1 = 4)
def froP (l:List Note) (safe:Int) (w:List FTx):Bool := diskP l safe&&(l.all frontN&&(decide (w.length ≤ 30)&&(List.range w.length).all fun i => riseQ w i&&wayQ l (at_ FT_ w i)))
theorem isE_eq (q:List Int):decide ((q.length:Int) > 0) = !q.isEmpty := by
 cases q with
 | nil => rfl
 | cons a q => simp
theorem s_FroOk_f (l:List Note) (safe:Int) (w:List FTx) (hl:l.length ≤ 1048576) (hit:∀ x ∈ l,smallN x) (hw:w.length ≤ 1048576) (hiw:∀ x ∈ w,smallT x):g_As_FroOk l safe w = true ∧ g_Vs_FroOk_0 l safe w = froP l safe w := by
 obtain ⟨d1,d2⟩ := s_DiskOk_f l safe hl hit
 have L:g_Ls_FroOk_0 l safe w 0 = some (bif l.all frontN then .inr () else .inl false) := by
  refine loop_list (ρ := Bool ⊕ Unit) (e := NI_) l (fun i:Nat => (i:Int)) frontN (Sum.inl false) (Sum.inr ()) (fun i hi => ?_) ?_
  ·have k1:(i:Int) < l.length := by omega
   have k2:(0:Int) ≤ (i:Int) := by omega
   have hw:IntKind.wrap .i64 ((i:Int) + 1) = ((i + 1:Nat):Int) := by rw [wrap64 (by omega)]; omega
   have e2:∀ a b:Int,(a != b) = !decide (a = b) := fun _ _ => rfl
   simp only [g_Ss_FroOk_0,RT.sel,cond_true,k1,k2,hw,decide_true,and_self,Int.toNat_natCast,e2,frontN]
   cases decide ((at_ NI_ l i).1 = 2) <;> cases decide ((at_ NI_ l i).1 = 4) <;> rfl
  ·simp only [g_Ss_FroOk_0,RT.sel,cond_true,Int.lt_irrefl,decide_false,cond_false]
 have L2:g_Ls_FroOk_2 l safe w 0 = some (bif (List.range w.length).all (fun i => riseQ w i&&wayQ l (at_ FT_ w i)) then .inr () else .inl false) := by
  refine loop_all (step := g_Ss_FroOk_2 l safe w) (fun i:Nat => (i:Int)) (fun i => riseQ w i&&wayQ l (at_ FT_ w i)) (.inl false) (.inr ()) w.length (fun i hi => ?_) ?_
  ·have k1:(i:Int) < w.length := by omega
   have k2:(0:Int) ≤ (i:Int) := by omega
   have hw:IntKind.wrap .i64 ((i:Int) + 1) = ((i + 1:Nat):Int) := by rw [wrap64 (by omega)]; omega
   obtain ⟨x1,x2⟩ := hiw _ (at_mem (e := FT_) hi)
   obtain ⟨a1,a2⟩ := l6Places_f (at_ FT_ w i).2.2.2.1 x1
   obtain ⟨b1,b2⟩ := l6Places_f (at_ FT_ w i).2.2.2.2 x2
   obtain ⟨o1,o2⟩ := l2Of_f l (at_ FT_ w i).1 hl
   obtain ⟨c1,c2⟩ := s_OpOk_f (at_ FT_ w i).2.1.1 (at_ FT_ w i).2.1.2.1 (at_ FT_ w i).2.1.2.2.1 (at_ FT_ w i).2.1.2.2.2.1 (at_ FT_ w i).2.1.2.2.2.2.1 (at_ FT_ w i).2.1.2.2.2.2.2.1 (at_ FT_ w i).2.1.2.2.2.2.2.2
   have e2:∀ x:Int,(x == 2) = decide (x = 2) := fun _ => rfl
   simp only [g_Ss_FroOk_2,RT.sel,cond_true,k1,k2,hw,decide_true,and_self,Int.toNat_natCast,(s_l1In_f _ _ _).1,(s_l1In_f _ _ _).2,a1,a2,b1,b2,o1,o2,c1,c2,e2,isE_eq,ge_not_lt,riseQ,wayQ,opQ]
   cases i with
   | zero =>
    rw [show decide (((0:Nat):Int) > 0) = false from rfl]
    generalize at_ FT_ w 0 = x
    generalize opP _ _ _ _ _ _ _ = p1
    generalize decide (0 ≤ x.1 ∧ x.1 ≤ 29) = p2
    generalize decide (ofP l x.1 = 2) = p3
    generalize svcP x.2.2.2.1 = p4
    generalize svcP x.2.2.2.2 = p5
    generalize x.2.2.2.2.isEmpty = p6
    generalize x.2.2.1 = p7
    cases p2 <;> cases p4 <;> cases p5 <;> cases p3 <;> cases p7 <;> cases p1 <;> cases p6 <;> rfl
   | succ i =>
    have k3:((i + 1:Nat):Int) > 0 := by omega
    have hm:IntKind.wrap .i64 (((i + 1:Nat):Int) - 1) = (i:Int) := by rw [wrap64 (by omega)]; omega
    have k4:(i:Int) < w.length := by omega
    have k5:(0:Int) ≤ (i:Int) := by omega
    simp only [k3,k4,k5,hm,decide_true,and_self,Int.toNat_natCast,Nat.add_sub_cancel,cond_true]
    generalize decide ((at_ FT_ w i).1 < (at_ FT_ w (i + 1)).1) = p0
    generalize at_ FT_ w (i + 1) = x
    generalize opP _ _ _ _ _ _ _ = p1
    generalize decide (0 ≤ x.1 ∧ x.1 ≤ 29) = p2
    generalize decide (ofP l x.1 = 2) = p3
    generalize svcP x.2.2.2.1 = p4
    generalize svcP x.2.2.2.2 = p5
    generalize x.2.2.2.2.isEmpty = p6
    generalize x.2.2.1 = p7
    cases p0 <;> cases p2 <;> cases p4 <;> cases p5 <;> cases p3 <;> cases p7 <;> cases p1 <;> cases p6 <;> rfl
  ·simp only [g_Ss_FroOk_2,RT.sel,cond_true,Int.lt_irrefl,decide_false,cond_false]
 have e30:decide ((w.length:Int) > 30) = !decide (w.length ≤ 30) := by rw [Bool.eq_iff_iff]; simp; omega
 unfold g_As_FroOk g_Vs_FroOk_0 froP
 rw [d1,d2,L,L2,e30]
 generalize (List.range w.length).all _ = q1
 generalize l.all frontN = q2
 generalize diskP l safe = q3
 generalize decide (w.length ≤ 30) = q4
 cases q1 <;> cases q2 <;> cases q3 <;> cases q4 <;> exact ⟨rfl,rfl⟩
theorem i_FroOk_f (l:List Note) (safe:Int) (w:List FTx) (hl:l.length ≤ 1048576) (hit:∀ x ∈ l,smallN x) (hw:w.length ≤ 1048576) (hiw:∀ x ∈ w,smallT x):g_Ai_FroOk l safe w = true ∧ g_Vi_FroOk_0 l safe w = froP l safe w := by
 obtain ⟨d1,d2⟩ := i_DiskOk_f l safe hl hit
 obtain ⟨r,h1,h2⟩ := loop_idx (e := NI_) l (step := g_SZ13_0 l (l.length:Int)) (fun x => !frontN x) (fun i hi => by
  have h1:(i:Int) < l.length := by omega
  have h2:(0:Int) ≤ (i:Int) := by omega
  have hw:IntKind.wrap .i64 ((i:Int) + 1) = ((i + 1:Nat):Int) := by rw [wrap64 (by omega)]; omega
  have e2:∀ a b:Int,(a != b) = !decide (a = b) := fun _ _ => rfl
  simp only [g_SZ13_0,RT.sel,cond_true,h1,h2,hw,decide_true,and_self,Int.toNat_natCast,g_Ai_FroOk_1,g_Vi_FroOk_1_0,e2,frontN,Bool.or_true]
  cases decide ((at_ NI_ l i).1 = 2) <;> cases decide ((at_ NI_ l i).1 = 4) <;> rfl) (by simp [g_SZ13_0,RT.sel])
 have h1:g_LZ13_0 l (l.length:Int) 0 = some r := h1
 have a1:g_AZ9 l = true := by simp [g_AZ9,g_AZ13,h1,okO]
 have a2:g_VZ9_0 l = !l.all frontN := by simp only [g_VZ9_0,g_VZ13_0,h1,valO,Option.getD_some,h2,List.not_all_eq_any_not]
 have L2:g_Li_FroOk_0 w (w.length:Int) l safe w 0 = some (bif (List.range w.length).all (fun i => riseQ w i&&wayQ l (at_ FT_ w i)) then .inr () else .inl false) := by
  refine loop_all (step := g_Si_FroOk_0 w (w.length:Int) l safe w) (fun i:Nat => (i:Int)) (fun i => riseQ w i&&wayQ l (at_ FT_ w i)) (.inl false) (.inr ()) w.length (fun i hi => ?_) ?_
  ·have k1:(i:Int) < w.length := by omega
   have k2:(0:Int) ≤ (i:Int) := by omega
   have hw:IntKind.wrap .i64 ((i:Int) + 1) = ((i + 1:Nat):Int) := by rw [wrap64 (by omega)]; omega
   obtain ⟨x1,x2⟩ := hiw _ (at_mem (e := FT_) hi)
   obtain ⟨a1,a2⟩ := Z35_f (at_ FT_ w i).2.2.2.1 x1
   obtain ⟨b1,b2⟩ := Z35_f (at_ FT_ w i).2.2.2.2 x2
   obtain ⟨c1,c2⟩ := i_OpOk_f (at_ FT_ w i).2.1.1 (at_ FT_ w i).2.1.2.1 (at_ FT_ w i).2.1.2.2.1 (at_ FT_ w i).2.1.2.2.2.1 (at_ FT_ w i).2.1.2.2.2.2.1 (at_ FT_ w i).2.1.2.2.2.2.2.1 (at_ FT_ w i).2.1.2.2.2.2.2.2
   have e2:∀ x:Int,(x == 2) = decide (x = 2) := fun _ => rfl
   simp only [g_Si_FroOk_0,RT.sel,cond_true,k1,k2,hw,decide_true,and_self,Int.toNat_natCast,(isTx_f _).1,(isTx_f _).2,a1,a2,b1,b2,g_AZ34,decide_eq_true hl,of_eq,c1,c2,e2,isE_eq,le_not_lt,riseQ,wayQ,opQ]
   cases i with
   | zero =>
    rw [show decide (((0:Nat):Int) > 0) = false from rfl]
    generalize at_ FT_ w 0 = x
    generalize opP _ _ _ _ _ _ _ = p1
    generalize decide (0 ≤ x.1 ∧ x.1 ≤ 29) = p2
    generalize decide (ofP l x.1 = 2) = p3
    generalize svcP x.2.2.2.1 = p4
    generalize svcP x.2.2.2.2 = p5
    generalize x.2.2.2.2.isEmpty = p6
    generalize x.2.2.1 = p7
    cases p2 <;> cases p4 <;> cases p5 <;> cases p3 <;> cases p7 <;> cases p1 <;> cases p6 <;> rfl
   | succ i =>
    have k3:((i + 1:Nat):Int) > 0 := by omega
    have hm:IntKind.wrap .i64 (((i + 1:Nat):Int) - 1) = (i:Int) := by rw [wrap64 (by omega)]; omega
    have k4:(i:Int) < w.length := by omega
    have k5:(0:Int) ≤ (i:Int) := by omega
    simp only [k3,k4,k5,hm,decide_true,and_self,Int.toNat_natCast,Nat.add_sub_cancel,cond_true]
    generalize decide ((at_ FT_ w i).1 < (at_ FT_ w (i + 1)).1) = p0
    generalize at_ FT_ w (i + 1) = x
    generalize opP _ _ _ _ _ _ _ = p1
    generalize decide (0 ≤ x.1 ∧ x.1 ≤ 29) = p2
    generalize decide (ofP l x.1 = 2) = p3
    generalize svcP x.2.2.2.1 = p4
    generalize svcP x.2.2.2.2 = p5
    generalize x.2.2.2.2.isEmpty = p6
    generalize x.2.2.1 = p7
    cases p0 <;> cases p2 <;> cases p4 <;> cases p5 <;> cases p3 <;> cases p7 <;> cases p1 <;> cases p6 <;> rfl
  ·simp only [g_Si_FroOk_0,RT.sel,cond_true,Int.lt_irrefl,decide_false,cond_false]
 have e30:decide ((w.length:Int) > 30) = !decide (w.length ≤ 30) := by rw [Bool.eq_iff_iff]; simp; omega
 unfold g_Ai_FroOk g_Vi_FroOk_0 froP
 rw [d1,d2,a1,a2,L2,e30]
 generalize (List.range w.length).all _ = q1
 generalize l.all frontN = q2
 generalize diskP l safe = q3
 generalize decide (w.length ≤ 30) = q4
 cases q1 <;> cases q2 <;> cases q3 <;> cases q4 <;> exact ⟨rfl,rfl⟩
def msgP (kd to fr tx k w i c s f g:Int):Bool :=
 decide (0 ≤ tx ∧ tx ≤ 29)&&(bif decide (kd = 1) then decide (fr = 0)&&(decide (1 ≤ to ∧ to ≤ 3)&&opP k w i c s f g)
  else decide (k = 0 ∧ w = 0 ∧ i = 0 ∧ c = 0 ∧ s = 0 ∧ f = 0 ∧ g = 0)&&(bif decide (kd = 2) || decide (kd = 3) then decide (fr = 0)&&decide (1 ≤ to ∧ to ≤ 3)
   else decide (4 ≤ kd ∧ kd ≤ 7)&&(decide (to = 0)&&decide (1 ≤ fr ∧ fr ≤ 3))))
theorem zero7 (k w i c s f g:Int):(k == 0&&(w == 0&&(i == 0&&(c == 0&&(s == 0&&(f == 0&&(g == 0&&true))))))) = decide (k = 0 ∧ w = 0 ∧ i = 0 ∧ c = 0 ∧ s = 0 ∧ f = 0 ∧ g = 0) := by
 rw [Bool.eq_iff_iff]; simp
theorem s_MsgOk_f (kd to fr tx k w i c s f g:Int):g_As_MsgOk kd to fr tx k w i c s f g = true ∧ g_Vs_MsgOk_0 kd to fr tx k w i c s f g = msgP kd to fr tx k w i c s f g := by
 have i1:∀ a b:Int,(a == b) = decide (a = b) := fun _ _ => rfl
 constructor
 ·simp [g_As_MsgOk,(s_l1In_f _ _ _).1,(s_OpOk_f _ _ _ _ _ _ _).1]
 ·simp only [g_Vs_MsgOk_0,(s_l1In_f _ _ _).2,(s_OpOk_f _ _ _ _ _ _ _).2,zero7,cond_nf8,cond_f8,msgP]
  simp only [i1]
  congr 1
  by_cases h1:kd = 1
  ·subst h1; simp
  ·by_cases h2:kd = 2
   ·subst h2; simp
   ·by_cases h3:kd = 3
    ·subst h3; simp
    ·simp [h1,h2,h3]
theorem i_MsgOk_f (kd to fr tx k w i c s f g:Int):g_Ai_MsgOk kd to fr tx k w i c s f g = true ∧ g_Vi_MsgOk_0 kd to fr tx k w i c s f g = msgP kd to fr tx k w i c s f g := by
 have i1:∀ a b:Int,(a == b) = decide (a = b) := fun _ _ => rfl
 constructor
 ·simp [g_Ai_MsgOk,g_AZ51,g_Ai_isTx,(i_in_f _ _ _).1,(i_OpOk_f _ _ _ _ _ _ _).1]
 ·simp only [g_Vi_MsgOk_0,g_VZ51_0,g_Vi_isTx_0,(i_in_f _ _ _).2,(i_OpOk_f _ _ _ _ _ _ _).2,zero7,cond_nf8,cond_f8,msgP]
  simp only [i1]
  generalize opP k w i c s f g = p
  generalize decide (k = 0 ∧ w = 0 ∧ i = 0 ∧ c = 0 ∧ s = 0 ∧ f = 0 ∧ g = 0) = z
  generalize decide (0 ≤ tx ∧ tx ≤ 29) = t
  by_cases h4:4 ≤ kd ∧ kd ≤ 7
  ·have n1:¬ kd = 1 := by omega
   have n2:¬ kd = 2 := by omega
   have n3:¬ kd = 3 := by omega
   have n4:1 ≤ kd ∧ kd ≤ 7 := by omega
   simp only [h4,n1,n2,n3,n4,decide_true,decide_false,cond_true,cond_false,Bool.true_and,Bool.or_self,and_self]
   generalize decide (1 ≤ fr ∧ fr ≤ 3) = p1
   generalize decide (to = 0) = p2
   cases t <;> cases z <;> cases p1 <;> cases p2 <;> rfl
  ·simp only [decide_eq_false h4,cond_false]
   generalize decide (1 ≤ to ∧ to ≤ 3) = p1
   generalize decide (fr = 0) = p2
   by_cases h1:kd = 1
   ·subst h1
    simp only [decide_true,cond_true,show (1:Int) ≤ 1 ∧ (1:Int) ≤ 7 from by decide,Bool.true_and,and_self]
    cases t <;> cases p <;> cases p1 <;> cases p2 <;> rfl
   ·by_cases h2:kd = 2
    ·subst h2
     cases t <;> cases z <;> cases p1 <;> cases p2 <;> rfl
    ·by_cases h3:kd = 3
     ·subst h3
      cases t <;> cases z <;> cases p1 <;> cases p2 <;> rfl
     ·have n4:¬ (1 ≤ kd ∧ kd ≤ 7) := by omega
      simp [h1,h2,h3,n4]
abbrev TI_:Ty := .pair .str (.sl 3 (.int .i64))
def risesP (l:List (ByteArray×List Int)) (i:Nat):Bool := decide (i = 0) || Op.bytesLess (at_ TI_ l (i - 1)).1.toList (at_ TI_ l i).1.toList
def itemP (l:List (ByteArray×List Int)) (i:Nat):Bool := keyP (at_ TI_ l i).1&&(valP (at_ TI_ l i).2&&risesP l i)
def storeP (l:List (ByteArray×List Int)):Bool := decide (l.length ≤ 40)&&(List.range l.length).all (itemP l)
theorem s_StoOk_loop (l:List (ByteArray×List Int)) (hl:l.length ≤ 1048576) (hit:∀ x ∈ l,x.2.length ≤ 1048576):g_Ls_StoOk_0 l 0 = some (bif (List.range l.length).all (itemP l) then .inr () else .inl false) := by
 refine loop_all (ρ := Bool ⊕ Unit) (step := g_Ss_StoOk_0 l) (fun i:Nat => (i:Int)) (itemP l) (Sum.inl false) (Sum.inr ()) l.length (fun i hi => ?_) ?_
 ·have k1:(i:Int) < l.length := by omega
  have k2:(0:Int) ≤ (i:Int) := by omega
  have hw:IntKind.wrap .i64 ((i:Int) + 1) = ((i + 1:Nat):Int) := by rw [wrap64 (by omega)]; omega
  obtain ⟨q1,q2⟩ := s_l1Val_f (at_ TI_ l i).2 (hit _ (at_mem (e := TI_) hi))
  simp only [g_Ss_StoOk_0,RT.sel,cond_true,k1,k2,hw,decide_true,and_self,Int.toNat_natCast,(s_l1Key_f _).1,(s_l1Key_f _).2,q1,q2,itemP,risesP]
  generalize keyP (at_ TI_ l i).1 = p
  generalize valP (at_ TI_ l i).2 = q
  by_cases h0:i = 0
  ·subst h0
   cases p <;> cases q <;> simp [RT.sel]
  ·have h1:(i:Int) > 0 := by omega
   have h2:IntKind.wrap .i64 ((i:Int) - 1) = ((i - 1:Nat):Int) := by rw [wrap64 (by omega)]; omega
   have h3:(0:Int) ≤ ((i - 1:Nat):Int) ∧ ((i - 1:Nat):Int) < l.length := by omega
   simp only [h1,h2,h3,decide_true,cond_true,and_self,Int.toNat_natCast,RT.sel,h0,decide_false,Bool.false_or]
   generalize Op.bytesLess _ _ = r
   cases p <;> cases q <;> cases r <;> rfl
 ·simp [g_Ss_StoOk_0,RT.sel]
theorem s_StoOk_f (l:List (ByteArray×List Int)) (hl:l.length ≤ 1048576) (hit:∀ x ∈ l,x.2.length ≤ 1048576):g_As_StoOk l = true ∧ g_Vs_StoOk_0 l = storeP l := by
 have h := s_StoOk_loop l hl hit
 have e2:decide ((l.length:Int) > 40) = !decide (l.length ≤ 40) := by rw [Bool.eq_iff_iff]; simp; omega
 constructor
 ·simp [g_As_StoOk,h,okO]
 ·simp only [g_Vs_StoOk_0,h,valO,Option.getD_some,e2,storeP]
  cases (List.range l.length).all (itemP l) <;> cases decide (l.length ≤ 40) <;> rfl
def placeP (place:Int) (x:ByteArray×List Int):Bool :=
 let c := byteAt x.1 0
 let n := x.2.length
 let who := at_ (.int .i64) x.2 0
 bif decide (place = 1) then decide (c = 115)&&(decide (x.1.size = 2)&&(decide (n = 1)&&decide (who ≤ 9)))
 else bif decide (place = 2) then decide (x.1.size = 2)&&(decide (who ≤ 9)&&((decide (c = 99)&&decide (n = 2)) || (decide (c = 102)&&(decide (n = 3)&&(decide (1 ≤ at_ (.int .i64) x.2 1 ∧ at_ (.int .i64) x.2 1 ≤ 99)&&decide (at_ (.int .i64) x.2 2 ≤ 1))))))
 else bif decide (place = 3) then decide (c = 97)&&decide (n = 1) else false
structure ItemOk (x:ByteArray×List Int):Prop where
 size:2 ≤ x.1.size ∧ x.1.size ≤ 3
 len:1 ≤ x.2.length ∧ x.2.length ≤ 3
 pos:∀ i,i < x.2.length → 0 ≤ at_ (.int .i64) x.2 i
theorem itemOk_of {x:ByteArray×List Int} (h1:keyP x.1 = true) (h2:valP x.2 = true):ItemOk x := by
 simp only [keyP,valP,Bool.and_eq_true,decide_eq_true_eq,List.all_eq_true] at h1 h2
 exact ⟨h1.1,h2.1,fun i hi => (h2.2 _ (at_mem (e := .int .i64) hi)).1⟩
theorem i_itemOk_f (place:Int) (x:ByteArray×List Int) (h:ItemOk x):g_Ai_itemOk place x.1 x.2 = true ∧ g_Vi_itemOk_0 place x.1 x.2 = placeP place x := by
 obtain ⟨k,v⟩ := x
 obtain ⟨hs,hl,hp⟩ := h
 simp only at hs hl hp ⊢
 have k0:(0:Int) < (k.size:Int) := by omega
 have k1:(0:Int) < (v.length:Int) := by omega
 have p0 := hp 0 (by omega)
 have e0:decide ((0:Int) ≤ at_ (.int .i64) v 0 ∧ at_ (.int .i64) v 0 ≤ 9) = decide (at_ (.int .i64) v 0 ≤ 9) := decide_eq_decide.2 ⟨fun h => h.2,fun h => ⟨p0,h⟩⟩
 have es:((k.size:Int) == 2) = decide (k.size = 2) := by rw [Bool.eq_iff_iff]; simp; omega
 have e1:((v.length:Int) == 1) = decide (v.length = 1) := by rw [Bool.eq_iff_iff]; simp; omega
 have e2:((v.length:Int) == 2) = decide (v.length = 2) := by rw [Bool.eq_iff_iff]; simp; omega
 have e3:((v.length:Int) == 3) = decide (v.length = 3) := by rw [Bool.eq_iff_iff]; simp; omega
 have i1:∀ a b:Int,(a == b) = decide (a = b) := fun _ _ => rfl
 constructor
 ·simp only [g_Ai_itemOk,k0,k1,(i_in_f _ _ _).1,(i_in_f _ _ _).2,es,e1,e2,e3,Int.le_refl,decide_true,and_self,Bool.true_and,Bool.or_true,Bool.and_true]
  by_cases h3:v.length = 3
  ·have k2:(1:Int) < (v.length:Int) := by omega
   have k3:(2:Int) < (v.length:Int) := by omega
   simp [k2,k3]
  ·simp [h3]
 ·simp only [g_Vi_itemOk_0,(i_in_f _ _ _).2,es,e0,e1,e2,e3,placeP,i1]
  by_cases p1:place = 1
  ·subst p1
   simp only [decide_true,cond_true]
   generalize decide (byteAt k 0 = 115) = b1
   generalize decide (k.size = 2) = b2
   generalize decide (v.length = 1) = b3
   generalize decide (at_ (.int .i64) v 0 ≤ 9) = b4
   cases b1 <;> cases b2 <;> cases b3 <;> cases b4 <;> rfl
  ·by_cases p2:place = 2
   ·subst p2
    simp only [decide_true,cond_true,show ¬ ((2:Int) = 1) by decide,decide_false,cond_false]
    have c1:byteAt k 0 = 99 → decide (byteAt k 0 = 102) = false := fun h => by rw [h]; rfl
    have c2:v.length = 3 → decide (v.length = 2) = false := fun h => by rw [h]; rfl
    by_cases hc:byteAt k 0 = 99
    ·rw [c1 hc,decide_eq_true hc]
     generalize decide (k.size = 2) = b2
     generalize decide (v.length = 2) = b3
     generalize decide (at_ (.int .i64) v 0 ≤ 9) = b4
     cases b2 <;> cases b3 <;> cases b4 <;> simp
    ·rw [decide_eq_false hc]
     generalize decide (byteAt k 0 = 102) = b1
     by_cases h3:v.length = 3
     ·rw [c2 h3,decide_eq_true h3]
      generalize decide (k.size = 2) = b2
      generalize decide (at_ (.int .i64) v 0 ≤ 9) = b4
      generalize decide (1 ≤ at_ (.int .i64) v 1 ∧ at_ (.int .i64) v 1 ≤ 99) = b5
      generalize decide (at_ (.int .i64) v 2 ≤ 1) = b6
      cases b1 <;> cases b2 <;> cases b4 <;> cases b5 <;> cases b6 <;> rfl
     ·rw [decide_eq_false h3]
      generalize decide (v.length = 2) = b3
      generalize decide (k.size = 2) = b2
      generalize decide (at_ (.int .i64) v 0 ≤ 9) = b4
      cases b1 <;> cases b2 <;> cases b3 <;> cases b4 <;> rfl
   ·simp only [p1,p2,decide_false,cond_false]
    generalize decide (place = 3) = b0
    generalize decide (byteAt k 0 = 97) = b1
    generalize decide (v.length = 1) = b3
    cases b0 <;> cases b1 <;> cases b3 <;> rfl
theorem l3_step (place:Int) (hpl:place = 1 ∨ place = 2 ∨ place = 3) (l:List (ByteArray×List Int)) (hl:l.length ≤ 1048576) (i:Nat) (hi:i < l.length) (h:ItemOk (at_ TI_ l i)) :
  (g_Ss_l3Form_0 place l (i:Int)).sel = bif placeP place (at_ TI_ l i) then .go ((i + 1:Nat):Int) else .out (.inl false) := by
 have k1:(i:Int) < l.length := by omega
 have k2:(0:Int) ≤ (i:Int) := by omega
 have hw:IntKind.wrap .i64 ((i:Int) + 1) = ((i + 1:Nat):Int) := by rw [wrap64 (by omega)]; omega
 have hto:(i:Int).toNat = i := Int.toNat_natCast i
 unfold g_Ss_l3Form_0
 dsimp only
 have hit:itI l (i:Int) = at_ TI_ l i := by
  show at_ TI_ l ((i:Int).toNat) = _
  rw [hto]
 rw [hit]
 obtain ⟨hs,hn,hp⟩ := h
 unfold placeP
 generalize hX:at_ TI_ l i = X at hs hn hp ⊢
 obtain ⟨k,v⟩ := X
 simp only at hs hn hp ⊢
 have a1:(0:Int) < (k.size:Int) := by omega
 have a2:(0:Int) < (v.length:Int) := by omega
 have i1:∀ a b:Int,(a == b) = decide (a = b) := fun _ _ => rfl
 have i2:∀ a b:Int,(a != b) = !decide (a = b) := fun _ _ => rfl
 have es:decide ((k.size:Int) = 2) = decide (k.size = 2) := decide_eq_decide.2 (by omega)
 have e1:decide ((v.length:Int) = 1) = decide (v.length = 1) := decide_eq_decide.2 (by omega)
 have e2:decide ((v.length:Int) = 2) = decide (v.length = 2) := decide_eq_decide.2 (by omega)
 have e3:decide ((v.length:Int) = 3) = decide (v.length = 3) := decide_eq_decide.2 (by omega)
 have hc:byteAt k 0 = 115 ∨ byteAt k 0 = 97 ∨ byteAt k 0 = 99 ∨ byteAt k 0 = 102 ∨ (byteAt k 0 ≠ 115 ∧ byteAt k 0 ≠ 97 ∧ byteAt k 0 ≠ 99 ∧ byteAt k 0 ≠ 102) := by omega
 have hv:v.length = 1 ∨ v.length = 2 ∨ v.length = 3 := by omega
 generalize byteAt k 0 = c at hc ⊢
 generalize at_ (.int .i64) v 0 = w0
 generalize at_ (.int .i64) v 1 = w1
 generalize at_ (.int .i64) v 2 = w2
 rcases hpl with rfl | rfl | rfl
 ·simp only [RT.sel,cond_true,cond_false,k1,k2,hw,a1,a2,decide_true,and_self,Int.le_refl,i1,i2,es,e1,e2,e3,decide_false,Bool.not_true,Bool.not_false,show ¬ ((1:Int) = 2) by decide,show ¬ ((1:Int) = 3) by decide]
  rcases hc with rfl | rfl | rfl | rfl | ⟨c1,c2,c3,c4⟩
  all_goals simp only [*,RT.sel,cond_true,cond_false,decide_true,decide_false,Bool.not_true,Bool.not_false,Bool.false_and,Bool.true_and,show ¬ ((97:Int) = 115) by decide,show ¬ ((99:Int) = 115) by decide,show ¬ ((102:Int) = 115) by decide,show ¬ ((115:Int) = 97) by decide,show ¬ ((99:Int) = 97) by decide,show ¬ ((102:Int) = 97) by decide]
  all_goals (generalize decide (k.size = 2) = b2; generalize decide (v.length = 1) = b3; generalize decide (w0 ≤ 9) = b4; cases b2 <;> cases b3 <;> cases b4 <;> rfl)
 ·have hv':v.length = 1 ∨ v.length = 2 ∨ v.length = 3 := hv
  simp only [RT.sel,cond_true,cond_false,k1,k2,hw,a1,a2,decide_true,and_self,Int.le_refl,i1,i2,es,e1,e2,e3,decide_false,Bool.not_true,Bool.not_false,show ¬ ((2:Int) = 1) by decide,show ¬ ((2:Int) = 3) by decide,(s_l1In_f _ _ _).1,(s_l1In_f _ _ _).2,Bool.false_and,Bool.true_and]
  have x1:v.length = 1 → decide ((0:Int) ≤ 1 ∧ (1:Int) < (v.length:Int)) = false ∧ decide (v.length = 2) = false ∧ decide (v.length = 3) = false := fun h => by rw [h]; exact ⟨rfl,rfl,rfl⟩
  have x2:v.length = 2 → decide (v.length = 2) = true ∧ decide (v.length = 3) = false := fun h => by rw [h]; exact ⟨rfl,rfl⟩
  have x3:v.length = 3 → decide ((0:Int) ≤ 1 ∧ (1:Int) < (v.length:Int)) = true ∧ decide ((0:Int) ≤ 2 ∧ (2:Int) < (v.length:Int)) = true ∧ decide (v.length = 2) = false ∧ decide (v.length = 3) = true := fun h => by rw [h]; exact ⟨rfl,rfl,rfl,rfl⟩
  rcases hc with rfl | rfl | rfl | rfl | ⟨c1,c2,c3,c4⟩
  all_goals simp only [*,RT.sel,cond_true,cond_false,decide_true,decide_false,Bool.not_true,Bool.not_false,Bool.false_and,Bool.true_and,Bool.or_false,Bool.false_or,Bool.and_false,show ¬ ((97:Int) = 99) by decide,show ¬ ((97:Int) = 102) by decide,show ¬ ((99:Int) = 102) by decide,show ¬ ((102:Int) = 99) by decide,show ¬ ((115:Int) = 99) by decide,show ¬ ((115:Int) = 102) by decide,show ¬ ((115:Int) = 97) by decide,show ¬ ((99:Int) = 97) by decide,show ¬ ((102:Int) = 97) by decide]
  all_goals (
   rcases hv' with hn1 | hn1 | hn1
   ·have y := x1 hn1
    try simp only [y.1,y.2.1,y.2.2,RT.sel,cond_true,cond_false,Bool.false_and,Bool.and_false,Bool.or_false,Bool.false_or]
    generalize decide (k.size = 2) = b2; generalize decide (w0 ≤ 9) = b4; generalize decide (1 ≤ w1 ∧ w1 ≤ 99) = b5; generalize decide (w2 ≤ 1) = b6; cases b2 <;> cases b4 <;> cases b5 <;> cases b6 <;> rfl
   ·have y := x2 hn1
    try simp only [y.1,y.2,RT.sel,cond_true,cond_false,Bool.true_and,Bool.false_and,Bool.and_false,Bool.or_false,Bool.false_or]
    generalize decide (k.size = 2) = b2; generalize decide (w0 ≤ 9) = b4; generalize decide (1 ≤ w1 ∧ w1 ≤ 99) = b5; generalize decide (w2 ≤ 1) = b6; cases b2 <;> cases b4 <;> cases b5 <;> cases b6 <;> rfl
   ·have y := x3 hn1
    try simp only [y.1,y.2.1,y.2.2.1,y.2.2.2,RT.sel,cond_true,cond_false,Bool.true_and,Bool.false_and,Bool.and_false,Bool.or_false,Bool.false_or]
    generalize decide (k.size = 2) = b2; generalize decide (w0 ≤ 9) = b4; generalize decide (1 ≤ w1 ∧ w1 ≤ 99) = b5; generalize decide (w2 ≤ 1) = b6; cases b2 <;> cases b4 <;> cases b5 <;> cases b6 <;> rfl)
 ·simp only [RT.sel,cond_true,cond_false,k1,k2,hw,a1,a2,decide_true,and_self,Int.le_refl,i1,i2,es,e1,e2,e3,decide_false,Bool.not_true,Bool.not_false,show ¬ ((3:Int) = 1) by decide,show ¬ ((3:Int) = 2) by decide]
  rcases hc with rfl | rfl | rfl | rfl | ⟨c1,c2,c3,c4⟩
  all_goals simp only [*,RT.sel,cond_true,cond_false,decide_true,decide_false,Bool.not_true,Bool.not_false,Bool.false_and,Bool.true_and,show ¬ ((115:Int) = 97) by decide,show ¬ ((99:Int) = 97) by decide,show ¬ ((102:Int) = 97) by decide]
  all_goals (generalize decide (v.length = 1) = b3; generalize decide (k.size = 2) = b2; cases b2 <;> cases b3 <;> rfl)
def plcP (place:Int) (l:List (ByteArray×List Int)):Bool := decide (1 ≤ place ∧ place ≤ 3)&&(storeP l&&l.all (placeP place))
theorem storeP_item {l:List (ByteArray×List Int)} (h:storeP l = true):∀ x ∈ l,ItemOk x := by
 intro x hx
 simp only [storeP,Bool.and_eq_true,List.all_eq_true,itemP] at h
 obtain ⟨i,hi,rfl⟩ := List.getElem_of_mem hx
 have := h.2 i (List.mem_range.2 hi)
 rw [at_eq (e := TI_) hi] at this
 exact itemOk_of this.1 this.2.1
theorem l3Form_f (place:Int) (hpl:place = 1 ∨ place = 2 ∨ place = 3) (l:List (ByteArray×List Int)) (hl:l.length ≤ 1048576) (hit:∀ x ∈ l,ItemOk x):g_As_l3Form place l = true ∧ g_Vs_l3Form_0 place l = l.all (placeP place) := by
 have h:g_Ls_l3Form_0 place l 0 = some (bif l.all (placeP place) then .inr () else .inl false) :=
  loop_list (ρ := Bool ⊕ Unit) (e := TI_) l (step := g_Ss_l3Form_0 place l) (fun i:Nat => (i:Int)) (placeP place) (Sum.inl false) (Sum.inr ()) (fun i hi => l3_step place hpl l hl i hi (hit _ (at_mem (e := TI_) hi))) (by
   unfold g_Ss_l3Form_0
   dsimp only
   rw [show decide ((l.length:Int) < (l.length:Int)) = false by simp]
   rfl)
 constructor
 ·simp [g_As_l3Form,h,okO]
 ·simp only [g_Vs_l3Form_0,h,valO,Option.getD_some]
  cases l.all (placeP place) <;> rfl
theorem place_cases {place:Int} (h:1 ≤ place ∧ place ≤ 3):place = 1 ∨ place = 2 ∨ place = 3 := by omega
theorem s_PlcOk_f (place:Int) (l:List (ByteArray×List Int)) (hl:l.length ≤ 1048576) (hit:∀ x ∈ l,x.2.length ≤ 1048576):g_As_PlcOk place l = true ∧ g_Vs_PlcOk_0 place l = plcP place l := by
 obtain ⟨a1,a2⟩ := s_StoOk_f l hl hit
 by_cases hp:1 ≤ place ∧ place ≤ 3
 ·by_cases hs:storeP l = true
  ·obtain ⟨b1,b2⟩ := l3Form_f place (place_cases hp) l hl (storeP_item hs)
   simp [g_As_PlcOk,g_Vs_PlcOk_0,(s_l1In_f _ _ _).1,(s_l1In_f _ _ _).2,a1,a2,b1,b2,hp,hs,plcP]
  ·simp [g_As_PlcOk,g_Vs_PlcOk_0,(s_l1In_f _ _ _).1,(s_l1In_f _ _ _).2,a1,a2,hp,hs,plcP]
 ·simp [g_As_PlcOk,g_Vs_PlcOk_0,(s_l1In_f _ _ _).1,(s_l1In_f _ _ _).2,hp,plcP]
abbrev WK_:Ty := .pair .str (.pair .bool (.sl 3 (.int .i64)))
def msgQ (m:Msg):Bool := msgP m.1 m.2.1 m.2.2.1 m.2.2.2.1 m.2.2.2.2.1 m.2.2.2.2.2.1 m.2.2.2.2.2.2.1 m.2.2.2.2.2.2.2.1 m.2.2.2.2.2.2.2.2.1 m.2.2.2.2.2.2.2.2.2.1 m.2.2.2.2.2.2.2.2.2.2
def wQ (place:Int) (x:ByteArray×Bool×List Int):Bool := x.2.1 || plcP place [(x.1,x.2.2)]
def noteW (n:Nat) (place:Int) (x:Note):Bool := !decide (x.1 = 4)&&(decide (x.2.1 < (n:Int))&&x.2.2.2.all (wQ place))
def diskW (n:Nat) (place:Int) (d:Disk):Bool := diskP d.1 d.2&&d.1.all (noteW n place)
def placesW (n:Nat) (d:List Disk):Bool := decide (d.length = 3)&&(List.range d.length).all fun i => diskW n ((i + 1:Nat):Int) (at_ DI_ d i)
def worldP (l:List Note) (safe:Int) (w:List FTx) (d:List Disk) (m:List Msg) (o:List Op_) (q:List Out_):Bool :=
 froP l safe w&&(placesW o.length d&&(decide (m.length ≤ 60)&&(decide (o.length ≤ 30)&&(decide (q.length ≤ 30)&&(m.all (fun x => msgQ x&&decide (x.2.2.2.1 < (o.length:Int)))&&(o.all opQ&&(q.all (fun x => decide (0 ≤ x.1 ∧ x.1 ≤ (o.length:Int) - 1))&&(w.all (fun x => decide (x.1 < (o.length:Int)))&&l.all (fun x => decide (x.2.1 < (o.length:Int)))))))))))
theorem l7Writes_f (place:Int) (ws:List (ByteArray×Bool×List Int)) (hl:ws.length ≤ 1048576) (hit:∀ x ∈ ws,x.2.2.length ≤ 1048576):g_AZ71 place ws = true ∧ g_VZ71_0 place ws = ws.all (wQ place) := by
 have L:g_LZ71_0 place ws 0 = some (bif ws.all (wQ place) then .inr () else .inl false) := by
  refine loop_list (ρ := Bool ⊕ Unit) (e := WK_) ws (fun i:Nat => (i:Int)) (wQ place) (Sum.inl false) (Sum.inr ()) (fun i hi => ?_) ?_
  ·have k1:(i:Int) < ws.length := by omega
   have k2:(0:Int) ≤ (i:Int) := by omega
   have hw:IntKind.wrap .i64 ((i:Int) + 1) = ((i + 1:Nat):Int) := by rw [wrap64 (by omega)]; omega
   have hx := hit _ (at_mem (e := WK_) hi)
   obtain ⟨p1,p2⟩ := s_PlcOk_f place [((at_ WK_ ws i).1,(at_ WK_ ws i).2.2)] (by simp) (fun x hx' => by rw [List.mem_singleton] at hx'; subst hx'; exact hx)
   simp only [g_SZ71_0,RT.sel,cond_true,k1,k2,hw,decide_true,and_self,Int.toNat_natCast,p1,p2,wQ]
   generalize plcP place _ = b
   cases (at_ WK_ ws i).2.1 <;> cases b <;> rfl
  ·simp only [g_SZ71_0,RT.sel,cond_true,Int.lt_irrefl,decide_false,cond_false]
 simp only [g_AZ71,g_VZ71_0,L,okO,valO,Option.isSome_some,Option.getD_some,true_and]
 cases ws.all (wQ place) <;> rfl
theorem geN (a:Int) (n:Nat):decide (a ≥ (n:Int)) = !decide (a < (n:Int)) := by
 rw [Bool.eq_iff_iff]; simp
theorem l7Places_f (l:List Note) (safe:Int) (w:List FTx) (d:List Disk) (m:List Msg) (o:List Op_) (q:List Out_) (h5:d.length ≤ 1048576) (h6:∀ x ∈ d,smallD x) :
  g_AZ72 l safe w d m o q = true ∧ g_VZ72_0 l safe w d m o q = placesW o.length d := by
 have L2:∀ i:Nat,i < d.length → g_LZ72_2 (i:Int) l safe w d m o q 0 = some (bif (at_ DI_ d i).1.all (noteW o.length ((i + 1:Nat):Int)) then .inr () else .inl false) := fun i hi => by
  have hd := h6 _ (at_mem (e := DI_) hi)
  have k3:(i:Int) < d.length := by omega
  have k4:(0:Int) ≤ (i:Int) := by omega
  have hw2:IntKind.wrap .i64 ((i:Int) + 1) = ((i + 1:Nat):Int) := by rw [wrap64 (by omega)]; omega
  refine loop_list (ρ := Bool ⊕ Unit) (e := NI_) (at_ DI_ d i).1 (fun j:Nat => (j:Int)) (noteW o.length ((i + 1:Nat):Int)) (Sum.inl false) (Sum.inr ()) (fun j hj => ?_) ?_
  ·have hln := hd.1
   have k1:(j:Int) < (at_ DI_ d i).1.length := by omega
   have k2:(0:Int) ≤ (j:Int) := by omega
   have hw:IntKind.wrap .i64 ((j:Int) + 1) = ((j + 1:Nat):Int) := by rw [wrap64 (by omega)]; omega
   have hx := hd.2 _ (at_mem (e := NI_) hj)
   obtain ⟨p1,p2⟩ := l7Writes_f ((i + 1:Nat):Int) (at_ NI_ (at_ DI_ d i).1 j).2.2.2 hx.2.1 hx.2.2
   have e4:∀ x:Int,(x == 4) = decide (x = 4) := fun _ => rfl
   simp only [g_SZ72_2,RT.sel,cond_true,k1,k2,k3,k4,hw,hw2,decide_true,and_self,Int.toNat_natCast,p1,p2,e4,geN,noteW]
   generalize List.all _ _ = b
   cases decide ((at_ NI_ (at_ DI_ d i).1 j).1 = 4) <;> cases decide ((at_ NI_ (at_ DI_ d i).1 j).2.1 < (o.length:Int)) <;> cases b <;> rfl
  ·simp only [g_SZ72_2,RT.sel,cond_true,k3,k4,decide_true,and_self,Int.toNat_natCast,Int.lt_irrefl,decide_false,cond_false]
 have L:g_LZ72_0 l safe w d m o q 0 = some (bif (List.range d.length).all (fun i => diskW o.length ((i + 1:Nat):Int) (at_ DI_ d i)) then .inr () else .inl false) := by
  refine loop_all (step := g_SZ72_0 l safe w d m o q) (fun i:Nat => (i:Int)) (fun i => diskW o.length ((i + 1:Nat):Int) (at_ DI_ d i)) (.inl false) (.inr ()) d.length (fun i hi => ?_) ?_
  ·have hd := h6 _ (at_mem (e := DI_) hi)
   have k1:(i:Int) < d.length := by omega
   have k2:(0:Int) ≤ (i:Int) := by omega
   have hw:IntKind.wrap .i64 ((i:Int) + 1) = ((i + 1:Nat):Int) := by rw [wrap64 (by omega)]; omega
   obtain ⟨p1,p2⟩ := s_DiskOk_f (at_ DI_ d i).1 (at_ DI_ d i).2 hd.1 hd.2
   simp only [g_SZ72_0,RT.sel,cond_true,k1,k2,hw,decide_true,and_self,Int.toNat_natCast,p1,p2,L2 i hi,okO,valO,Option.isSome_some,Option.getD_some,diskW]
   generalize List.all _ _ = b
   cases diskP (at_ DI_ d i).1 (at_ DI_ d i).2 <;> cases b <;> rfl
  ·simp only [g_SZ72_0,RT.sel,cond_true,Int.lt_irrefl,decide_false,cond_false]
 have e3:((d.length:Int) != 3) = !decide (d.length = 3) := by
  rw [Bool.eq_iff_iff]; simp; omega
 unfold g_AZ72 g_VZ72_0 placesW
 rw [L,e3]
 generalize List.all _ _ = b
 cases decide (d.length = 3) <;> cases b <;> exact ⟨rfl,rfl⟩
theorem s_WldOk_f (l:List Note) (safe:Int) (w:List FTx) (d:List Disk) (m:List Msg) (o:List Op_) (q:List Out_) (h1:l.length ≤ 1048576) (h2:∀ x ∈ l,smallN x) (h3:w.length ≤ 1048576) (h4:∀ x ∈ w,smallT x) (h5:d.length ≤ 1048576) (h6:∀ x ∈ d,smallD x)
  (h7:m.length ≤ 1048576) (h8:o.length ≤ 1048576) (h9:q.length ≤ 1048576):g_As_WldOk l safe w d m o q = true ∧ g_Vs_WldOk_0 l safe w d m o q = worldP l safe w d m o q := by
 obtain ⟨a1,a2⟩ := s_FroOk_f l safe w h1 h2 h3 h4
 obtain ⟨b1,b2⟩ := l7Places_f l safe w d m o q h5 h6
 have L0:g_Ls_WldOk_0 l safe w d m o q 0 = some (bif m.all (fun x => msgQ x&&decide (x.2.2.2.1 < (o.length:Int))) then .inr () else .inl false) := by
  refine loop_list (ρ := Bool ⊕ Unit) (e := MI_) m (fun i:Nat => (i:Int)) (fun x => msgQ x&&decide (x.2.2.2.1 < (o.length:Int))) (Sum.inl false) (Sum.inr ()) (fun i hi => ?_) ?_
  ·have k1:(i:Int) < m.length := by omega
   have k2:(0:Int) ≤ (i:Int) := by omega
   have hw:IntKind.wrap .i64 ((i:Int) + 1) = ((i + 1:Nat):Int) := by rw [wrap64 (by omega)]; omega
   simp only [g_Ss_WldOk_0,RT.sel,cond_true,k1,k2,hw,decide_true,and_self,Int.toNat_natCast,(s_MsgOk_f _ _ _ _ _ _ _ _ _ _ _).1,(s_MsgOk_f _ _ _ _ _ _ _ _ _ _ _).2,geN,msgQ]
   generalize msgP _ _ _ _ _ _ _ _ _ _ _ = b
   cases decide ((at_ MI_ m i).2.2.2.1 < (o.length:Int)) <;> cases b <;> rfl
  ·simp only [g_Ss_WldOk_0,RT.sel,cond_true,Int.lt_irrefl,decide_false,cond_false]
 have L2:g_Ls_WldOk_2 l safe w d m o q 0 = some (bif o.all opQ then .inr () else .inl false) := by
  refine loop_list (ρ := Bool ⊕ Unit) (e := OP_) o (fun i:Nat => (i:Int)) opQ (Sum.inl false) (Sum.inr ()) (fun i hi => ?_) ?_
  ·have k1:(i:Int) < o.length := by omega
   have k2:(0:Int) ≤ (i:Int) := by omega
   have hw:IntKind.wrap .i64 ((i:Int) + 1) = ((i + 1:Nat):Int) := by rw [wrap64 (by omega)]; omega
   simp only [g_Ss_WldOk_2,RT.sel,cond_true,k1,k2,hw,decide_true,and_self,Int.toNat_natCast,(s_OpOk_f _ _ _ _ _ _ _).1,(s_OpOk_f _ _ _ _ _ _ _).2,opQ]
   generalize opP _ _ _ _ _ _ _ = b
   cases b <;> rfl
  ·simp only [g_Ss_WldOk_2,RT.sel,cond_true,Int.lt_irrefl,decide_false,cond_false]
 have L4:g_Ls_WldOk_4 l safe w d m o q 0 = some (bif q.all (fun x => decide (0 ≤ x.1 ∧ x.1 ≤ (o.length:Int) - 1)) then .inr () else .inl false) := by
  refine loop_list (ρ := Bool ⊕ Unit) (e := QI_) q (fun i:Nat => (i:Int)) (fun x => decide (0 ≤ x.1 ∧ x.1 ≤ (o.length:Int) - 1)) (Sum.inl false) (Sum.inr ()) (fun i hi => ?_) ?_
  ·have k1:(i:Int) < q.length := by omega
   have k2:(0:Int) ≤ (i:Int) := by omega
   have hw:IntKind.wrap .i64 ((i:Int) + 1) = ((i + 1:Nat):Int) := by rw [wrap64 (by omega)]; omega
   have hm:IntKind.wrap .i64 ((o.length:Int) - 1) = (o.length:Int) - 1 := wrap64 (by omega)
   simp only [g_Ss_WldOk_4,RT.sel,cond_true,k1,k2,hw,hm,decide_true,and_self,Int.toNat_natCast,(s_l1In_f _ _ _).1,(s_l1In_f _ _ _).2]
   generalize decide (0 ≤ (at_ QI_ q i).1 ∧ (at_ QI_ q i).1 ≤ (o.length:Int) - 1) = b
   cases b <;> rfl
  ·simp only [g_Ss_WldOk_4,RT.sel,cond_true,Int.lt_irrefl,decide_false,cond_false]
 have L6:g_Ls_WldOk_6 l safe w d m o q 0 = some (bif w.all (fun x => decide (x.1 < (o.length:Int))) then .inr () else .inl false) := by
  refine loop_list (ρ := Bool ⊕ Unit) (e := FT_) w (fun i:Nat => (i:Int)) (fun x => decide (x.1 < (o.length:Int))) (Sum.inl false) (Sum.inr ()) (fun i hi => ?_) ?_
  ·have k1:(i:Int) < w.length := by omega
   have k2:(0:Int) ≤ (i:Int) := by omega
   have hw:IntKind.wrap .i64 ((i:Int) + 1) = ((i + 1:Nat):Int) := by rw [wrap64 (by omega)]; omega
   simp only [g_Ss_WldOk_6,RT.sel,cond_true,k1,k2,hw,decide_true,and_self,Int.toNat_natCast,geN]
   generalize decide ((at_ FT_ w i).1 < (o.length:Int)) = b
   cases b <;> rfl
  ·simp only [g_Ss_WldOk_6,RT.sel,cond_true,Int.lt_irrefl,decide_false,cond_false]
 have L8:g_Ls_WldOk_8 l safe w d m o q 0 = some (bif l.all (fun x => decide (x.2.1 < (o.length:Int))) then .inr () else .inl false) := by
  refine loop_list (ρ := Bool ⊕ Unit) (e := NI_) l (fun i:Nat => (i:Int)) (fun x => decide (x.2.1 < (o.length:Int))) (Sum.inl false) (Sum.inr ()) (fun i hi => ?_) ?_
  ·have k1:(i:Int) < l.length := by omega
   have k2:(0:Int) ≤ (i:Int) := by omega
   have hw:IntKind.wrap .i64 ((i:Int) + 1) = ((i + 1:Nat):Int) := by rw [wrap64 (by omega)]; omega
   simp only [g_Ss_WldOk_8,RT.sel,cond_true,k1,k2,hw,decide_true,and_self,Int.toNat_natCast,geN]
   generalize decide ((at_ NI_ l i).2.1 < (o.length:Int)) = b
   cases b <;> rfl
  ·simp only [g_Ss_WldOk_8,RT.sel,cond_true,Int.lt_irrefl,decide_false,cond_false]
 have e60:decide ((m.length:Int) > 60) = !decide (m.length ≤ 60) := by rw [Bool.eq_iff_iff]; simp; omega
 have e30:decide ((o.length:Int) > 30) = !decide (o.length ≤ 30) := by rw [Bool.eq_iff_iff]; simp; omega
 have e31:decide ((q.length:Int) > 30) = !decide (q.length ≤ 30) := by rw [Bool.eq_iff_iff]; simp; omega
 unfold g_As_WldOk g_Vs_WldOk_0 worldP
 rw [a1,a2,b1,b2,L0,L2,L4,L6,L8,e60,e30,e31]
 generalize m.all _ = x1
 generalize o.all opQ = x2
 generalize q.all _ = x3
 generalize w.all _ = x4
 generalize l.all _ = x5
 cases froP l safe w
 ·exact ⟨rfl,rfl⟩
 cases placesW o.length d
 ·exact ⟨rfl,rfl⟩
 cases decide (m.length ≤ 60)
 ·exact ⟨rfl,rfl⟩
 cases decide (o.length ≤ 30)
 ·exact ⟨rfl,rfl⟩
 cases decide (q.length ≤ 30)
 ·exact ⟨rfl,rfl⟩
 cases x1 <;> cases x2 <;> cases x3 <;> cases x4 <;> cases x5 <;> exact ⟨rfl,rfl⟩
theorem known_f (l:List Note) (safe:Int) (w:List FTx) (d:List Disk) (m:List Msg) (o:List Op_) (q:List Out_) (n:List Note) (s:Int) (hn:n.length ≤ 1048576) :
  g_AZ30 l safe w d m o q n s = true ∧ g_VZ30_0 l safe w d m o q n s = n.all (fun x => decide (x.2.1 < (o.length:Int))) := by
 obtain ⟨r,h1,h2⟩ := loop_idx (e := NI_) n (step := g_SZ5_0 n (l,safe,w,d,m,o,q) (n.length:Int)) (fun x => !decide (x.2.1 < (o.length:Int))) (fun i hi => by
  have h1:(i:Int) < n.length := by omega
  have h2:(0:Int) ≤ (i:Int) := by omega
  have hw:IntKind.wrap .i64 ((i:Int) + 1) = ((i + 1:Nat):Int) := by rw [wrap64 (by omega)]; omega
  simp only [g_SZ5_0,RT.sel,cond_true,h1,h2,hw,decide_true,and_self,Int.toNat_natCast,g_VZ28_0,geN]) (by simp [g_SZ5_0,RT.sel])
 have h1:g_LZ5_0 n (l,safe,w,d,m,o,q) (n.length:Int) 0 = some r := h1
 constructor
 ·simp [g_AZ30,g_AZ2,g_AZ5,h1,okO]
 ·simp only [g_VZ30_0,g_VZ2_0,g_VZ5_0,h1,valO,Option.getD_some,h2,List.not_any_eq_all_not,Bool.not_not]
theorem item_plc (place:Int) (k:ByteArray) (v:List Int) (hp:1 ≤ place ∧ place ≤ 3) (h1:keyP k = true) (h2:valP v = true):plcP place [(k,v)] = placeP place (k,v) := by
 have hs:storeP [(k,v)] = true := by
  simp [storeP,itemP]
  exact ⟨h1,h2,rfl⟩
 unfold plcP
 rw [hs,decide_eq_true hp]
 simp
theorem anyW_f (place:Int) (ws:List (ByteArray×Bool×List Int)) (hp:1 ≤ place ∧ place ≤ 3) (hl:ws.length ≤ 1048576) (hok:∀ x ∈ ws,wrtP x.1 x.2.1 x.2.2 = true) :
  g_AZ0 ws place = true ∧ g_VZ0_0 ws place = !ws.all (wQ place) := by
 obtain ⟨r,h1,h2⟩ := loop_idx (e := WK_) ws (step := g_SZ3_0 ws place (ws.length:Int)) (fun x => !wQ place x) (fun i hi => by
  have h1:(i:Int) < ws.length := by omega
  have h2:(0:Int) ≤ (i:Int) := by omega
  have hw:IntKind.wrap .i64 ((i:Int) + 1) = ((i + 1:Nat):Int) := by rw [wrap64 (by omega)]; omega
  have hx := hok _ (at_mem (e := WK_) hi)
  unfold wrtP at hx
  simp only [g_SZ3_0,RT.sel,cond_true,h1,h2,hw,decide_true,and_self,Int.toNat_natCast,g_AZ26,g_VZ26_0,wQ]
  cases hd:(at_ WK_ ws i).2.1 with
  | true => rfl
  | false =>
   rw [hd,cond_false,Bool.and_eq_true] at hx
   obtain ⟨p1,p2⟩ := i_itemOk_f place ((at_ WK_ ws i).1,(at_ WK_ ws i).2.2) (itemOk_of hx.1 hx.2)
   have p1:g_Ai_itemOk place (at_ WK_ ws i).1 (at_ WK_ ws i).2.2 = true := p1
   have p2:g_Vi_itemOk_0 place (at_ WK_ ws i).1 (at_ WK_ ws i).2.2 = placeP place ((at_ WK_ ws i).1,(at_ WK_ ws i).2.2) := p2
   rw [p1,p2,item_plc place _ _ hp hx.1 hx.2]
   cases placeP place ((at_ WK_ ws i).1,(at_ WK_ ws i).2.2) <;> rfl) (by simp [g_SZ3_0,RT.sel])
 have h1:g_LZ3_0 ws place (ws.length:Int) 0 = some r := h1
 constructor
 ·simp [g_AZ0,g_AZ3,h1,okO]
 ·simp only [g_VZ0_0,g_VZ3_0,h1,valO,Option.getD_some,h2,List.not_all_eq_any_not]
theorem note_writes {x:Note} (h:noteQ x = true):∀ y ∈ x.2.2.2,wrtP y.1 y.2.1 y.2.2 = true := by
 intro y hy
 unfold noteQ noteP at h
 simp only [Bool.and_eq_true,List.all_eq_true] at h
 exact (h.2.2.2.2.2.1 y hy).1
theorem all_two {α:Type} (l:List α) (a b c:α → Bool):(l.all fun x => !a x&&(b x&&c x)) = (l.all b&&l.all fun x => !a x&&c x) := by
 induction l with
 | nil => rfl
 | cons x l ih =>
  rw [List.all_cons,List.all_cons,List.all_cons,ih]
  generalize l.all b = p
  generalize (l.all fun x => !a x&&c x) = q
  cases a x <;> cases b x <;> cases c x <;> cases p <;> cases q <;> rfl
theorem anyN_f (place:Int) (n:List Note) (hp:1 ≤ place ∧ place ≤ 3) (hn:n.length ≤ 1048576) (hit:∀ x ∈ n,smallN x) (hok:∀ x ∈ n,noteQ x = true) :
  g_AZ1 n place = true ∧ g_VZ1_0 n place = !(n.all fun x => !decide (x.1 = 4)&&x.2.2.2.all (wQ place)) := by
 obtain ⟨r,h1,h2⟩ := loop_idx (e := NI_) n (step := g_SZ4_0 n place (n.length:Int)) (fun x => !(!decide (x.1 = 4)&&x.2.2.2.all (wQ place))) (fun i hi => by
  have h1:(i:Int) < n.length := by omega
  have h2:(0:Int) ≤ (i:Int) := by omega
  have hw:IntKind.wrap .i64 ((i:Int) + 1) = ((i + 1:Nat):Int) := by rw [wrap64 (by omega)]; omega
  have hx := hit _ (at_mem (e := NI_) hi)
  obtain ⟨q1,q2⟩ := anyW_f place (at_ NI_ n i).2.2.2 hp hx.2.1 (note_writes (hok _ (at_mem (e := NI_) hi)))
  have e4:∀ x:Int,(x == 4) = decide (x = 4) := fun _ => rfl
  simp only [g_SZ4_0,RT.sel,cond_true,h1,h2,hw,decide_true,and_self,Int.toNat_natCast,g_AZ27,g_VZ27_0,q1,q2,e4]
  generalize List.all _ _ = b
  cases decide ((at_ NI_ n i).1 = 4) <;> cases b <;> rfl) (by simp [g_SZ4_0,RT.sel])
 have h1:g_LZ4_0 n place (n.length:Int) 0 = some r := h1
 constructor
 ·simp [g_AZ1,g_AZ4,h1,okO]
 ·simp only [g_VZ1_0,g_VZ4_0,h1,valO,Option.getD_some,h2,List.not_all_eq_any_not]
theorem i_diskOk_f (l:List Note) (safe:Int) (w:List FTx) (d:List Disk) (m:List Msg) (o:List Op_) (q:List Out_) (place:Int) (x:Disk) (hp:1 ≤ place ∧ place ≤ 3) (hx:smallD x) :
  g_AZ29 l safe w d m o q place x.1 x.2 = true ∧ g_VZ29_0 l safe w d m o q place x.1 x.2 = diskW o.length place x := by
 obtain ⟨a1,a2⟩ := i_DiskOk_f x.1 x.2 hx.1 hx.2
 obtain ⟨b1,b2⟩ := known_f l safe w d m o q x.1 x.2 hx.1
 unfold g_AZ29 g_VZ29_0 diskW
 rw [a1,a2,b1,b2]
 cases hd:diskP x.1 x.2
 ·exact ⟨rfl,rfl⟩
 ·have hok:∀ y ∈ x.1,noteQ y = true := by
   unfold diskP at hd
   simp only [Bool.and_eq_true,List.all_eq_true] at hd
   exact hd.2.2
  obtain ⟨c1,c2⟩ := anyN_f place x.1 hp hx.1 hx.2 hok
  have e := all_two x.1 (fun y => decide (y.1 = 4)) (fun y => decide (y.2.1 < (o.length:Int))) (fun y => y.2.2.2.all (wQ place))
  have e:x.1.all (noteW o.length place) = _ := e
  rw [c1,c2,e]
  generalize (x.1.all fun y => decide (y.2.1 < (o.length:Int))) = p
  generalize (x.1.all fun y => !decide (y.1 = 4)&&y.2.2.2.all (wQ place)) = r
  cases p <;> cases r <;> exact ⟨rfl,rfl⟩
theorem isOp_f (tx:Int) (l:List Note) (safe:Int) (w:List FTx) (d:List Disk) (m:List Msg) (o:List Op_) (q:List Out_) (ho:o.length ≤ 1048576) :
  g_Ai_WldOk_1 tx (l,safe,w,d,m,o,q) = true ∧ g_Vi_WldOk_1_0 tx (l,safe,w,d,m,o,q) = decide (0 ≤ tx ∧ tx ≤ (o.length:Int) - 1) := by
 have hm:IntKind.wrap .i64 ((o.length:Int) - 1) = (o.length:Int) - 1 := wrap64 (by omega)
 simp only [g_Ai_WldOk_1,g_Vi_WldOk_1_0,hm,(i_in_f _ _ _).1,(i_in_f _ _ _).2,and_self]
theorem pos_lt {tx:Int} (h:0 ≤ tx) (n:Nat):decide (0 ≤ tx ∧ tx ≤ (n:Int) - 1) = decide (tx < (n:Int)) := decide_eq_decide.2 (by omega)
theorem anyT_f (l:List Note) (safe:Int) (w:List FTx) (d:List Disk) (m:List Msg) (o:List Op_) (q:List Out_) (ho:o.length ≤ 1048576) (hw:w.length ≤ 1048576) (hpos:∀ x ∈ w,0 ≤ x.1) :
  g_AZ14 w (l,safe,w,d,m,o,q) = true ∧ g_VZ14_0 w (l,safe,w,d,m,o,q) = !(w.all fun x => decide (x.1 < (o.length:Int))) := by
 obtain ⟨r,h1,h2⟩ := loop_idx (e := FT_) w (step := g_SZ19_0 w (l,safe,w,d,m,o,q) (w.length:Int)) (fun x => !decide (x.1 < (o.length:Int))) (fun i hi => by
  have h1:(i:Int) < w.length := by omega
  have h2:(0:Int) ≤ (i:Int) := by omega
  have hw:IntKind.wrap .i64 ((i:Int) + 1) = ((i + 1:Nat):Int) := by rw [wrap64 (by omega)]; omega
  obtain ⟨q1,q2⟩ := isOp_f (at_ FT_ w i).1 l safe w d m o q ho
  simp only [g_SZ19_0,RT.sel,cond_true,h1,h2,hw,decide_true,and_self,Int.toNat_natCast,g_Ai_WldOk_2,q1,q2,pos_lt (hpos _ (at_mem (e := FT_) hi))]) (by simp [g_SZ19_0,RT.sel])
 have h1:g_LZ19_0 w (l,safe,w,d,m,o,q) (w.length:Int) 0 = some r := h1
 constructor
 ·simp [g_AZ14,g_AZ19,h1,okO]
 ·simp only [g_VZ14_0,g_VZ19_0,h1,valO,Option.getD_some,h2,List.not_all_eq_any_not]
theorem msgQ_pos {x:Msg} (h:msgQ x = true):0 ≤ x.2.2.2.1 := by
 unfold msgQ msgP at h
 simp only [Bool.and_eq_true,decide_eq_true_eq] at h
 exact h.1.1
theorem anyM_f (l:List Note) (safe:Int) (w:List FTx) (d:List Disk) (m:List Msg) (o:List Op_) (q:List Out_) (ho:o.length ≤ 1048576) (hm:m.length ≤ 1048576) :
  g_AZ12 m (l,safe,w,d,m,o,q) = true ∧ g_VZ12_0 m (l,safe,w,d,m,o,q) = !(m.all fun x => msgQ x&&decide (x.2.2.2.1 < (o.length:Int))) := by
 obtain ⟨r,h1,h2⟩ := loop_idx (e := MI_) m (step := g_SZ17_0 m (l,safe,w,d,m,o,q) (m.length:Int)) (fun x => !(msgQ x&&decide (x.2.2.2.1 < (o.length:Int)))) (fun i hi => by
  have h1:(i:Int) < m.length := by omega
  have h2:(0:Int) ≤ (i:Int) := by omega
  have hw:IntKind.wrap .i64 ((i:Int) + 1) = ((i + 1:Nat):Int) := by rw [wrap64 (by omega)]; omega
  obtain ⟨q1,q2⟩ := isOp_f (at_ MI_ m i).2.2.2.1 l safe w d m o q ho
  have hq:msgP (at_ MI_ m i).1 (at_ MI_ m i).2.1 (at_ MI_ m i).2.2.1 (at_ MI_ m i).2.2.2.1 (at_ MI_ m i).2.2.2.2.1 (at_ MI_ m i).2.2.2.2.2.1 (at_ MI_ m i).2.2.2.2.2.2.1 (at_ MI_ m i).2.2.2.2.2.2.2.1 (at_ MI_ m i).2.2.2.2.2.2.2.2.1 (at_ MI_ m i).2.2.2.2.2.2.2.2.2.1 (at_ MI_ m i).2.2.2.2.2.2.2.2.2.2 = msgQ (at_ MI_ m i) := rfl
  simp only [g_SZ17_0,RT.sel,cond_true,h1,h2,hw,decide_true,and_self,Int.toNat_natCast,g_Ai_WldOk_3,g_Vi_WldOk_3_0,(i_MsgOk_f _ _ _ _ _ _ _ _ _ _ _).1,(i_MsgOk_f _ _ _ _ _ _ _ _ _ _ _).2,hq,q1,q2]
  cases hb:msgQ (at_ MI_ m i) with
  | false => rfl
  | true =>
   rw [pos_lt (msgQ_pos hb)]
   cases decide ((at_ MI_ m i).2.2.2.1 < (o.length:Int)) <;> rfl) (by simp [g_SZ17_0,RT.sel])
 have h1:g_LZ17_0 m (l,safe,w,d,m,o,q) (m.length:Int) 0 = some r := h1
 constructor
 ·simp [g_AZ12,g_AZ17,h1,okO]
 ·simp only [g_VZ12_0,g_VZ17_0,h1,valO,Option.getD_some,h2,List.not_all_eq_any_not]
theorem anyQ_f (l:List Note) (safe:Int) (w:List FTx) (d:List Disk) (m:List Msg) (o:List Op_) (q:List Out_) (ho:o.length ≤ 1048576) (hq:q.length ≤ 1048576) :
  g_AZ11 q (l,safe,w,d,m,o,q) = true ∧ g_VZ11_0 q (l,safe,w,d,m,o,q) = !(q.all fun x => decide (0 ≤ x.1 ∧ x.1 ≤ (o.length:Int) - 1)) := by
 obtain ⟨r,h1,h2⟩ := loop_idx (e := QI_) q (step := g_SZ16_0 q (l,safe,w,d,m,o,q) (q.length:Int)) (fun x => !decide (0 ≤ x.1 ∧ x.1 ≤ (o.length:Int) - 1)) (fun i hi => by
  have h1:(i:Int) < q.length := by omega
  have h2:(0:Int) ≤ (i:Int) := by omega
  have hw:IntKind.wrap .i64 ((i:Int) + 1) = ((i + 1:Nat):Int) := by rw [wrap64 (by omega)]; omega
  obtain ⟨q1,q2⟩ := isOp_f (at_ QI_ q i).1 l safe w d m o q ho
  simp only [g_SZ16_0,RT.sel,cond_true,h1,h2,hw,decide_true,and_self,Int.toNat_natCast,g_Ai_WldOk_4,q1,q2]) (by simp [g_SZ16_0,RT.sel])
 have h1:g_LZ16_0 q (l,safe,w,d,m,o,q) (q.length:Int) 0 = some r := h1
 constructor
 ·simp [g_AZ11,g_AZ16,h1,okO]
 ·simp only [g_VZ11_0,g_VZ16_0,h1,valO,Option.getD_some,h2,List.not_all_eq_any_not]
theorem anyO_f (o:List Op_) (ho:o.length ≤ 1048576):g_AZ18 o = true ∧ g_VZ18_0 o = !o.all opQ := by
 obtain ⟨r,h1,h2⟩ := loop_idx (e := OP_) o (step := g_SZ21_0 o (o.length:Int)) (fun x => !opQ x) (fun i hi => by
  have h1:(i:Int) < o.length := by omega
  have h2:(0:Int) ≤ (i:Int) := by omega
  have hw:IntKind.wrap .i64 ((i:Int) + 1) = ((i + 1:Nat):Int) := by rw [wrap64 (by omega)]; omega
  simp only [g_SZ21_0,RT.sel,cond_true,h1,h2,hw,decide_true,and_self,Int.toNat_natCast,g_Ai_WldOk_5,g_Vi_WldOk_5_0,(i_OpOk_f _ _ _ _ _ _ _).1,(i_OpOk_f _ _ _ _ _ _ _).2,opQ]) (by simp [g_SZ21_0,RT.sel])
 have h1:g_LZ21_0 o (o.length:Int) 0 = some r := h1
 constructor
 ·simp [g_AZ18,g_AZ21,h1,okO]
 ·simp only [g_VZ18_0,g_VZ21_0,h1,valO,Option.getD_some,h2,List.not_all_eq_any_not]
theorem way_pos {l:List Note} {safe:Int} {w:List FTx} (h:froP l safe w = true):∀ x ∈ w,0 ≤ x.1 := by
 intro x hx
 unfold froP at h
 simp only [Bool.and_eq_true,List.all_eq_true] at h
 obtain ⟨i,hi,rfl⟩ := List.getElem_of_mem hx
 have := (h.2.2.2 i (List.mem_range.2 hi)).2
 rw [at_eq (e := FT_) hi] at this
 unfold wayQ at this
 simp only [Bool.and_eq_true,decide_eq_true_eq] at this
 exact this.1.1
theorem i_WldOk_f (l:List Note) (safe:Int) (w:List FTx) (d:List Disk) (m:List Msg) (o:List Op_) (q:List Out_) (h1:l.length ≤ 1048576) (h2:∀ x ∈ l,smallN x) (h3:w.length ≤ 1048576) (h4:∀ x ∈ w,smallT x) (h5:d.length ≤ 1048576) (h6:∀ x ∈ d,smallD x)
  (h7:m.length ≤ 1048576) (h8:o.length ≤ 1048576) (h9:q.length ≤ 1048576):g_Ai_WldOk l safe w d m o q = true ∧ g_Vi_WldOk_0 l safe w d m o q = worldP l safe w d m o q := by
 obtain ⟨a1,a2⟩ := i_FroOk_f l safe w h1 h2 h3 h4
 obtain ⟨b1,b2⟩ := known_f l safe w d m o q l safe h1
 have e3:((d.length:Int) != 3) = !decide (d.length = 3) := by
  rw [Bool.eq_iff_iff]; simp; omega
 have e60:decide ((m.length:Int) > 60) = !decide (m.length ≤ 60) := by rw [Bool.eq_iff_iff]; simp; omega
 have e30:decide ((o.length:Int) > 30) = !decide (o.length ≤ 30) := by rw [Bool.eq_iff_iff]; simp; omega
 have e31:decide ((q.length:Int) > 30) = !decide (q.length ≤ 30) := by rw [Bool.eq_iff_iff]; simp; omega
 unfold g_Ai_WldOk g_Vi_WldOk_0 worldP placesW
 rw [a1,a2,b1,b2,e3,e60,e30,e31]
 cases hp:froP l safe w
 ·exact ⟨rfl,rfl⟩
 ·obtain ⟨c1,c2⟩ := anyT_f l safe w d m o q h8 h3 (way_pos hp)
  obtain ⟨f1,f2⟩ := anyM_f l safe w d m o q h8 h7
  obtain ⟨g1,g2⟩ := anyQ_f l safe w d m o q h8 h9
  obtain ⟨k1,k2⟩ := anyO_f o h8
  rw [c1,c2,f1,f2,g1,g2,k1,k2]
  by_cases h3:d.length = 3
  ·have L:g_Li_WldOk_0 d (d.length:Int) l safe w d m o q 0 = some (bif (List.range d.length).all (fun i => diskW o.length ((i + 1:Nat):Int) (at_ DI_ d i)) then .inr () else .inl false) := by
    refine loop_all (step := g_Si_WldOk_0 d (d.length:Int) l safe w d m o q) (fun i:Nat => (i:Int)) (fun i => diskW o.length ((i + 1:Nat):Int) (at_ DI_ d i)) (.inl false) (.inr ()) d.length (fun i hi => ?_) ?_
    ·have k1:(i:Int) < d.length := by omega
     have k2:(0:Int) ≤ (i:Int) := by omega
     have hw:IntKind.wrap .i64 ((i:Int) + 1) = ((i + 1:Nat):Int) := by rw [wrap64 (by omega)]; omega
     obtain ⟨p1,p2⟩ := i_diskOk_f l safe w d m o q ((i + 1:Nat):Int) (at_ DI_ d i) (by omega) (h6 _ (at_mem (e := DI_) hi))
     simp only [g_Si_WldOk_0,RT.sel,cond_true,k1,k2,hw,decide_true,and_self,Int.toNat_natCast,p1,p2]
     cases diskW o.length ((i + 1:Nat):Int) (at_ DI_ d i) <;> rfl
    ·simp only [g_Si_WldOk_0,RT.sel,cond_true,Int.lt_irrefl,decide_false,cond_false]
   rw [L,decide_eq_true h3]
   generalize (List.range d.length).all _ = x0
   generalize m.all _ = x1
   generalize o.all opQ = x2
   generalize q.all _ = x3
   generalize w.all _ = x4
   generalize l.all _ = x5
   generalize decide (m.length ≤ 60) = y1
   generalize decide (o.length ≤ 30) = y2
   generalize decide (q.length ≤ 30) = y3
   cases x0
   ·cases x5 <;> cases y1 <;> cases y2 <;> cases y3 <;> exact ⟨rfl,rfl⟩
   ·cases x5
    ·cases y1 <;> cases y2 <;> cases y3 <;> cases x1 <;> cases x2 <;> cases x3 <;> cases x4 <;> exact ⟨rfl,rfl⟩
    ·cases y1
     ·exact ⟨rfl,rfl⟩
     cases y2
     ·exact ⟨rfl,rfl⟩
     cases y3
     ·exact ⟨rfl,rfl⟩
     cases x1 <;> cases x2 <;> cases x3 <;> cases x4 <;> exact ⟨rfl,rfl⟩
  ·rw [decide_eq_false h3]
   generalize l.all _ = x5
   cases x5 <;> exact ⟨rfl,rfl⟩
abbrev WL_:Ty := .pair (.pair (.pair (.sl 169 NL_) (.int .i64)) (.sl 129 FT_)) (.pair (.sl 24 DL_) (.pair (.sl 151 MI_) (.pair (.sl 46 OP_) (.sl 153 QI_))))
theorem pure_FnExactWldOk (x:((List Note×Int)×List FTx)×List Disk×List Msg×List Op_×List Out_) (ok:(((x.1.1.1.length ≤ maxLen ∧ ∀ n ∈ x.1.1.1,okN n) ∧ (Lit.int .i64 x.1.1.2).wf = true) ∧ (x.1.2.length ≤ maxLen ∧ ∀ t ∈ x.1.2,okT t)) ∧ (x.2.1.length ≤ maxLen ∧ ∀ t ∈ x.2.1,okD t) ∧
  (x.2.2.1.length ≤ maxLen ∧ ∀ t ∈ x.2.2.1,okZ t.1 ∧ okZ t.2.1 ∧ okZ t.2.2.1 ∧ okZ t.2.2.2.1 ∧ okOp t.2.2.2.2) ∧ (x.2.2.2.1.length ≤ maxLen ∧ ∀ t ∈ x.2.2.2.1,okOp t) ∧ (x.2.2.2.2.length ≤ maxLen ∧ ∀ t ∈ x.2.2.2.2,okZ t.1 ∧ True)) :
  Fw_FnExactWldOk [argRV true WL_ x] = some (true,.val false [.bool true],[]) := by
 obtain ⟨⟨⟨l,safe⟩,w⟩,d,m,o,q⟩ := x
 obtain ⟨⟨⟨⟨h1,h2⟩,_⟩,h3,h4⟩,⟨h5,h6⟩,⟨h7,_⟩,⟨h8,_⟩,h9,_⟩ := ok
 show some (g_Aw_FnExactWldOk l safe w d m o q,RV.val false [Cell.bool (g_Vw_FnExactWldOk_0 l safe w d m o q)],[]) = _
 obtain ⟨a1,a2⟩ := szWldWorld_f l safe w d m o q h1 h2 h3 h4 h5 h6 h7 h8 h9 1048576 (by decide) (by decide)
 have key:g_Aw_FnExactWldOk l safe w d m o q = true ∧ g_Vw_FnExactWldOk_0 l safe w d m o q = true := by
  unfold g_Aw_FnExactWldOk g_Vw_FnExactWldOk_0
  rw [a1,a2,left_dec _ _ (by decide)]
  by_cases hc:((szA l w d m o q:Nat):Int) ≤ 1048576
  ·obtain ⟨⟨⟨b1,b2⟩,b3,b4⟩,⟨b5,b6⟩,b7,b8,b9⟩ := small_world (l := l) (w := w) (d := d) (m := m) (o := o) (q := q) (by omega)
   obtain ⟨c1,c2⟩ := toLogNoteS_f l b1 b2
   obtain ⟨d1,d2⟩ := toFroTxS_f w b3 b4
   obtain ⟨d3,d4⟩ := toLogDiskS_f d b5 b6
   obtain ⟨d5,d6⟩ := toMsgMsgS_f m b7
   obtain ⟨d7,d8⟩ := toOpOpS_f o b8
   obtain ⟨d9,d0⟩ := toFroOutS_f q b9
   obtain ⟨e1,e2⟩ := i_WldOk_f l safe w d m o q b1 b2 b3 b4 b5 b6 b7 b8 b9
   obtain ⟨f1,f2⟩ := s_WldOk_f l safe w d m o q b1 b2 b3 b4 b5 b6 b7 b8 b9
   obtain ⟨q1,q2⟩ := eqWldWorld_self l safe w d m o q b1 b2 b3 b4 b5 b6 b7 b8 b9
   simp only [g_AZ50,g_AZ48,g_AZ65,c1,c2,d1,d2,d3,d4,d5,d6,d7,d8,d9,d0,e1,e2,f1,f2,q1,q2,decide_eq_true hc,bne_self_eq_false,BEq.rfl,Bool.not_true,Bool.not_false,Bool.and_self,Bool.or_true,Bool.true_or,Bool.or_self,Bool.false_or,cond_true,cond_false,and_self,Bool.true_and,Bool.and_true]
  ·rw [decide_eq_false hc]
   exact ⟨rfl,rfl⟩
 rw [key.1,key.2]
end Go.Proofs.YtedhpmhlmdcpbaaGreatDoor.E
