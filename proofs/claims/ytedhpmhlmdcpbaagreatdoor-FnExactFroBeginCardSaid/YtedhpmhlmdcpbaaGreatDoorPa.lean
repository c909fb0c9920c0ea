/- What these values are, in plain words: for the proof (laws.FnExactFroBegin): part 1. No conditions. -/
import Derived.Test.YtedhpmhlmdcpbaaGreatDoorGc
import Derived.Lib.SlTrimSet
set_option linter.all false
namespace Go.Proofs.YtedhpmhlmdcpbaaGreatDoor.E
open Go
set_option maxRecDepth 100000
set_option maxHeartbeats 0
theorem wrap64 {x:Int} (h:-9223372036854775808 ≤ x ∧ x < 9223372036854775808):IntKind.wrap .i64 x = x := by
 simp only [IntKind.wrap,IntKind.bits,IntKind.signed]
 simp
 omega
def forR {α ρ:Type} (f:Nat → α → α ⊕ ρ) (fin:α → ρ):Nat → Nat → α → ρ
 | 0,_,a => fin a
 | k + 1,i,a => match f i a with
  | .inl a' => forR f fin k (i + 1) a'
  | .inr r => r
section
variable {σ ρ α β:Type} {step:σ → RT σ ρ}
theorem loop_for (mk:Nat → α → σ) (f:Nat → α → α ⊕ ρ) (fin:α → ρ) (n:Nat) (J:Nat → α → Prop)
  (h1:∀ i a,i < n → J i a → (step (mk i a)).sel = (match f i a with | .inl a' => .go (mk (i + 1) a') | .inr r => .out r) ∧ ∀ a',f i a = .inl a' → J (i + 1) a')
  (h2:∀ a,J n a → (step (mk n a)).sel = .out (fin a)):∀ (k i:Nat) (a:α),i + k = n → J i a → loopO step (mk i a) = some (forR f fin k i a) := by
 intro k
 induction k with
 | zero =>
  intro i a hi hJ
  have hi:i = n := by omega
  subst hi
  rw [loopO_eq,h2 a hJ]
  rfl
 | succ k ih =>
  intro i a hi hJ
  obtain ⟨h3,h4⟩ := h1 i a (by omega) hJ
  rw [loopO_eq,h3]
  unfold forR
  cases hf:f i a with
  | inl a' => simp only; exact ih (i + 1) a' (by omega) (h4 a' hf)
  | inr r => rfl
theorem loop_all (mk:Nat → σ) (p:Nat → Bool) (e fin:ρ) (n:Nat) (h1:∀ i,i < n → (step (mk i)).sel = bif p i then .go (mk (i + 1)) else .out e) (h2:(step (mk n)).sel = .out fin) :
  loopO step (mk 0) = some (bif (List.range n).all p then fin else e) := by
 have key:∀ k i,i + k = n → loopO step (mk i) = some (bif (List.range' i k).all p then fin else e) := by
  intro k
  induction k with
  | zero =>
   intro i hi
   have hi:i = n := by omega
   subst hi
   rw [loopO_eq,h2]
   rfl
  | succ k ih =>
   intro i hi
   rw [loopO_eq,h1 i (by omega),List.range'_succ,List.all_cons]
   cases p i with
   | true => simp only [cond_true,Bool.true_and]; exact ih (i + 1) (by omega)
   | false => rfl
 rw [key n 0 (by omega),List.range_eq_range']
theorem range_all {e:Ty} (l:List e.den) (p:e.den → Bool):(List.range l.length).all (fun i => p (at_ e l i)) = l.all p := by
 rw [Bool.eq_iff_iff,List.all_eq_true,List.all_eq_true]
 constructor
 ·intro h x hx
  obtain ⟨i,hi,rfl⟩ := List.getElem_of_mem hx
  have := h i (List.mem_range.2 hi)
  simpa [at_,hi] using this
 ·intro h i hi
  have hi := List.mem_range.1 hi
  have := h l[i] (List.getElem_mem hi)
  simpa [at_,hi] using this
theorem at_mem {e:Ty} {l:List e.den} {i:Nat} (h:i < l.length):at_ e l i ∈ l := by
 have:at_ e l i = l[i] := by simp [at_,h]
 rw [this]
 exact List.getElem_mem h
theorem at_eq {e:Ty} {l:List e.den} {i:Nat} (h:i < l.length):at_ e l i = l[i] := by simp [at_,h]
theorem loop_list {e:Ty} (l:List e.den) (mk:Nat → σ) (p:e.den → Bool) (x fin:ρ) (h1:∀ i,i < l.length → (step (mk i)).sel = bif p (at_ e l i) then .go (mk (i + 1)) else .out x) (h2:(step (mk l.length)).sel = .out fin) :
  loopO step (mk 0) = some (bif l.all p then fin else x) := by
 rw [loop_all mk (fun i => p (at_ e l i)) x fin l.length h1 h2,range_all]
theorem loop_map {e:Ty} (l:List e.den) {ρ:Type} {step:List β×Int → RT (List β×Int) ρ} (g:e.den → β) (out:List β → ρ)
  (h1:∀ (i:Nat) (r:List β),i < l.length → r.length = l.length → (step (r,(i:Int))).sel = .go (r.set i (g (at_ e l i)),((i + 1:Nat):Int)))
  (h2:∀ r:List β,r.length = l.length → (step (r,(l.length:Int))).sel = .out (out r)) (r0:List β) (h0:r0.length = l.length):loopO step (r0,0) = some (out (l.map g)) := by
 have key:∀ (k i:Nat) (r:List β),i + k = l.length → r.length = l.length → r.take i = (l.map g).take i → loopO step (r,(i:Int)) = some (out (l.map g)) := by
  intro k
  induction k with
  | zero =>
   intro i r hi hr ht
   have hi:i = l.length := by omega
   subst hi
   rw [loopO_eq,h2 r hr]
   have e1:r.take l.length = r := by rw [← hr,List.take_length]
   have e2:(l.map g).take l.length = l.map g := by rw [List.take_of_length_le (by simp)]
   rw [e1,e2] at ht
   rw [ht]
  | succ k ih =>
   intro i r hi hr ht
   rw [loopO_eq,h1 i r (by omega) hr]
   simp only
   refine ih (i + 1) _ (by omega) (by simp [hr]) ?_
   have hil:i < l.length := by omega
   rw [List.take_succ,List.take_succ,List.take_set_of_le (by omega),ht]
   congr 1
   simp [hr,hil,at_]
 exact key l.length 0 r0 (by omega) h0 (by simp)
def sumF (t:Nat → Nat):Nat → Nat → Nat
 | 0,_ => 0
 | k + 1,i => t i + sumF t k (i + 1)
def left_ (t:Nat) (left:Int):Int := if (t:Int) ≤ left then left - t else -1
theorem loop_sz {step:Int×Int → RT (Int×Int) ((Int×Int) ⊕ Int)} (t:Nat → Nat) (n:Nat) (h1:∀ (i:Nat) (left:Int),i < n → 0 ≤ left → left ≤ 1048576 → (step (left,(i:Int))).sel = bif decide ((t i:Int) ≤ left) then .go (left - t i,((i + 1:Nat):Int)) else .out (.inl (-1,-1)))
  (h2:∀ left:Int,(step (left,(n:Int))).sel = .out (.inr left)) (left:Int) (h0:0 ≤ left) (hl:left ≤ 1048576) :
  ∃ r,loopO step (left,0) = some r ∧ (bif isL r then (getL r).2 else getR r) = left_ (sumF t n 0) left := by
 have key:∀ (k i:Nat) (left:Int),i + k = n → 0 ≤ left → left ≤ 1048576 → ∃ r,loopO step (left,(i:Int)) = some r ∧ (bif isL r then (getL r).2 else getR r) = left_ (sumF t k i) left := by
  intro k
  induction k with
  | zero =>
   intro i left hi h0 hl
   have hi:i = n := by omega
   subst hi
   refine ⟨.inr left,by rw [loopO_eq,h2],?_⟩
   simp [isL,getR,left_,sumF,h0]
  | succ k ih =>
   intro i left hi h0 hl
   rw [loopO_eq,h1 i left (by omega) h0 hl]
   by_cases hc:(t i:Int) ≤ left
   ·simp only [hc,decide_true,cond_true]
    obtain ⟨r,e1,e2⟩ := ih (i + 1) (left - t i) (by omega) (by omega) (by omega)
    refine ⟨r,e1,?_⟩
    rw [e2]
    unfold left_
    have e3:sumF t (k + 1) i = t i + sumF t k (i + 1) := rfl
    rw [e3]
    by_cases hc2:(sumF t k (i + 1):Int) ≤ left - t i
    ·rw [if_pos hc2,if_pos (by omega)]; omega
    ·rw [if_neg hc2,if_neg (by omega)]
   ·simp only [hc,decide_false,cond_false]
    refine ⟨_,rfl,?_⟩
    have e3:sumF t (k + 1) i = t i + sumF t k (i + 1) := rfl
    simp only [isL,getL,cond_true,left_]
    rw [e3,if_neg (by omega)]
 exact key n 0 left (by omega) h0 hl
theorem loop_idx {e:Ty} (l:List e.den) {step:Int → RT Int (Int ⊕ Unit)} (q:e.den → Bool) (h1:∀ i:Nat,i < l.length → (step (i:Int)).sel = bif q (at_ e l i) then .out (.inl (i:Int)) else .go ((i + 1:Nat):Int))
  (h2:(step (l.length:Int)).sel = .out (.inr ())):∃ r,loopO step 0 = some r ∧ decide ((bif isL r then getL r else (-1:Int)) ≥ 0) = l.any q := by
 have key:∀ (k i:Nat),i + k = l.length → ∃ r,loopO step (i:Int) = some r ∧ decide ((bif isL r then getL r else (-1:Int)) ≥ 0) = (l.drop i).any q := by
  intro k
  induction k with
  | zero =>
   intro i hi
   have hi:i = l.length := by omega
   subst hi
   refine ⟨_,by rw [loopO_eq,h2],?_⟩
   simp [isL]
  | succ k ih =>
   intro i hi
   rw [loopO_eq,h1 i (by omega)]
   have hil:i < l.length := by omega
   rw [List.drop_eq_getElem_cons hil,List.any_cons,at_eq hil]
   cases hq:q l[i] with
   | true => exact ⟨_,rfl,by simp [isL,getL]⟩
   | false => simp only [cond_false,Bool.false_or]; exact ih (i + 1) (by omega)
 exact key l.length 0 (by omega)
end
theorem dropWhile_nil {α:Type} (p:α → Bool) (l:List α):l.dropWhile p = [] ↔ ∀ x ∈ l,p x = true := by
 induction l with
 | nil => simp
 | cons a l ih =>
  by_cases h:p a = true
  ·rw [List.dropWhile_cons_of_pos h,ih]; simp [h]
  ·rw [List.dropWhile_cons_of_neg h]; simp [h]
theorem trimS_nil (l cs:List UInt8):(Lib.trimS l cs = []) ↔ l.all (cs.contains ·) = true := by
 unfold Lib.trimS Lib.trimLeftS Lib.trimRightS
 constructor
 ·intro h
  rw [dropWhile_nil] at h
  rw [List.all_eq_true]
  intro x hx
  have h2:∀ (m:List UInt8),(∀ y ∈ (m.dropWhile (cs.contains ·)).reverse,cs.contains y = true) → ∀ y ∈ m,cs.contains y = true := by
   intro m
   induction m with
   | nil => intro _ y hy; cases hy
   | cons a m ih =>
    intro hm y hy
    by_cases ha:cs.contains a = true
    ·rw [List.dropWhile_cons_of_pos ha] at hm
     rcases List.mem_cons.1 hy with rfl | hy
     ·exact ha
     ·exact ih hm y hy
    ·rw [List.dropWhile_cons_of_neg ha] at hm
     exact hm y (List.mem_reverse.2 hy)
  exact h2 l.reverse (fun y hy => h y hy) x (by simpa using hx)
 ·intro h
  rw [List.all_eq_true] at h
  rw [dropWhile_nil]
  intro x hx
  have:x ∈ l := by
   have h3 := List.mem_reverse.1 hx
   have := (List.dropWhile_sublist (fun x => cs.contains x) (l := l.reverse)).subset h3
   simpa using this
  exact h x this
theorem maxLen_lt {n:Nat} (h:n ≤ maxLen):(n:Int) < 9223372036854775808 := by
 have:maxLen = 9223372036854775807 := by decide
 omega
theorem left_step {n:Nat} {left:Int} (h:(n:Int) < 9223372036854775808) (h0:0 ≤ left) (hl:left ≤ 1048576):IntKind.wrap .i64 (left - (n:Int)) = left - n := wrap64 (by omega)
theorem left_two {a b:Nat} {left:Int}:(bif decide (left - (a:Int) < 0) then (-1:Int) else left_ b (left - a)) = left_ (a + b) left := by
 unfold left_
 by_cases h:left - (a:Int) < 0
 ·rw [decide_eq_true h,cond_true,if_neg (by omega)]
 ·rw [decide_eq_false h,cond_false]
  by_cases h2:(b:Int) ≤ left - a
  ·rw [if_pos h2,if_pos (by omega)]; omega
  ·rw [if_neg h2,if_neg (by omega)]
theorem left_neg (a:Nat) (left:Int) (h0:0 ≤ left):(bif decide (left_ a left < 0) then (-1:Int) else left_ a left) = left_ a left := by
 unfold left_
 split
 ·rw [decide_eq_false (by omega),cond_false]
 ·rfl
theorem left_dec (a:Nat) (left:Int) (h0:0 ≤ left):decide (left_ a left < 0) = !decide ((a:Int) ≤ left) := by
 unfold left_
 by_cases h:(a:Int) ≤ left
 ·rw [if_pos h,decide_eq_true h,decide_eq_false (by omega)]; rfl
 ·rw [if_neg h,decide_eq_false h]; rfl
theorem left_val {a:Nat} {left:Int} (h:(a:Int) ≤ left):left_ a left = left - a := if_pos h
def szL {α:Type} (z:α → Nat) (l:List α):Nat := l.length + (l.map z).sum
theorem sumF_sum {e:Ty} (l:List e.den) (z:e.den → Nat):sumF (fun i => z (at_ e l i)) l.length 0 = (l.map z).sum := by
 have key:∀ (k i:Nat),i + k = l.length → sumF (fun i => z (at_ e l i)) k i = ((l.drop i).map z).sum := by
  intro k
  induction k with
  | zero => intro i hi; rw [List.drop_eq_nil_of_le (by omega)]; rfl
  | succ k ih =>
   intro i hi
   have hil:i < l.length := by omega
   unfold sumF
   rw [ih (i + 1) (by omega),List.drop_eq_getElem_cons hil,List.map_cons,List.sum_cons,at_eq hil]
 exact key l.length 0 (by omega)
theorem szL_len {α:Type} {z:α → Nat} {l:List α} {B:Nat} (h:szL z l ≤ B):l.length ≤ B ∧ ∀ x ∈ l,z x ≤ B := by
 unfold szL at h
 refine ⟨by omega,fun x hx => ?_⟩
 have key:∀ l:List α,x ∈ l → z x ≤ (l.map z).sum := by
  intro l
  induction l with
  | nil => intro h; cases h
  | cons a l ih =>
   intro h
   rw [List.map_cons,List.sum_cons]
   rcases List.mem_cons.1 h with rfl | h
   ·omega
   ·have := ih h; omega
 have := key l hx
 omega
theorem szIntS_f (l:List Int) (hl:l.length ≤ maxLen) (left:Int) (h0:0 ≤ left) (h1:left ≤ 1048576):g_Vw_szIntS_0 l left = left_ l.length left := by
 have := maxLen_lt hl
 unfold g_Vw_szIntS_0 left_
 rw [left_step this h0 h1]
 by_cases h:left - (l.length:Int) < 0
 ·rw [decide_eq_true h,cond_true,if_neg (by omega)]
 ·rw [decide_eq_false h,cond_false,if_pos (by omega)]
theorem toIntS_f (l:List Int) (hl:l.length ≤ 1048576):g_Aw_toIntS l = true ∧ g_Vw_toIntS_0 l = l := by
 have h:g_Lw_toIntS_0 l (List.replicate (Int.toNat (l.length:Int)) 0,0) = some (l.map id) := by
  refine loop_map (e := .int .i64) l id id (fun i r hi hr => ?_) (fun r hr => ?_) _ (by simp)
  ·have k1:(i:Int) < l.length := by omega
   have k2:(0:Int) ≤ (i:Int) := by omega
   have k3:(i:Int) < r.length := by omega
   have k4:i < r.length := by omega
   have hw:IntKind.wrap .i64 ((i:Int) + 1) = ((i + 1:Nat):Int) := by rw [wrap64 (by omega)]; omega
   simp only [g_Sw_toIntS_0,RT.sel,cond_true,k1,k2,k3,k4,hw,decide_true,and_self,Int.toNat_natCast,id]
  ·simp [g_Sw_toIntS_0,RT.sel]
 rw [List.map_id] at h
 constructor
 ·rw [Int.toNat_natCast] at h; simp [g_Aw_toIntS,h,okO]; omega
 ·simp only [g_Vw_toIntS_0,h,valO,Option.getD_some]
theorem eqIntS_self (l:List Int) (hl:l.length ≤ 1048576):g_Aw_eqIntS l l = true ∧ g_Vw_eqIntS_0 l l = true := by
 have h:g_Lw_eqIntS_0 l l 0 = some (.inr ()) := by
  have := loop_all (step := g_Sw_eqIntS_0 l l) (fun i:Nat => (i:Int)) (fun _ => true) (.inl false) (.inr ()) l.length (fun i hi => by
   have k1:(i:Int) < l.length := by omega
   have k2:(0:Int) ≤ (i:Int) := by omega
   have hw:IntKind.wrap .i64 ((i:Int) + 1) = ((i + 1:Nat):Int) := by rw [wrap64 (by omega)]; omega
   simp only [g_Sw_eqIntS_0,RT.sel,cond_true,k1,k2,hw,decide_true,and_self,Int.toNat_natCast,bne_self_eq_false,cond_false]) (by simp [g_Sw_eqIntS_0,RT.sel])
  rw [show (List.range l.length).all (fun _ => true) = true by simp] at this
  exact this
 simp [g_Aw_eqIntS,g_Vw_eqIntS_0,h,okO,valO,isL]
theorem szStringS_f (l:List ByteArray) (hl:l.length ≤ maxLen) (hok:∀ w ∈ l,w.size ≤ maxLen) (left:Int) (h0:0 ≤ left) (h1:left ≤ 1048576):g_AZ58 l left = true ∧ g_VZ58_0 l left = left_ (szL ByteArray.size l) left := by
 have hm := maxLen_lt hl
 unfold g_AZ58 g_VZ58_0
 rw [left_step hm h0 h1]
 by_cases h:left - (l.length:Int) < 0
 ·rw [decide_eq_true h]
  refine ⟨rfl,?_⟩
  unfold left_ szL
  rw [cond_true,if_neg (by omega)]
 ·rw [decide_eq_false h]
  have key:∃ r,loopO (g_SZ58_0 l) (left - l.length,0) = some r ∧ (bif isL r then (getL r).2 else getR r) = left_ (l.map ByteArray.size).sum (left - l.length) := by
   have hfor := loop_for (step := g_SZ58_0 l) (fun (i:Nat) (a:Int) => (a,(i:Int))) (fun i a => if ((at_ .str l i).size:Int) ≤ a then .inl (a - (at_ .str l i).size) else .inr (.inl (a - (at_ .str l i).size,-1))) (fun a => .inr a) l.length (fun _ a => 0 ≤ a ∧ a ≤ 1048576) (fun i a hi ha => by
    have k1:(i:Int) < l.length := by omega
    have k2:(0:Int) ≤ (i:Int) := by omega
    have hw:IntKind.wrap .i64 ((i:Int) + 1) = ((i + 1:Nat):Int) := by rw [wrap64 (by omega)]; omega
    have hit := maxLen_lt (hok _ (at_mem (e := .str) hi))
    have q1 := left_step hit ha.1 ha.2
    simp only [g_SZ58_0,RT.sel,cond_true,k1,k2,hw,decide_true,and_self,Int.toNat_natCast,q1]
    by_cases hc:((at_ .str l i).size:Int) ≤ a
    ·rw [if_pos hc,decide_eq_false (by omega)]
     exact ⟨rfl,fun a' e => by cases e; omega⟩
    ·rw [if_neg hc,decide_eq_true (by omega)]
     exact ⟨rfl,fun a' e => by cases e⟩) (fun a _ => by simp [g_SZ58_0,RT.sel]) l.length 0 (left - l.length) (by omega) ⟨by omega,by omega⟩
   refine ⟨_,hfor,?_⟩
   have hs:∀ (k i:Nat) (a:Int),i + k = l.length → 0 ≤ a → (bif isL (forR (fun i a => if ((at_ .str l i).size:Int) ≤ a then .inl (a - (at_ .str l i).size) else .inr (.inl (a - (at_ .str l i).size,-1))) (fun a => (.inr a:(Int×Int) ⊕ Int)) k i a) then (getL (forR (fun i a => if ((at_ .str l i).size:Int) ≤ a then .inl (a - (at_ .str l i).size) else .inr (.inl (a - (at_ .str l i).size,-1))) (fun a => (.inr a:(Int×Int) ⊕ Int)) k i a)).2 else getR (forR (fun i a => if ((at_ .str l i).size:Int) ≤ a then .inl (a - (at_ .str l i).size) else .inr (.inl (a - (at_ .str l i).size,-1))) (fun a => (.inr a:(Int×Int) ⊕ Int)) k i a)) = left_ (sumF (fun i => (at_ .str l i).size) k i) a := by
    intro k
    induction k with
    | zero => intro i a _ h0; simp [forR,isL,getR,sumF,left_,h0]
    | succ k ih =>
     intro i a hi h0
     unfold forR sumF
     by_cases hc:((at_ .str l i).size:Int) ≤ a
     ·simp only [if_pos hc]
      rw [ih (i + 1) _ (by omega) (by omega),← left_two,decide_eq_false (by omega),cond_false]
     ·simp only [if_neg hc,isL,getL,cond_true]
      unfold left_
      rw [if_neg (by omega)]
   rw [hs l.length 0 _ (by omega) (by omega),sumF_sum (e := .str)]
  obtain ⟨r,e1,e2⟩ := key
  have e1:g_LZ58_0 l (left - l.length,0) = some r := e1
  rw [e1]
  refine ⟨rfl,?_⟩
  simp only [valO,Option.getD_some,cond_false]
  rw [e2]
  show _ = left_ (l.length + (l.map ByteArray.size).sum) left
  rw [← left_two,decide_eq_false h,cond_false]
theorem toStringS_f (l:List ByteArray) (hl:l.length ≤ 1048576):g_AZ61 l = true ∧ g_VZ61_0 l = l := by
 have h:g_LZ61_0 l (List.replicate (Int.toNat (l.length:Int)) (lit []),0) = some (l.map id) := by
  refine loop_map (e := .str) l id id (fun i r hi hr => ?_) (fun r hr => ?_) _ (by simp)
  ·have k1:(i:Int) < l.length := by omega
   have k2:(0:Int) ≤ (i:Int) := by omega
   have k3:(i:Int) < r.length := by omega
   have k4:i < r.length := by omega
   have hw:IntKind.wrap .i64 ((i:Int) + 1) = ((i + 1:Nat):Int) := by rw [wrap64 (by omega)]; omega
   simp only [g_SZ61_0,RT.sel,cond_true,k1,k2,k3,k4,hw,decide_true,and_self,Int.toNat_natCast,id]
  ·simp [g_SZ61_0,RT.sel]
 rw [List.map_id] at h
 constructor
 ·rw [Int.toNat_natCast] at h; simp [g_AZ61,h,okO]; omega
 ·simp only [g_VZ61_0,h,valO,Option.getD_some]
theorem eqStringS_self (l:List ByteArray) (hl:l.length ≤ 1048576):g_AZ54 l l = true ∧ g_VZ54_0 l l = true := by
 have h:g_LZ54_0 l l 0 = some (.inr ()) := by
  have := loop_all (step := g_SZ54_0 l l) (fun i:Nat => (i:Int)) (fun _ => true) (.inl false) (.inr ()) l.length (fun i hi => by
   have k1:(i:Int) < l.length := by omega
   have k2:(0:Int) ≤ (i:Int) := by omega
   have hw:IntKind.wrap .i64 ((i:Int) + 1) = ((i + 1:Nat):Int) := by rw [wrap64 (by omega)]; omega
   simp only [g_SZ54_0,RT.sel,cond_true,k1,k2,hw,decide_true,and_self,Int.toNat_natCast,BEq.rfl,Bool.not_true,cond_false]) (by simp [g_SZ54_0,RT.sel])
  rw [show (List.range l.length).all (fun _ => true) = true by simp] at this
  exact this
 simp [g_AZ54,g_VZ54_0,h,okO,valO,isL]
def szW (w:ByteArray×Bool×List Int):Nat := w.1.size + w.2.2.length
def okW (w:ByteArray×Bool×List Int):Prop := w.1.size ≤ maxLen ∧ True ∧ (w.2.2.length ≤ maxLen ∧ ∀ n ∈ w.2.2,(Lit.int .i64 n).wf = true)
theorem szStoWrite_f (k:ByteArray) (d:Bool) (l:List Int) (hk:k.size ≤ maxLen) (hl:l.length ≤ maxLen) (left:Int) (h0:0 ≤ left) (h1:left ≤ 1048576):g_AZ47 k d l left = true ∧ g_VZ47_0 k d l left = left_ (k.size + l.length) left := by
 have := maxLen_lt hk
 constructor
 ·simp [g_AZ47]
 ·unfold g_VZ47_0
  rw [left_step this h0 h1]
  by_cases h:left - (k.size:Int) < 0
  ·rw [decide_eq_true h,cond_true]
   unfold left_
   rw [if_neg (by omega)]
  ·rw [szIntS_f l hl _ (by omega) (by omega),left_neg _ _ (by omega),left_two]
theorem szStoWriteS_f (l:List (ByteArray×Bool×List Int)) (hl:l.length ≤ maxLen) (hok:∀ w ∈ l,okW w) (left:Int) (h0:0 ≤ left) (h1:left ≤ 1048576):g_AZ38 l left = true ∧ g_VZ38_0 l left = left_ (szL szW l) left := by
 have hm := maxLen_lt hl
 unfold g_AZ38 g_VZ38_0
 rw [left_step hm h0 h1]
 by_cases h:left - (l.length:Int) < 0
 ·rw [decide_eq_true h]
  refine ⟨rfl,?_⟩
  unfold left_ szL
  rw [cond_true,if_neg (by omega)]
 ·rw [decide_eq_false h]
  obtain ⟨r,e1,e2⟩ := loop_sz (step := g_SZ38_0 l) (fun i => szW (at_ (.pair .str (.pair .bool (.sl 3 (.int .i64)))) l i)) l.length (fun i left hi h0 h1 => by
   have k1:(i:Int) < l.length := by omega
   have k2:(0:Int) ≤ (i:Int) := by omega
   have hw:IntKind.wrap .i64 ((i:Int) + 1) = ((i + 1:Nat):Int) := by rw [wrap64 (by omega)]; omega
   have hit := hok _ (at_mem (e := .pair .str (.pair .bool (.sl 3 (.int .i64)))) hi)
   obtain ⟨q1,q2⟩ := szStoWrite_f (at_ (.pair .str (.pair .bool (.sl 3 (.int .i64)))) l i).1 (at_ (.pair .str (.pair .bool (.sl 3 (.int .i64)))) l i).2.1 (at_ (.pair .str (.pair .bool (.sl 3 (.int .i64)))) l i).2.2 hit.1 hit.2.2.1 left h0 h1
   have q2:g_VZ47_0 (at_ (.pair .str (.pair .bool (.sl 3 (.int .i64)))) l i).1 (at_ (.pair .str (.pair .bool (.sl 3 (.int .i64)))) l i).2.1 (at_ (.pair .str (.pair .bool (.sl 3 (.int .i64)))) l i).2.2 left = left_ (szW (at_ (.pair .str (.pair .bool (.sl 3 (.int .i64)))) l i)) left := q2
   simp only [g_SZ38_0,RT.sel,cond_true,k1,k2,hw,decide_true,and_self,Int.toNat_natCast,q1,q2,left_dec _ _ h0]
   by_cases hc:((szW (at_ (.pair .str (.pair .bool (.sl 3 (.int .i64)))) l i):Nat):Int) ≤ left
   ·simp only [decide_eq_true hc,Bool.not_true,cond_false,cond_true,left_val hc]
   ·simp only [decide_eq_false hc,Bool.not_false,cond_true,cond_false]
    simp only [left_,if_neg hc]) (fun left => by simp [g_SZ38_0,RT.sel]) (left - l.length) (by omega) (by omega)
  have e1:g_LZ38_0 l (left - l.length,0) = some r := e1
  rw [e1]
  refine ⟨rfl,?_⟩
  simp only [valO,Option.getD_some,cond_false]
  rw [e2,sumF_sum (e := .pair .str (.pair .bool (.sl 3 (.int .i64))))]
  show _ = left_ (l.length + (l.map szW).sum) left
  rw [← left_two,decide_eq_false h,cond_false]
theorem toStoWriteS_f (l:List (ByteArray×Bool×List Int)) (hl:l.length ≤ 1048576) (hit:∀ w ∈ l,w.2.2.length ≤ 1048576):g_AZ39 l = true ∧ g_VZ39_0 l = l := by
 have h:g_LZ39_0 l (List.replicate (Int.toNat (l.length:Int)) (lit [],false,[]),0) = some (l.map id) := by
  refine loop_map (e := .pair .str (.pair .bool (.sl 3 (.int .i64)))) l id id (fun i r hi hr => ?_) (fun r hr => ?_) _ (by simp)
  ·have k1:(i:Int) < l.length := by omega
   have k2:(0:Int) ≤ (i:Int) := by omega
   have k3:(i:Int) < r.length := by omega
   have k4:i < r.length := by omega
   have hw:IntKind.wrap .i64 ((i:Int) + 1) = ((i + 1:Nat):Int) := by rw [wrap64 (by omega)]; omega
   obtain ⟨q1,q2⟩ := toIntS_f _ (hit _ (at_mem (e := .pair .str (.pair .bool (.sl 3 (.int .i64)))) hi))
   simp only [g_SZ39_0,RT.sel,cond_true,k1,k2,k3,k4,hw,decide_true,and_self,Int.toNat_natCast,id,g_AZ50,q1,q2]
  ·simp [g_SZ39_0,RT.sel]
 rw [List.map_id] at h
 constructor
 ·rw [Int.toNat_natCast] at h; simp [g_AZ39,h,okO]; omega
 ·simp only [g_VZ39_0,h,valO,Option.getD_some]
theorem eqStoWrite_self (k:ByteArray) (d:Bool) (l:List Int) (hl:l.length ≤ 1048576):g_AZ42 k d l k d l = true ∧ g_VZ42_0 k d l k d l = true := by
 obtain ⟨a,b⟩ := eqIntS_self l hl
 simp [g_AZ42,g_VZ42_0,a,b]
theorem eqStoWriteS_self (l:List (ByteArray×Bool×List Int)) (hl:l.length ≤ 1048576) (hit:∀ w ∈ l,w.2.2.length ≤ 1048576):g_AZ31 l l = true ∧ g_VZ31_0 l l = true := by
 have h:g_LZ31_0 l l 0 = some (.inr ()) := by
  have := loop_all (step := g_SZ31_0 l l) (fun i:Nat => (i:Int)) (fun _ => true) (.inl false) (.inr ()) l.length (fun i hi => by
   have k1:(i:Int) < l.length := by omega
   have k2:(0:Int) ≤ (i:Int) := by omega
   have hw:IntKind.wrap .i64 ((i:Int) + 1) = ((i + 1:Nat):Int) := by rw [wrap64 (by omega)]; omega
   obtain ⟨q1,q2⟩ := eqStoWrite_self (at_ (.pair .str (.pair .bool (.sl 3 (.int .i64)))) l i).1 (at_ (.pair .str (.pair .bool (.sl 3 (.int .i64)))) l i).2.1 _ (hit _ (at_mem (e := .pair .str (.pair .bool (.sl 3 (.int .i64)))) hi))
   simp only [g_SZ31_0,RT.sel,cond_true,k1,k2,hw,decide_true,and_self,Int.toNat_natCast,q1,q2,Bool.not_true,cond_false]) (by simp [g_SZ31_0,RT.sel])
  rw [show (List.range l.length).all (fun _ => true) = true by simp] at this
  exact this
 simp [g_AZ31,g_VZ31_0,h,okO,valO,isL]
theorem szLogNote_f (k t:Int) (ls:List ByteArray) (ws:List (ByteArray×Bool×List Int)) (h2:ls.length ≤ maxLen) (h3:∀ s ∈ ls,s.size ≤ maxLen) (h4:ws.length ≤ maxLen) (h5:∀ w ∈ ws,okW w) (left:Int) (h0:0 ≤ left) (h1:left ≤ 1048576) :
  g_AZ59 k t ls ws left = true ∧ g_VZ59_0 k t ls ws left = left_ (szL ByteArray.size ls + szL szW ws) left := by
 obtain ⟨a1,a2⟩ := szStringS_f ls h2 h3 left h0 h1
 unfold g_AZ59 g_VZ59_0
 rw [a1,a2,left_dec _ _ h0]
 by_cases hc:((szL ByteArray.size ls:Nat):Int) ≤ left
 ·rw [decide_eq_true hc,left_val hc]
  obtain ⟨b1,b2⟩ := szStoWriteS_f ws h4 h5 (left - (szL ByteArray.size ls:Nat)) (by omega) (by omega)
  rw [b1,b2,left_neg _ _ (by omega),Bool.not_true,cond_false]
  refine ⟨rfl,?_⟩
  rw [← left_two,decide_eq_false (by omega),cond_false]
 ·rw [decide_eq_false hc]
  refine ⟨rfl,?_⟩
  rw [Bool.not_false,cond_true]
  unfold left_
  rw [if_neg (by omega)]
theorem byte_range (s:ByteArray) (i:Nat):0 ≤ byteAt s i ∧ byteAt s i < 256 := by
 unfold byteAt
 have := (s.data[i]?.getD 0).toNat_lt
 omega
theorem i_in_f (a b c:Int):g_Ai_in a b c = true ∧ g_Vi_in_0 a b c = decide (b ≤ a ∧ a ≤ c) := by
 constructor
 ·simp [g_Ai_in]
 ·unfold g_Vi_in_0
  by_cases h:a ≥ b
  ·simp [h]
  ·simp [h]
theorem s_l1In_f (a b c:Int):g_As_l1In a b c = true ∧ g_Vs_l1In_0 a b c = decide (b ≤ a ∧ a ≤ c) := by
 constructor
 ·simp [g_As_l1In]
 ·unfold g_Vs_l1In_0
  by_cases h:a ≥ b
  ·simp [h]
  ·simp [h]
def dig (b:UInt8):Bool := decide (48 ≤ b.toNat ∧ b.toNat ≤ 57)
def keyP (s:ByteArray):Bool := decide (2 ≤ s.size ∧ s.size ≤ 3)&&(decide (97 ≤ byteAt s 0 ∧ byteAt s 0 ≤ 122)&&(s.data.toList.drop 1).all dig)
def valP (l:List Int):Bool := decide (1 ≤ l.length ∧ l.length ≤ 3)&&l.all fun n => decide (0 ≤ n ∧ n ≤ 9999)
def wrtP (k:ByteArray) (d:Bool) (l:List Int):Bool := keyP k&&bif d then l.isEmpty else valP l
theorem dig_mem (b:UInt8):[48,49,50,51,52,53,54,55,56,57].contains b = dig b := by
 have h:∀ b:Fin 256,[48,49,50,51,52,53,54,55,56,57].contains (UInt8.ofNat b.val) = dig (UInt8.ofNat b.val) := by decide +kernel
 have := h ⟨b.toNat,b.toNat_lt⟩
 simpa using this
theorem i_keyOk_f (s:ByteArray):g_Ai_keyOk s = true ∧ g_Vi_keyOk_0 s = keyP s := by
 have hb := byte_range s 0
 have hw:IntKind.wrap .i64 (byteAt s 0) = byteAt s 0 := wrap64 (by omega)
 have e1:∀ n:Nat,decide ((2:Int) ≤ (n:Int) ∧ (n:Int) ≤ 3) = decide (2 ≤ n ∧ n ≤ 3) := fun n => decide_eq_decide.2 (by omega)
 constructor
 ·simp only [g_Ai_keyOk,(i_in_f _ _ _).1,(i_in_f _ _ _).2,hw,e1]
  by_cases h:2 ≤ s.size ∧ s.size ≤ 3
  ·have h1:(0:Int) < s.size := by omega
   have h2:(1:Int) ≤ s.size := by omega
   have h3:(s.extract 1 s.size).size ≤ 9223372036854775807 := by rw [ByteArray.size_extract]; omega
   have h4:g_ascii (lit [48,49,50,51,52,53,54,55,56,57]) = true := by decide +kernel
   simp only [h,h1,h2,h3,h4,and_self,decide_true,Bool.true_and,Bool.and_true,Bool.not_true,Bool.false_or,Int.le_refl,Bool.or_true,show (0:Int) ≤ 1 from by decide]
  ·simp [h]
 ·simp only [g_Vi_keyOk_0,(i_in_f _ _ _).2,hw,e1,keyP]
  have e2:(ByteArray.toList (g_trim (s.extract 1 s.size) (lit [48,49,50,51,52,53,54,55,56,57])) == []) = (s.data.toList.drop 1).all dig := by
   rw [ByteArray.toList_eq]
   show ((Lib.trimS (s.extract 1 s.size).data.toList [48,49,50,51,52,53,54,55,56,57]) == []) = _
   have e3:(s.extract 1 s.size).data.toList = s.data.toList.drop 1 := by
    simp only [ByteArray.data_extract,Array.toList_extract,List.extract_eq_take_drop]
    rw [List.take_of_length_le (by rw [List.length_drop,Array.length_toList]; exact Nat.le_refl _)]
   rw [e3,Bool.eq_iff_iff,beq_iff_eq]
   refine (trimS_nil (List.drop 1 s.data.toList) [48,49,50,51,52,53,54,55,56,57]).trans ?_
   simp only [dig_mem]
  rw [e2]
  cases decide (2 ≤ s.size ∧ s.size ≤ 3) <;> cases decide (97 ≤ byteAt s 0 ∧ byteAt s 0 ≤ 122) <;> rfl
theorem s_l1Key_loop (s:ByteArray) (hs:s.size < 1000) (h1:1 ≤ s.size):g_Ls_l1Key_0 s 1 = some (bif (s.data.toList.drop 1).all dig then .inr () else .inl false) := by
 have h := loop_all (step := g_Ss_l1Key_0 s) (fun i:Nat => ((i + 1:Nat):Int)) (fun i => dig ((s.data[i + 1]?).getD 0)) (Sum.inl false) (Sum.inr ()) (s.size - 1) (fun i hi => by
   have h1:((i + 1:Nat):Int) < s.size := by omega
   have h2:(0:Int) ≤ ((i + 1:Nat):Int) := by omega
   have hw:IntKind.wrap .i64 (((i + 1:Nat):Int) + 1) = ((i + 1 + 1:Nat):Int) := by rw [wrap64 (by omega)]; omega
   simp only [g_Ss_l1Key_0,RT.sel,cond_true,h1,h2,hw,decide_true,and_self,Int.toNat_natCast]
   have hb:byteAt s (i + 1) = (((s.data[i + 1]?).getD 0).toNat:Int) := rfl
   simp only [hb]
   generalize (s.data[i + 1]?).getD 0 = b
   unfold dig
   by_cases k1:b.toNat < 48
   ·have k2:¬ 48 ≤ b.toNat := by omega
    have k3:(b.toNat:Int) < 48 := by omega
    simp [k2,k3]
   ·have k2:48 ≤ b.toNat := by omega
    have k3:¬ (b.toNat:Int) < 48 := by omega
    by_cases k4:b.toNat ≤ 57
    ·have k5:¬ (b.toNat:Int) > 57 := by omega
     simp [k2,k3,k4,k5,RT.sel]
    ·have k5:(b.toNat:Int) > 57 := by omega
     simp [k2,k3,k4,k5,RT.sel]) (by
   have hn:((s.size - 1 + 1:Nat):Int) = (s.size:Int) := by omega
   simp only [g_Ss_l1Key_0,RT.sel,hn,cond_true,Int.lt_irrefl,decide_false,cond_false])
 unfold g_Ls_l1Key_0
 refine Eq.trans h ?_
 congr 2
 rw [Bool.eq_iff_iff,List.all_eq_true,List.all_eq_true]
 have hsz:s.size = s.data.toList.length := Array.length_toList.symm
 constructor
 ·intro h x hx
  obtain ⟨i,hi,rfl⟩ := List.getElem_of_mem hx
  have hi':i + 1 < s.data.toList.length := by simp at hi ⊢; omega
  have := h i (List.mem_range.2 (by omega))
  have e:(s.data[i + 1]?).getD 0 = s.data.toList[i + 1] := by rw [Array.getElem?_eq_getElem (by simpa using hi')]; simp
  rw [e] at this
  simpa [Nat.add_comm] using this
 ·intro h i hi
  have hi := List.mem_range.1 hi
  have hi':i + 1 < s.data.toList.length := by omega
  have e:(s.data[i + 1]?).getD 0 = s.data.toList[i + 1] := by rw [Array.getElem?_eq_getElem (by simpa using hi')]; simp
  rw [e]
  refine h _ ?_
  rw [List.mem_iff_getElem]
  exact ⟨i,by simp at hi' ⊢; omega,by simp [Nat.add_comm]⟩
theorem s_l1Key_f (s:ByteArray):g_As_l1Key s = true ∧ g_Vs_l1Key_0 s = keyP s := by
 have e1:∀ n:Nat,decide ((2:Int) ≤ (n:Int) ∧ (n:Int) ≤ 3) = decide (2 ≤ n ∧ n ≤ 3) := fun n => decide_eq_decide.2 (by omega)
 by_cases h:2 ≤ s.size ∧ s.size ≤ 3
 ·have h0:(0:Int) < s.size := by omega
  have hl := s_l1Key_loop s (by omega) (by omega)
  constructor
  ·simp only [g_As_l1Key,(s_l1In_f _ _ _).1,(s_l1In_f _ _ _).2,e1,hl,okO,h,h0,Option.isSome_some,and_self,decide_true,Bool.true_and,Bool.or_true,Int.le_refl]
  ·simp only [g_Vs_l1Key_0,(s_l1In_f _ _ _).2,e1,hl,okO,valO,keyP,Option.getD_some]
   by_cases k1:byteAt s 0 < 97
   ·simp [h,k1,show ¬ (97 ≤ byteAt s 0) by omega]
   ·by_cases k2:byteAt s 0 > 122
    ·simp [h,k1,k2,show ¬ (byteAt s 0 ≤ 122) by omega]
    ·simp only [h,k1,k2,show 97 ≤ byteAt s 0 by omega,show byteAt s 0 ≤ 122 by omega]
     cases (s.data.toList.drop 1).all dig <;> rfl
 ·constructor
  ·simp only [g_As_l1Key,(s_l1In_f _ _ _).1,(s_l1In_f _ _ _).2,e1]
   simp [h]
  ·simp only [g_Vs_l1Key_0,(s_l1In_f _ _ _).2,e1,keyP]
   simp [h]
theorem s_l1Val_loop (l:List Int) (hl:l.length ≤ 1048576):g_Ls_l1Val_0 l 0 = some (bif l.all (fun n => decide (0 ≤ n ∧ n ≤ 9999)) then .inr () else .inl false) := by
 refine loop_list (ρ := Bool ⊕ Unit) (e := .int .i64) l (fun i:Nat => (i:Int)) (fun n => decide (0 ≤ n ∧ n ≤ 9999)) (Sum.inl false) (Sum.inr ()) (fun i hi => ?_) ?_
 ·have h1:(i:Int) < l.length := by omega
  have h2:(0:Int) ≤ (i:Int) := by omega
  have hw:IntKind.wrap .i64 ((i:Int) + 1) = ((i + 1:Nat):Int) := by rw [wrap64 (by omega)]; omega
  simp only [g_Ss_l1Val_0,RT.sel,cond_true,h1,h2,hw,decide_true,and_self,Int.toNat_natCast,(s_l1In_f _ _ _).1,(s_l1In_f _ _ _).2]
  cases decide (0 ≤ at_ (.int .i64) l i ∧ at_ (.int .i64) l i ≤ 9999) <;> rfl
 ·simp [g_Ss_l1Val_0,RT.sel]
theorem s_l1Val_f (l:List Int) (hl:l.length ≤ 1048576):g_As_l1Val l = true ∧ g_Vs_l1Val_0 l = valP l := by
 have hk := s_l1Val_loop l hl
 have e1:decide ((1:Int) ≤ (l.length:Int) ∧ (l.length:Int) ≤ 3) = decide (1 ≤ l.length ∧ l.length ≤ 3) := decide_eq_decide.2 (by omega)
 constructor
 ·simp only [g_As_l1Val,hk,okO,valO,(s_l1In_f _ _ _).1]; simp
 ·simp only [g_Vs_l1Val_0,hk,valO,(s_l1In_f _ _ _).2,e1,valP,Option.getD_some]
  cases l.all (fun n => decide (0 ≤ n ∧ n ≤ 9999)) <;> cases decide (1 ≤ l.length ∧ l.length ≤ 3) <;> rfl
theorem i_valOk_1_f (n:Int):g_Ai_valOk_1 n = true ∧ g_Vi_valOk_1_0 n = !decide (0 ≤ n ∧ n ≤ 9999) := ⟨(i_in_f _ _ _).1,congrArg not (i_in_f _ _ _).2⟩
theorem i_valOk_f (l:List Int) (hl:l.length ≤ 1048576):g_Ai_valOk l = true ∧ g_Vi_valOk_0 l = valP l := by
 obtain ⟨r,h1,h2⟩ := loop_idx (e := .int .i64) l (step := g_SZ10_0 l (l.length:Int)) (fun n => !decide (0 ≤ n ∧ n ≤ 9999)) (fun i hi => by
  have h1:(i:Int) < l.length := by omega
  have h2:(0:Int) ≤ (i:Int) := by omega
  have hw:IntKind.wrap .i64 ((i:Int) + 1) = ((i + 1:Nat):Int) := by rw [wrap64 (by omega)]; omega
  simp only [g_SZ10_0,RT.sel,cond_true,h1,h2,hw,decide_true,and_self,Int.toNat_natCast,(i_valOk_1_f _).1,(i_valOk_1_f _).2]) (by simp [g_SZ10_0,RT.sel])
 have h1:g_LZ10_0 l (l.length:Int) 0 = some r := h1
 have e1:decide ((1:Int) ≤ (l.length:Int) ∧ (l.length:Int) ≤ 3) = decide (1 ≤ l.length ∧ l.length ≤ 3) := decide_eq_decide.2 (by omega)
 constructor
 ·simp [g_Ai_valOk,(i_in_f _ _ _).1,g_AZ9,g_AZ10,h1,okO]
 ·simp only [g_Vi_valOk_0,(i_in_f _ _ _).2,e1,g_VZ9_0,g_VZ10_0,h1,valO,Option.getD_some,h2,valP]
  rw [show (l.any fun n => !decide (0 ≤ n ∧ n ≤ 9999)) = !(l.all fun n => decide (0 ≤ n ∧ n ≤ 9999)) by rw [List.not_all_eq_any_not],Bool.not_not]
  cases decide (1 ≤ l.length ∧ l.length ≤ 3) <;> rfl
theorem s_WrtOk_f (k:ByteArray) (d:Bool) (l:List Int) (hl:l.length ≤ 1048576):g_As_WrtOk k d l = true ∧ g_Vs_WrtOk_0 k d l = wrtP k d l := by
 constructor
 ·simp [g_As_WrtOk,(s_l1Key_f _).1,(s_l1Val_f _ hl).1]
 ·simp only [g_Vs_WrtOk_0,(s_l1Key_f _).2,(s_l1Val_f _ hl).2,wrtP]
  cases d <;> cases keyP k <;> cases l <;> simp <;> omega
theorem i_WrtOk_f (k:ByteArray) (d:Bool) (l:List Int) (hl:l.length ≤ 1048576):g_Ai_WrtOk k d l = true ∧ g_Vi_WrtOk_0 k d l = wrtP k d l := by
 constructor
 ·simp [g_Ai_WrtOk,(i_keyOk_f _).1,(i_valOk_f _ hl).1]
 ·simp only [g_Vi_WrtOk_0,(i_keyOk_f _).2,(i_valOk_f _ hl).2,wrtP]
  cases d <;> cases keyP k <;> cases l <;> simp <;> omega
def hasP (ls:List ByteArray) (s:ByteArray):Bool := ls.any fun x => x.toList == s.toList
def noteP (k t:Int) (ls:List ByteArray) (ws:List (ByteArray×Bool×List Int)):Bool :=
 decide (1 ≤ k ∧ k ≤ 4)&&(decide (0 ≤ t ∧ t ≤ 29)&&(decide (ls.length ≤ 12)&&(decide (ws.length ≤ 12)&&(ls.all keyP&&(ws.all (fun w => wrtP w.1 w.2.1 w.2.2&&hasP ls w.1)&&(decide (k = 1) || (ls.isEmpty&&ws.isEmpty)))))))
theorem isTx_f (n:Int):g_Ai_isTx n = true ∧ g_Vi_isTx_0 n = decide (0 ≤ n ∧ n ≤ 29) := i_in_f n 0 29
theorem beq_comm' (a b:List UInt8):(a == b) = (b == a) := by
 rw [Bool.eq_iff_iff,beq_iff_eq,beq_iff_eq]
 exact eq_comm
theorem containsS_f (ls:List ByteArray) (s:ByteArray) (hl:ls.length ≤ 1048576):g_AZ11 ls s = true ∧ g_VZ11_0 ls s = hasP ls s := by
 obtain ⟨r,h1,h2⟩ := loop_idx (e := .str) ls (step := g_SZ14_0 ls s (ls.length:Int)) (fun x => x.toList == s.toList) (fun i hi => by
  have h1:(i:Int) < ls.length := by omega
  have h2:(0:Int) ≤ (i:Int) := by omega
  have hw:IntKind.wrap .i64 ((i:Int) + 1) = ((i + 1:Nat):Int) := by rw [wrap64 (by omega)]; omega
  simp only [g_SZ14_0,RT.sel,cond_true,h1,h2,hw,decide_true,and_self,Int.toNat_natCast,beq_comm' s.toList]) (by simp [g_SZ14_0,RT.sel])
 have h1:g_LZ14_0 ls s (ls.length:Int) 0 = some r := h1
 constructor
 ·simp [g_AZ11,g_AZ14,h1,okO]
 ·simp only [g_VZ11_0,g_VZ14_0,h1,valO,Option.getD_some,h2,hasP]
theorem l2Has_f (ls:List ByteArray) (s:ByteArray) (hl:ls.length ≤ 1048576):g_As_l2Has ls s = true ∧ g_Vs_l2Has_0 ls s = hasP ls s := by
 have h:g_Ls_l2Has_0 ls s 0 = some (bif ls.all (fun x => !(x.toList == s.toList)) then .inr () else .inl true) := by
  refine loop_list (ρ := Bool ⊕ Unit) (e := .str) ls (fun i:Nat => (i:Int)) (fun x => !(x.toList == s.toList)) (Sum.inl true) (Sum.inr ()) (fun i hi => ?_) ?_
  ·have h1:(i:Int) < ls.length := by omega
   have h2:(0:Int) ≤ (i:Int) := by omega
   have hw:IntKind.wrap .i64 ((i:Int) + 1) = ((i + 1:Nat):Int) := by rw [wrap64 (by omega)]; omega
   simp only [g_Ss_l2Has_0,RT.sel,cond_true,h1,h2,hw,decide_true,and_self,Int.toNat_natCast]
   cases (at_ .str ls i).toList == s.toList <;> rfl
  ·simp [g_Ss_l2Has_0,RT.sel]
 constructor
 ·simp [g_As_l2Has,h,okO]
 ·simp only [g_Vs_l2Has_0,h,valO,Option.getD_some,hasP,List.any_eq_not_all_not]
  cases ls.all (fun x => !(x.toList == s.toList)) <;> rfl
theorem anyKey_f (ls:List ByteArray) (hl:ls.length ≤ 1048576):g_AZ7 ls = true ∧ g_VZ7_0 ls = !ls.all keyP := by
 obtain ⟨r,h1,h2⟩ := loop_idx (e := .str) ls (step := g_SZ8_0 ls (ls.length:Int)) (fun x => !keyP x) (fun i hi => by
  have h1:(i:Int) < ls.length := by omega
  have h2:(0:Int) ≤ (i:Int) := by omega
  have hw:IntKind.wrap .i64 ((i:Int) + 1) = ((i + 1:Nat):Int) := by rw [wrap64 (by omega)]; omega
  simp only [g_SZ8_0,RT.sel,cond_true,h1,h2,hw,decide_true,and_self,Int.toNat_natCast,g_AZ65,(i_keyOk_f _).1,(i_keyOk_f _).2]) (by simp [g_SZ8_0,RT.sel])
 have h1:g_LZ8_0 ls (ls.length:Int) 0 = some r := h1
 constructor
 ·simp [g_AZ7,g_AZ8,h1,okO]
 ·simp only [g_VZ7_0,g_VZ8_0,h1,valO,Option.getD_some,h2,List.not_all_eq_any_not]
theorem anyWrite_f (ws:List (ByteArray×Bool×List Int)) (c:Int×Int×List ByteArray×List (ByteArray×Bool×List Int)) (hl:ws.length ≤ 1048576) (hit:∀ w ∈ ws,w.2.2.length ≤ 1048576) (hc:c.2.2.1.length ≤ 1048576) :
  g_AZ0 ws c = true ∧ g_VZ0_0 ws c = !ws.all (fun w => wrtP w.1 w.2.1 w.2.2&&hasP c.2.2.1 w.1) := by
 obtain ⟨r,h1,h2⟩ := loop_idx (e := .pair .str (.pair .bool (.sl 3 (.int .i64)))) ws (step := g_SZ3_0 ws c (ws.length:Int)) (fun w => !(wrtP w.1 w.2.1 w.2.2&&hasP c.2.2.1 w.1)) (fun i hi => by
  have h1:(i:Int) < ws.length := by omega
  have h2:(0:Int) ≤ (i:Int) := by omega
  have hw:IntKind.wrap .i64 ((i:Int) + 1) = ((i + 1:Nat):Int) := by rw [wrap64 (by omega)]; omega
  obtain ⟨q1,q2⟩ := i_WrtOk_f (at_ (.pair .str (.pair .bool (.sl 3 (.int .i64)))) ws i).1 (at_ (.pair .str (.pair .bool (.sl 3 (.int .i64)))) ws i).2.1 _ (hit _ (at_mem (e := .pair .str (.pair .bool (.sl 3 (.int .i64)))) hi))
  simp only [g_SZ3_0,RT.sel,cond_true,h1,h2,hw,decide_true,and_self,Int.toNat_natCast,g_AZ64,g_VZ64_0,q1,q2,(containsS_f _ _ hc).1,(containsS_f _ _ hc).2,Bool.or_true,Bool.and_true]
  generalize wrtP _ _ _ = p
  generalize hasP _ _ = q
  cases p <;> cases q <;> rfl) (by simp [g_SZ3_0,RT.sel])
 have h1:g_LZ3_0 ws c (ws.length:Int) 0 = some r := h1
 constructor
 ·simp [g_AZ0,g_AZ3,h1,okO]
 ·simp only [g_VZ0_0,g_VZ3_0,h1,valO,Option.getD_some,h2,List.not_all_eq_any_not]
theorem i_NoteOk_f (k t:Int) (ls:List ByteArray) (ws:List (ByteArray×Bool×List Int)) (h1:ls.length ≤ 1048576) (h2:ws.length ≤ 1048576) (h3:∀ w ∈ ws,w.2.2.length ≤ 1048576):g_Ai_NoteOk k t ls ws = true ∧ g_Vi_NoteOk_0 k t ls ws = noteP k t ls ws := by
 obtain ⟨a1,a2⟩ := anyKey_f ls h1
 obtain ⟨b1,b2⟩ := anyWrite_f ws (k,t,ls,ws) h2 h3 h1
 constructor
 ·simp [g_Ai_NoteOk,(isTx_f _).1,(i_in_f _ _ _).1,a1,b1]
 ·simp only [g_Vi_NoteOk_0,(isTx_f _).2,(i_in_f _ _ _).2,a2,b2,noteP]
  by_cases e1:k = 1
  ·subst e1
   have e2:decide ((ls.length:Int) > 12) = !decide (ls.length ≤ 12) := by rw [Bool.eq_iff_iff]; simp; omega
   have e3:decide ((ws.length:Int) > 12) = !decide (ws.length ≤ 12) := by rw [Bool.eq_iff_iff]; simp; omega
   simp only [e2,e3]
   generalize decide (0 ≤ t ∧ t ≤ 29) = p1
   generalize decide (ls.length ≤ 12) = p2
   generalize decide (ws.length ≤ 12) = p3
   generalize ls.all keyP = p4
   generalize ws.all _ = p5
   cases p1 <;> cases p2 <;> cases p3 <;> cases p4 <;> cases p5 <;> rfl
  ·have e4:(k != 1) = true := by simpa using e1
   have e5:decide (k = 1) = false := by simpa using e1
   simp only [e4,e5,cond_true,Bool.false_or]
   cases ls with
   | nil =>
    cases ws with
    | nil =>
     generalize decide (0 ≤ t ∧ t ≤ 29) = p1
     generalize decide (1 ≤ k ∧ k ≤ 4) = p2
     cases p1 <;> cases p2 <;> rfl
    | cons w ws =>
     have e6:(((w :: ws).length:Int) == 0) = false := by simp; omega
     simp only [e6,List.isEmpty_cons,Bool.and_false]
     cases decide (0 ≤ t ∧ t ≤ 29) <;> cases decide (1 ≤ k ∧ k ≤ 4) <;> simp
   | cons l ls =>
    have e6:(((l :: ls).length:Int) == 0) = false := by simp; omega
    simp only [e6,List.isEmpty_cons,Bool.and_false,Bool.false_and]
    cases decide (0 ≤ t ∧ t ≤ 29) <;> cases decide (1 ≤ k ∧ k ≤ 4) <;> simp
theorem s_NoteOk_f (k t:Int) (ls:List ByteArray) (ws:List (ByteArray×Bool×List Int)) (h1:ls.length ≤ 1048576) (h2:ws.length ≤ 1048576) (h3:∀ w ∈ ws,w.2.2.length ≤ 1048576):g_As_NoteOk k t ls ws = true ∧ g_Vs_NoteOk_0 k t ls ws = noteP k t ls ws := by
 have l0:g_Ls_NoteOk_0 k t ls ws 0 = some (bif ls.all keyP then .inr () else .inl false) := by
  refine loop_list (ρ := Bool ⊕ Unit) (e := .str) ls (fun i:Nat => (i:Int)) keyP (Sum.inl false) (Sum.inr ()) (fun i hi => ?_) ?_
  ·have k1:(i:Int) < ls.length := by omega
   have k2:(0:Int) ≤ (i:Int) := by omega
   have hw:IntKind.wrap .i64 ((i:Int) + 1) = ((i + 1:Nat):Int) := by rw [wrap64 (by omega)]; omega
   simp only [g_Ss_NoteOk_0,RT.sel,cond_true,k1,k2,hw,decide_true,and_self,Int.toNat_natCast,(s_l1Key_f _).1,(s_l1Key_f _).2]
   cases keyP (at_ .str ls i) <;> rfl
  ·simp [g_Ss_NoteOk_0,RT.sel]
 have l2:g_Ls_NoteOk_2 k t ls ws 0 = some (bif ws.all (fun w => wrtP w.1 w.2.1 w.2.2&&hasP ls w.1) then .inr () else .inl false) := by
  refine loop_list (ρ := Bool ⊕ Unit) (e := .pair .str (.pair .bool (.sl 3 (.int .i64)))) ws (fun i:Nat => (i:Int)) (fun w => wrtP w.1 w.2.1 w.2.2&&hasP ls w.1) (Sum.inl false) (Sum.inr ()) (fun i hi => ?_) ?_
  ·have k1:(i:Int) < ws.length := by omega
   have k2:(0:Int) ≤ (i:Int) := by omega
   have hw:IntKind.wrap .i64 ((i:Int) + 1) = ((i + 1:Nat):Int) := by rw [wrap64 (by omega)]; omega
   obtain ⟨q1,q2⟩ := s_WrtOk_f (at_ (.pair .str (.pair .bool (.sl 3 (.int .i64)))) ws i).1 (at_ (.pair .str (.pair .bool (.sl 3 (.int .i64)))) ws i).2.1 _ (h3 _ (at_mem (e := .pair .str (.pair .bool (.sl 3 (.int .i64)))) hi))
   simp only [g_Ss_NoteOk_2,RT.sel,cond_true,k1,k2,hw,decide_true,and_self,Int.toNat_natCast,q1,q2,(l2Has_f _ _ h1).1,(l2Has_f _ _ h1).2]
   generalize wrtP _ _ _ = p
   generalize hasP _ _ = q
   cases p <;> cases q <;> rfl
  ·simp [g_Ss_NoteOk_2,RT.sel]
 have e2:decide ((ls.length:Int) > 12) = !decide (ls.length ≤ 12) := by rw [Bool.eq_iff_iff]; simp; omega
 have e3:decide ((ws.length:Int) > 12) = !decide (ws.length ≤ 12) := by rw [Bool.eq_iff_iff]; simp; omega
 have e4:(k == 1) = decide (k = 1) := rfl
 have e5:(IntKind.wrap .i64 ((ls.length:Int) + (ws.length:Int)) == 0) = (ls.isEmpty&&ws.isEmpty) := by
  rw [wrap64 (by omega)]
  cases ls <;> cases ws <;> simp <;> omega
 constructor
 ·simp [g_As_NoteOk,(s_l1In_f _ _ _).1,l0,l2,okO]
 ·simp only [g_Vs_NoteOk_0,(s_l1In_f _ _ _).2,l0,l2,valO,Option.getD_some,noteP,e2,e3,e4,e5]
  generalize decide (1 ≤ k ∧ k ≤ 4) = p0
  generalize decide (0 ≤ t ∧ t ≤ 29) = p1
  generalize decide (ls.length ≤ 12) = p2
  generalize decide (ws.length ≤ 12) = p3
  generalize ls.all keyP = p4
  generalize ws.all _ = p5
  generalize decide (k = 1) = p6
  generalize (ls.isEmpty&&ws.isEmpty) = p7
  cases p0 <;> cases p1 <;> cases p2 <;> cases p3 <;> cases p4 <;> cases p5 <;> cases p6 <;> cases p7 <;> rfl
abbrev Note:Type := Int×Int×List ByteArray×List (ByteArray×Bool×List Int)
abbrev NI_:Ty := .pair (.int .i64) (.pair (.int .i64) (.pair (.sl 9 .str) (.sl 155 (.pair .str (.pair .bool (.sl 3 (.int .i64)))))))
def smallN (x:Note):Prop := x.2.2.1.length ≤ 1048576 ∧ x.2.2.2.length ≤ 1048576 ∧ ∀ w ∈ x.2.2.2,w.2.2.length ≤ 1048576
def noteQ (x:Note):Bool := noteP x.1 x.2.1 x.2.2.1 x.2.2.2
def diskP (d:List Note) (safe:Int):Bool := decide (d.length ≤ 120)&&(decide (0 ≤ safe ∧ safe ≤ (d.length:Int))&&d.all noteQ)
theorem s_DiskOk_f (l:List Note) (safe:Int) (hl:l.length ≤ 1048576) (hit:∀ x ∈ l,smallN x):g_As_DiskOk l safe = true ∧ g_Vs_DiskOk_0 l safe = diskP l safe := by
 have h:g_Ls_DiskOk_0 l safe 0 = some (bif l.all noteQ then .inr () else .inl false) := by
  refine loop_list (ρ := Bool ⊕ Unit) (e := NI_) l (fun i:Nat => (i:Int)) noteQ (Sum.inl false) (Sum.inr ()) (fun i hi => ?_) ?_
  ·have k1:(i:Int) < l.length := by omega
   have k2:(0:Int) ≤ (i:Int) := by omega
   have hw:IntKind.wrap .i64 ((i:Int) + 1) = ((i + 1:Nat):Int) := by rw [wrap64 (by omega)]; omega
   have hh := hit _ (at_mem (e := NI_) hi)
   obtain ⟨q1,q2⟩ := s_NoteOk_f (at_ NI_ l i).1 (at_ NI_ l i).2.1 (at_ NI_ l i).2.2.1 (at_ NI_ l i).2.2.2 hh.1 hh.2.1 hh.2.2
   have q2:g_Vs_NoteOk_0 (at_ NI_ l i).1 (at_ NI_ l i).2.1 (at_ NI_ l i).2.2.1 (at_ NI_ l i).2.2.2 = noteQ (at_ NI_ l i) := q2
   simp only [g_Ss_DiskOk_0,RT.sel,cond_true,k1,k2,hw,decide_true,and_self,Int.toNat_natCast,q1,q2]
   generalize noteQ _ = p
   cases p <;> rfl
  ·simp [g_Ss_DiskOk_0,RT.sel]
 have e2:decide ((l.length:Int) > 120) = !decide (l.length ≤ 120) := by rw [Bool.eq_iff_iff]; simp; omega
 constructor
 ·simp [g_As_DiskOk,h,okO,(s_l1In_f _ _ _).1]
 ·simp only [g_Vs_DiskOk_0,h,valO,Option.getD_some,e2,(s_l1In_f _ _ _).2,diskP]
  generalize l.all noteQ = p
  generalize decide (l.length ≤ 120) = q
  generalize decide (0 ≤ safe ∧ safe ≤ (l.length:Int)) = r
  cases p <;> cases q <;> cases r <;> rfl
theorem i_DiskOk_f (l:List Note) (safe:Int) (hl:l.length ≤ 1048576) (hit:∀ x ∈ l,smallN x):g_Ai_DiskOk l safe = true ∧ g_Vi_DiskOk_0 l safe = diskP l safe := by
 obtain ⟨r,h1,h2⟩ := loop_idx (e := NI_) l (step := g_SZ5_0 l (l.length:Int)) (fun x => !noteQ x) (fun i hi => by
  have h1:(i:Int) < l.length := by omega
  have h2:(0:Int) ≤ (i:Int) := by omega
  have hw:IntKind.wrap .i64 ((i:Int) + 1) = ((i + 1:Nat):Int) := by rw [wrap64 (by omega)]; omega
  have hh := hit _ (at_mem (e := NI_) hi)
  obtain ⟨q1,q2⟩ := i_NoteOk_f (at_ NI_ l i).1 (at_ NI_ l i).2.1 (at_ NI_ l i).2.2.1 (at_ NI_ l i).2.2.2 hh.1 hh.2.1 hh.2.2
  have q2:g_Vi_NoteOk_0 (at_ NI_ l i).1 (at_ NI_ l i).2.1 (at_ NI_ l i).2.2.1 (at_ NI_ l i).2.2.2 = noteQ (at_ NI_ l i) := q2
  simp only [g_SZ5_0,RT.sel,cond_true,h1,h2,hw,decide_true,and_self,Int.toNat_natCast,g_AZ66,q1,q2]) (by simp [g_SZ5_0,RT.sel])
 have h1:g_LZ5_0 l (l.length:Int) 0 = some r := h1
 have a1:g_AZ1 l = true := by simp [g_AZ1,g_AZ5,h1,okO]
 have a2:g_VZ1_0 l = !l.all noteQ := by simp only [g_VZ1_0,g_VZ5_0,h1,valO,Option.getD_some,h2,List.not_all_eq_any_not]
 have e2:decide ((l.length:Int) ≤ 120) = decide (l.length ≤ 120) := decide_eq_decide.2 (by omega)
 constructor
 ·simp [g_Ai_DiskOk,a1,(i_in_f _ _ _).1]
 ·simp only [g_Vi_DiskOk_0,a2,e2,(i_in_f _ _ _).2,diskP]
  generalize l.all noteQ = p
  generalize decide (l.length ≤ 120) = q
  generalize decide (0 ≤ safe ∧ safe ≤ (l.length:Int)) = r
  cases p <;> cases q <;> cases r <;> rfl
abbrev NL_:Ty := .pair (.int .i64) (.pair (.int .i64) (.pair (.sl 9 .str) (.sl 196 (.pair .str (.pair .bool (.sl 3 (.int .i64)))))))
def szN (x:Note):Nat := szL ByteArray.size x.2.2.1 + szL szW x.2.2.2
def okN (x:Note):Prop := (Lit.int .i64 x.1).wf = true ∧ (Lit.int .i64 x.2.1).wf = true ∧ (x.2.2.1.length ≤ maxLen ∧ ∀ s ∈ x.2.2.1,s.size ≤ maxLen) ∧ (x.2.2.2.length ≤ maxLen ∧ ∀ w ∈ x.2.2.2,okW w)
theorem small_note {x:Note} {B:Nat} (h:szN x ≤ B) (hB:B ≤ 1048576):smallN x := by
 unfold szN at h
 have b1 := szL_len (z := ByteArray.size) (l := x.2.2.1) (B := B) (by omega)
 have b2 := szL_len (z := szW) (l := x.2.2.2) (B := B) (by omega)
 exact ⟨by omega,by omega,fun w hw => by have := b2.2 w hw; unfold szW at this; omega⟩
theorem szLogNoteS_f (l:List Note) (hl:l.length ≤ maxLen) (hok:∀ w ∈ l,okN w) (left:Int) (h0:0 ≤ left) (h1:left ≤ 1048576):g_AZ48 l left = true ∧ g_VZ48_0 l left = left_ (szL szN l) left := by
 have hm := maxLen_lt hl
 unfold g_AZ48 g_VZ48_0
 rw [left_step hm h0 h1]
 by_cases h:left - (l.length:Int) < 0
 ·rw [decide_eq_true h]
  refine ⟨rfl,?_⟩
  unfold left_ szL
  rw [cond_true,if_neg (by omega)]
 ·rw [decide_eq_false h]
  obtain ⟨r,e1,e2⟩ := loop_sz (step := g_SZ48_0 l) (fun i => szN (at_ NL_ l i)) l.length (fun i left hi h0 h1 => by
   have k1:(i:Int) < l.length := by omega
   have k2:(0:Int) ≤ (i:Int) := by omega
   have hw:IntKind.wrap .i64 ((i:Int) + 1) = ((i + 1:Nat):Int) := by rw [wrap64 (by omega)]; omega
   have hit := hok _ (at_mem (e := NL_) hi)
   obtain ⟨q1,q2⟩ := szLogNote_f (at_ NL_ l i).1 (at_ NL_ l i).2.1 (at_ NL_ l i).2.2.1 (at_ NL_ l i).2.2.2 hit.2.2.1.1 hit.2.2.1.2 hit.2.2.2.1 hit.2.2.2.2 left h0 h1
   have q2:g_VZ59_0 (at_ NL_ l i).1 (at_ NL_ l i).2.1 (at_ NL_ l i).2.2.1 (at_ NL_ l i).2.2.2 left = left_ (szN (at_ NL_ l i)) left := q2
   simp only [g_SZ48_0,RT.sel,cond_true,k1,k2,hw,decide_true,and_self,Int.toNat_natCast,q1,q2,left_dec _ _ h0]
   by_cases hc:((szN (at_ NL_ l i):Nat):Int) ≤ left
   ·simp only [decide_eq_true hc,Bool.not_true,cond_false,cond_true,left_val hc]
   ·simp only [decide_eq_false hc,Bool.not_false,cond_true,cond_false]
    simp only [left_,if_neg hc]) (fun left => by simp [g_SZ48_0,RT.sel]) (left - l.length) (by omega) (by omega)
  have e1:g_LZ48_0 l (left - l.length,0) = some r := e1
  rw [e1]
  refine ⟨rfl,?_⟩
  simp only [valO,Option.getD_some,cond_false]
  rw [e2,sumF_sum (e := NL_)]
  show _ = left_ (l.length + (l.map szN).sum) left
  rw [← left_two,decide_eq_false h,cond_false]
theorem szLogDisk_f (l:List Note) (safe:Int) (hl:l.length ≤ maxLen) (hok:∀ w ∈ l,okN w) (left:Int) (h0:0 ≤ left) (h1:left ≤ 1048576):g_AZ60 l safe left = true ∧ g_VZ60_0 l safe left = left_ (szL szN l) left := by
 obtain ⟨a,b⟩ := szLogNoteS_f l hl hok left h0 h1
 simp only [g_AZ60,g_VZ60_0,a,b,left_neg _ _ h0,Bool.and_true,and_self]
theorem toLogNoteS_f (l:List Note) (hl:l.length ≤ 1048576) (hit:∀ x ∈ l,smallN x):g_AZ51 l = true ∧ g_VZ51_0 l = l := by
 have h:g_LZ51_0 l (List.replicate (Int.toNat (l.length:Int)) (0,0,[],[]),0) = some (l.map id) := by
  refine loop_map (e := NL_) l id id (fun i r hi hr => ?_) (fun r hr => ?_) _ (by simp)
  ·have k1:(i:Int) < l.length := by omega
   have k2:(0:Int) ≤ (i:Int) := by omega
   have k3:(i:Int) < r.length := by omega
   have k4:i < r.length := by omega
   have hw:IntKind.wrap .i64 ((i:Int) + 1) = ((i + 1:Nat):Int) := by rw [wrap64 (by omega)]; omega
   have hh := hit _ (at_mem (e := NL_) hi)
   obtain ⟨q1,q2⟩ := toStringS_f _ hh.1
   obtain ⟨q3,q4⟩ := toStoWriteS_f _ hh.2.1 hh.2.2
   simp only [g_SZ51_0,RT.sel,cond_true,k1,k2,k3,k4,hw,decide_true,and_self,Int.toNat_natCast,id,g_AZ62,q1,q2,q3,q4,Bool.and_self]
  ·simp [g_SZ51_0,RT.sel]
 rw [List.map_id] at h
 constructor
 ·rw [Int.toNat_natCast] at h; simp [g_AZ51,h,okO]; omega
 ·simp only [g_VZ51_0,h,valO,Option.getD_some]
theorem eqLogNote_self (x:Note) (h:smallN x):g_AZ55 x.1 x.2.1 x.2.2.1 x.2.2.2 x.1 x.2.1 x.2.2.1 x.2.2.2 = true ∧ g_VZ55_0 x.1 x.2.1 x.2.2.1 x.2.2.2 x.1 x.2.1 x.2.2.1 x.2.2.2 = true := by
 obtain ⟨p1,p2⟩ := eqStringS_self x.2.2.1 h.1
 obtain ⟨q1,q2⟩ := eqStoWriteS_self x.2.2.2 h.2.1 h.2.2
 simp [g_AZ55,g_VZ55_0,p1,p2,q1,q2]
theorem eqLogNoteS_self (l:List Note) (hl:l.length ≤ 1048576) (hit:∀ x ∈ l,smallN x):g_AZ43 l l = true ∧ g_VZ43_0 l l = true := by
 have h:g_LZ43_0 l l 0 = some (.inr ()) := by
  have := loop_all (step := g_SZ43_0 l l) (fun i:Nat => (i:Int)) (fun _ => true) (.inl false) (.inr ()) l.length (fun i hi => by
   have k1:(i:Int) < l.length := by omega
   have k2:(0:Int) ≤ (i:Int) := by omega
   have hw:IntKind.wrap .i64 ((i:Int) + 1) = ((i + 1:Nat):Int) := by rw [wrap64 (by omega)]; omega
   obtain ⟨q1,q2⟩ := eqLogNote_self _ (hit _ (at_mem (e := NI_) hi))
   simp only [g_SZ43_0,RT.sel,cond_true,k1,k2,hw,decide_true,and_self,Int.toNat_natCast,q1,q2,Bool.not_true,cond_false]) (by simp [g_SZ43_0,RT.sel])
  rw [show (List.range l.length).all (fun _ => true) = true by simp] at this
  exact this
 simp [g_AZ43,g_VZ43_0,h,okO,valO,isL]
theorem eqLogDisk_self (l:List Note) (safe:Int) (hl:l.length ≤ 1048576) (hit:∀ x ∈ l,smallN x):g_AZ56 l safe l safe = true ∧ g_VZ56_0 l safe l safe = true := by
 obtain ⟨a,b⟩ := eqLogNoteS_self l hl hit
 simp [g_AZ56,g_VZ56_0,a,b]
theorem small_disk {l:List Note} {B:Nat} (h:szL szN l ≤ B) (hB:B ≤ 1048576):l.length ≤ B ∧ ∀ x ∈ l,smallN x := by
 have := szL_len h
 exact ⟨this.1,fun x hx => small_note (this.2 x hx) hB⟩
theorem loop_inv {σ ρ:Type} {step:σ → RT σ ρ} (I:σ → Prop) (R:ρ → Prop) (μ:σ → Nat) (h:∀ x,I x → (∃ y,(step x).sel = .go y ∧ I y ∧ μ y < μ x) ∨ ∃ r,(step x).sel = .out r ∧ R r):∀ x,I x → ∃ r,loopO step x = some r ∧ R r := by
 have key:∀ n x,μ x ≤ n → I x → ∃ r,loopO step x = some r ∧ R r := by
  intro n
  induction n with
  | zero =>
   intro x hx hI
   rcases h x hI with ⟨y,_,_,h3⟩ | ⟨r,h1,h2⟩
   ·omega
   ·exact ⟨r,by rw [loopO_eq,h1],h2⟩
  | succ n ih =>
   intro x hx hI
   rcases h x hI with ⟨y,h1,h2,h3⟩ | ⟨r,h1,h2⟩
   ·obtain ⟨r,e1,e2⟩ := ih y (by omega) h2
    exact ⟨r,by rw [loopO_eq,h1]; exact e1,e2⟩
   ·exact ⟨r,by rw [loopO_eq,h1],h2⟩
 exact fun x hI => key (μ x) x (Nat.le_refl _) hI
def mkL {α:Type} (m:α → Int → α) (c:α → Nat):List α → Int → List α
 | [],_ => []
 | x :: r,k => m x k :: mkL m c r (k + c x)
theorem mkL_len {α:Type} (m:α → Int → α) (c:α → Nat):∀ (l:List α) (k:Int),(mkL m c l k).length = l.length
 | [],_ => rfl
 | x :: r,k => by simp [mkL,mkL_len m c r]
def sumC {α:Type} (c:α → Nat) (l:List α):Nat := (l.map c).sum
theorem sumC_cons {α:Type} (c:α → Nat) (x:α) (l:List α):sumC c (x :: l) = c x + sumC c l := by simp [sumC]
theorem sumC_one {α:Type}:∀ (l:List α),sumC (fun _ => 1) l = l.length
 | [] => rfl
 | x :: l => by rw [sumC_cons,sumC_one l,List.length_cons]; omega
theorem at_set {e:Ty} {l:List e.den} {i:Nat} {x:e.den} (h:i < l.length):at_ e (l.set i x) i = x := by
 simp [at_,List.getD,List.getElem?_set_self h]
section
variable {e:Ty}
theorem at_split (pre:List e.den) (x:e.den) (s:List e.den):at_ e (pre ++ x :: s) pre.length = x := by simp [at_,List.getD]
theorem mark_loop {step:List e.den×Int×Int → RT (List e.den×Int×Int) (List e.den×Int)} (m:e.den → Int → e.den) (c:e.den → Nat) (l:List e.den) (B:Int)
  (h1:∀ (i:Nat) (r:List e.den) (k:Int),i < l.length → r.length = l.length → at_ e r i = at_ e l i → 0 ≤ k → k + (c (at_ e l i):Int) ≤ B → (step (r,k,(i:Int))).sel = .go (r.set i (m (at_ e l i) k),k + c (at_ e l i),((i + 1:Nat):Int)))
  (h2:∀ (r:List e.den) (k:Int),r.length = l.length → (step (r,k,(l.length:Int))).sel = .out (r,k))
  (k0:Int) (h0:0 ≤ k0) (hB:k0 + (sumC c l:Nat) ≤ B):loopO step (l,k0,0) = some (mkL m c l k0,k0 + (sumC c l:Nat)) := by
 have key:∀ (s pre:List e.den) (k:Int),pre.length + s.length = l.length → s = l.drop pre.length → 0 ≤ k → k + (sumC c s:Nat) ≤ B → loopO step (pre ++ s,k,(pre.length:Int)) = some (pre ++ mkL m c s k,k + (sumC c s:Nat)) := by
  intro s
  induction s with
  | nil =>
   intro pre k hl _ _ _
   have e1:pre.length = l.length := by simpa using hl
   rw [loopO_eq,e1,h2 (pre ++ []) k (by simpa using e1)]
   simp [mkL,sumC]
  | cons x s ih =>
   intro pre k hl hs hk hb
   rw [List.length_cons] at hl
   rw [sumC_cons] at hb
   have hi:pre.length < l.length := by omega
   have hx:at_ e l pre.length = x := by
    rw [at_eq hi]
    have := congrArg (fun t => t[0]?) hs
    simp only [List.getElem?_cons_zero,List.getElem?_drop,Nat.add_zero,List.getElem?_eq_getElem hi,Option.some.injEq] at this
    exact this.symm
   rw [loopO_eq,h1 pre.length (pre ++ x :: s) k hi (by simp; omega) (by rw [at_split,hx]) hk (by rw [hx]; omega),hx]
   have es:(pre ++ x :: s).set pre.length (m x k) = (pre ++ [m x k]) ++ s := by simp
   simp only [es]
   have := ih (pre ++ [m x k]) (k + c x) (by simp; omega) (by
    rw [List.length_append,List.length_singleton,← List.drop_drop,← hs]; rfl) (by omega) (by omega)
   rw [List.length_append,List.length_singleton] at this
   rw [this]
   simp only [mkL,List.append_assoc,List.singleton_append,sumC_cons]
   congr 2
   omega
 have := key l [] k0 (by simp) (by simp) h0 hB
 simpa using this
theorem held_loop {ρ:Type} {step:Int×Int → RT (Int×Int) ρ} (m:e.den → Int → e.den) (c:e.den → Nat) (l:List e.den) (B:Int) (fin:Int → ρ) (k0:Int)
  (h1:∀ (i:Nat) (k:Int),i < l.length → at_ e (mkL m c l k0) i = m (at_ e l i) k → 0 ≤ k → k + (c (at_ e l i):Int) ≤ B → (step (k,(i:Int))).sel = .go (k + c (at_ e l i),((i + 1:Nat):Int)))
  (h2:∀ (k:Int),(step (k,(l.length:Int))).sel = .out (fin k))
  (h0:0 ≤ k0) (hB:k0 + (sumC c l:Nat) ≤ B):loopO step (k0,0) = some (fin (k0 + (sumC c l:Nat))) := by
 have key:∀ (s:List e.den) (n:Nat) (k:Int),n + s.length = l.length → s = l.drop n → (mkL m c l k0).drop n = mkL m c s k → 0 ≤ k → k + (sumC c s:Nat) ≤ B → loopO step (k,(n:Int)) = some (fin (k + (sumC c s:Nat))) := by
  intro s
  induction s with
  | nil =>
   intro n k hl _ _ _ _
   have e1:n = l.length := by simpa using hl
   rw [loopO_eq,e1,h2 k]
   simp [sumC]
  | cons x s ih =>
   intro n k hl hs hm hk hb
   rw [List.length_cons] at hl
   rw [sumC_cons] at hb
   have hi:n < l.length := by omega
   have hx:at_ e l n = x := by
    rw [at_eq hi]
    have := congrArg (fun t => t[0]?) hs
    simp only [List.getElem?_cons_zero,List.getElem?_drop,Nat.add_zero,List.getElem?_eq_getElem hi,Option.some.injEq] at this
    exact this.symm
   have hi2:n < (mkL m c l k0).length := by rw [mkL_len]; exact hi
   have hmx:at_ e (mkL m c l k0) n = m x k := by
    rw [at_eq hi2]
    have := congrArg (fun t => t[0]?) hm
    simp only [mkL,List.getElem?_cons_zero,List.getElem?_drop,Nat.add_zero,List.getElem?_eq_getElem hi2,Option.some.injEq] at this
    exact this
   rw [loopO_eq,h1 n k hi (by rw [hmx,hx]) hk (by rw [hx]; omega),hx]
   simp only
   rw [ih (n + 1) (k + c x) (by omega) (by rw [← List.drop_drop,← hs]; rfl) (by rw [← List.drop_drop,hm]; rfl) (by omega) (by omega),sumC_cons]
   congr 2
   omega
 exact key l 0 k0 (by simp) (by simp) (by simp) h0 hB
end
def MK:Int := 1099511627776
theorem wrapM {x:Int} (h:0 ≤ x ∧ x ≤ 1099511627776 + 1000):IntKind.wrap .i64 x = x := wrap64 (by omega)
theorem markText_f (k:Int) (h:0 ≤ k ∧ k ≤ MK):g_AZ76 k = true := by
 unfold g_AZ76
 by_cases hk:k ≤ 0
 ·simp [hk]
 ·obtain ⟨r,h1,h2⟩ := loop_inv (step := g_SZ76_0) (fun x => 0 ≤ x.1 ∧ x.2.size ≤ 41 ∧ x.1 < 2 ^ (41 - x.2.size)) (fun r => r.size ≤ 41) (fun x => x.1.toNat) (fun x hx => by
   obtain ⟨n,s⟩ := x
   obtain ⟨i1,i2,i3⟩ := hx
   simp only at i1 i2 i3
   by_cases hn:n > 0
   ·have hs:s.size < 41 := by
     rcases Nat.lt_or_ge s.size 41 with h | h
     ·exact h
     ·have:s.size = 41 := by omega
      rw [this] at i3
      simp at i3
      omega
    have hd:Int.tdiv n 10 = n / 10 := Int.tdiv_eq_ediv_of_nonneg i1
    have hbig:n < 2 ^ 41 := by
     refine Int.lt_of_lt_of_le i3 ?_
     have:(2:Int) ^ (41 - s.size) = ((2 ^ (41 - s.size):Nat):Int) := by simp
     rw [this]
     have := Nat.pow_le_pow_right (show 0 < 2 by decide) (show 41 - s.size ≤ 41 by omega)
     have e:(2:Int) ^ 41 = ((2 ^ 41:Nat):Int) := by norm_cast
     rw [e]
     exact_mod_cast this
    have hw:IntKind.wrap .i64 (Int.tdiv n 10) = n / 10 := by rw [hd]; exact wrap64 (by omega)
    let one:ByteArray := ⟨List.toArray (List.map (fun n => UInt8.ofNat (Int.toNat n)) [IntKind.wrap IntKind.u8 (IntKind.wrap IntKind.i64 ((48:Int) + Int.tmod n (10:Int)))])⟩
    have ho:(one ++ s).size = s.size + 1 := by
     rw [ByteArray.size_append]
     show 1 + s.size = _
     omega
    refine .inl ⟨(n / 10,one ++ s),?_,⟨by simp only; omega,by simp only; omega,?_⟩,by simp only; omega⟩
    ·have hsz:(nat_lit 1:Nat) + s.size ≤ nat_lit 9223372036854775807 := by
      exact Nat.le_trans (show 1 + s.size ≤ 100 by omega) (by decide)
     simp only [g_SZ76_0,RT.sel,hn,decide_true,cond_true,hw]
     rw [show decide (ByteArray.size one + s.size ≤ nat_lit 9223372036854775807) = true from decide_eq_true hsz]
     rfl
    ·simp only [ho]
     have:(41 - s.size) = (41 - (s.size + 1)) + 1 := by omega
     rw [this,Int.pow_succ] at i3
     omega
   ·refine .inr ⟨s,?_,i2⟩
    simp only [g_SZ76_0,RT.sel,hn,decide_false,cond_true,cond_false]) (k,lit []) ⟨h.1,show (0:Nat) ≤ 41 by decide,by
     have:(lit []).size = 0 := rfl
     simp only [this]
     have := h.2
     unfold MK at this
     omega⟩
  have h1:g_LZ76_0 (k,lit []) = some r := h1
  rw [h1]
  simp only [okO,valO,Option.isSome_some,Option.getD_some,Bool.true_and,decide_eq_false hk,Bool.false_or]
  exact decide_eq_true (Nat.le_trans (show 1 + r.size ≤ 100 by omega) (by decide))
abbrev mkI (l:List Int) (k:Int):List Int := mkL (fun _ k => k) (fun _ => 1) l k
theorem markIntS_f (l:List Int) (k:Int) (hl:l.length ≤ 1048576) (h:0 ≤ k ∧ k + l.length ≤ MK):g_AZ77 l k = true ∧ g_VZ77_0 l k = k + l.length ∧ g_VZ77_1 l k = mkI l k := by
 have L:g_LZ77_0 (l,k,0) = some (mkI l k,k + l.length) := by
  have := mark_loop (e := .int .i64) (step := g_SZ77_0) (fun _ k => k) (fun _ => 1) l MK (fun i r k hi hr _ h0 hb => by
   have k1:(i:Int) < r.length := by omega
   have k2:(0:Int) ≤ (i:Int) := by omega
   have k3:i < r.length := by omega
   unfold MK at hb
   simp only [g_SZ77_0,RT.sel,cond_true,k1,k2,k3,decide_true,and_self,Int.toNat_natCast,wrapM (x := k + 1) (by omega),wrapM (x := (i:Int) + 1) (by omega)]
   congr 1) (fun r k hr => by simp only [g_SZ77_0,RT.sel,cond_true,hr,Int.lt_irrefl,decide_false,cond_false]) k h.1 (by rw [sumC_one]; exact h.2)
  rw [sumC_one] at this
  exact this
 simp only [g_AZ77,g_VZ77_0,g_VZ77_1,L,okO,valO,Option.isSome_some,Option.getD_some,and_self]
theorem heldIntS_f (l:List Int) (k:Int) (hl:l.length ≤ 1048576) (h:0 ≤ k ∧ k + l.length ≤ MK):g_AZ75 (mkI l k) k = true ∧ g_VZ75_0 (mkI l k) k = k + l.length := by
 have L:g_LZ75_0 (mkI l k) (k,0) = some (.inr (k + l.length)) := by
  have := held_loop (e := .int .i64) (step := g_SZ75_0 (mkI l k)) (fun _ k => k) (fun _ => 1) l MK (fun k => .inr k) k (fun i k' hi ha h0 hb => by
   have hlen:(mkI l k).length = l.length := mkL_len _ _ _ _
   have k1:(i:Int) < (mkI l k).length := by omega
   have k2:(0:Int) ≤ (i:Int) := by omega
   have ha:at_ (.int .i64) (mkI l k) i = k' := ha
   unfold MK at hb
   simp only [g_SZ75_0,RT.sel,cond_true,k1,k2,decide_true,and_self,Int.toNat_natCast,ha,bne_self_eq_false,cond_false,wrapM (x := k' + 1) (by omega),wrapM (x := (i:Int) + 1) (by omega)]
   congr 1) (fun k' => by
    have hlen:(mkI l k).length = l.length := mkL_len _ _ _ _
    simp only [g_SZ75_0,RT.sel,cond_true,hlen,Int.lt_irrefl,decide_false,cond_false]) h.1 (by rw [sumC_one]; exact h.2)
  rw [sumC_one] at this
  exact this
 simp only [g_AZ75,g_VZ75_0,L,okO,valO,Option.isSome_some,Option.getD_some,isL,getR,cond_false,and_self]
noncomputable abbrev mkS (l:List ByteArray) (k:Int):List ByteArray := mkL (fun _ k => g_VZ76_0 k) (fun _ => 1) l k
theorem markStringS_f (l:List ByteArray) (k:Int) (hl:l.length ≤ 1048576) (h:0 ≤ k ∧ k + l.length ≤ MK):g_AZ35 l k = true ∧ g_VZ35_0 l k = k + l.length ∧ g_VZ35_1 l k = mkS l k := by
 have L:g_LZ35_0 (l,k,0) = some (mkS l k,k + l.length) := by
  have := mark_loop (e := .str) (step := g_SZ35_0) (fun _ k => g_VZ76_0 k) (fun _ => 1) l MK (fun i r k hi hr _ h0 hb => by
   have k1:(i:Int) < r.length := by omega
   have k2:(0:Int) ≤ (i:Int) := by omega
   have k3:i < r.length := by omega
   unfold MK at hb
   have t := markText_f k ⟨h0,by unfold MK; omega⟩
   simp only [g_SZ35_0,RT.sel,cond_true,k1,k2,k3,decide_true,and_self,Int.toNat_natCast,t,wrapM (x := k + 1) (by omega),wrapM (x := (i:Int) + 1) (by omega)]
   congr 1) (fun r k hr => by simp only [g_SZ35_0,RT.sel,cond_true,hr,Int.lt_irrefl,decide_false,cond_false]) k h.1 (by rw [sumC_one]; exact h.2)
  rw [sumC_one] at this
  exact this
 simp only [g_AZ35,g_VZ35_0,g_VZ35_1,L,okO,valO,Option.isSome_some,Option.getD_some,and_self]
abbrev WM_:Ty := .pair .str (.pair .bool (.sl 3 (.int .i64)))
noncomputable abbrev mW (x:ByteArray×Bool×List Int) (k:Int):ByteArray×Bool×List Int := (g_VZ76_0 k,Int.tmod (k + 1) 3 == 0,mkI x.2.2 (k + 2))
abbrev cW (x:ByteArray×Bool×List Int):Nat := 2 + x.2.2.length
noncomputable abbrev mkW (l:List (ByteArray×Bool×List Int)) (k:Int):List (ByteArray×Bool×List Int) := mkL mW cW l k
theorem markStoWriteS_f (l:List (ByteArray×Bool×List Int)) (k:Int) (hl:l.length ≤ 1048576) (hit:∀ x ∈ l,x.2.2.length ≤ 1048576) (h:0 ≤ k ∧ k + (sumC cW l:Nat) ≤ MK):g_AZ26 l k = true ∧ g_VZ26_0 l k = k + (sumC cW l:Nat) ∧ g_VZ26_1 l k = mkW l k := by
 have L:g_LZ26_0 (l,k,0) = some (mkL mW cW l k,k + (sumC cW l:Nat)) := by
  refine mark_loop (e := WM_) (step := g_SZ26_0) mW cW l MK (fun i r k hi hr ha h0 hb => ?_) (fun r k hr => by simp only [g_SZ26_0,RT.sel,cond_true,hr,Int.lt_irrefl,decide_false,cond_false]) k h.1 h.2
  have k1:(i:Int) < r.length := by omega
  have k2:(0:Int) ≤ (i:Int) := by omega
  have k3:i < r.length := by omega
  have ha:at_ (.pair .str (.pair .bool (.sl 3 (.int .i64)))) r i = at_ WM_ l i := ha
  have hx := hit _ (at_mem (e := WM_) hi)
  simp only [cW] at hb
  unfold MK at hb
  have t := markText_f k ⟨h0,by unfold MK; omega⟩
  obtain ⟨a1,a2,a3⟩ := markIntS_f (at_ WM_ l i).2.2 (k + 2) hx ⟨by omega,by unfold MK; omega⟩
  have e2:k + 1 + 1 = k + 2 := by omega
  simp only [g_SZ26_0,uq1340,uq1341,updE,RT.sel,cond_true,k1,k2,k3,decide_true,and_self,Int.toNat_natCast,t,List.length_set,at_set k3,ha,wrapM (x := k + 1) (by omega),e2,wrapM (x := k + 2) (by omega),a1,a2,a3,List.set_set,wrapM (x := (i:Int) + 1) (by omega)]
  simp only [cW]
  congr 3
  omega
 simp only [g_AZ26,g_VZ26_0,g_VZ26_1,L,okO,valO,Option.isSome_some,Option.getD_some,and_self]
noncomputable abbrev mN (x:Note) (k:Int):Note := (k,k + 1,mkS x.2.2.1 (k + 2),mkW x.2.2.2 (k + 2 + x.2.2.1.length))
abbrev cN (x:Note):Nat := 2 + x.2.2.1.length + sumC cW x.2.2.2
noncomputable abbrev mkN (l:List Note) (k:Int):List Note := mkL mN cN l k
theorem markLogNoteS_f (l:List Note) (k:Int) (hl:l.length ≤ 1048576) (hit:∀ x ∈ l,smallN x) (h:0 ≤ k ∧ k + (sumC cN l:Nat) ≤ MK):g_AZ29 l k = true ∧ g_VZ29_0 l k = k + (sumC cN l:Nat) ∧ g_VZ29_1 l k = mkN l k := by
 have L:g_LZ29_0 (l,k,0) = some (mkL mN cN l k,k + (sumC cN l:Nat)) := by
  refine mark_loop (e := NI_) (step := g_SZ29_0) mN cN l MK (fun i r k hi hr ha h0 hb => ?_) (fun r k hr => by simp only [g_SZ29_0,RT.sel,cond_true,hr,Int.lt_irrefl,decide_false,cond_false]) k h.1 h.2
  have k1:(i:Int) < r.length := by omega
  have k2:(0:Int) ≤ (i:Int) := by omega
  have k3:i < r.length := by omega
  have ha:at_ NI_ r i = at_ NI_ l i := ha
  obtain ⟨x1,x2,x3⟩ := hit _ (at_mem (e := NI_) hi)
  simp only [cN] at hb
  unfold MK at hb
  obtain ⟨a1,a2,a3⟩ := markStringS_f (at_ NI_ l i).2.2.1 (k + 2) x1 ⟨by omega,by unfold MK; omega⟩
  obtain ⟨b1,b2,b3⟩ := markStoWriteS_f (at_ NI_ l i).2.2.2 (k + 2 + ((at_ NI_ l i).2.2.1.length:Nat)) x2 x3 ⟨by omega,by unfold MK; omega⟩
  have e2:k + 1 + 1 = k + 2 := by omega
  simp only [g_SZ29_0,uq1360,uq1361,uq1362,updE,RT.sel,cond_true,k1,k2,k3,decide_true,and_self,Int.toNat_natCast,List.length_set,at_set k3,ha,wrapM (x := k + 1) (by omega),e2,wrapM (x := k + 2) (by omega),a1,a2,a3,b1,b2,b3,List.set_set,wrapM (x := (i:Int) + 1) (by omega)]
  simp only [cN]
  congr 3
  omega
 simp only [g_AZ29,g_VZ29_0,g_VZ29_1,L,okO,valO,Option.isSome_some,Option.getD_some,and_self]
theorem sumC_le {α:Type} {c z:α → Nat} (h:∀ x,c x ≤ 2 * z x + 2) (l:List α):sumC c l ≤ 2 * szL z l := by
 induction l with
 | nil => simp [sumC]
 | cons x l ih =>
  rw [sumC_cons]
  have := h x
  unfold szL at ih ⊢
  rw [List.length_cons,List.map_cons,List.sum_cons]
  omega
theorem sumC_W (l:List (ByteArray×Bool×List Int)):sumC cW l ≤ 2 * szL szW l := sumC_le (fun x => by simp only [cW,szW]; omega) l
theorem cN_le (x:Note):cN x ≤ 2 * szN x + 2 := by
 have := sumC_W x.2.2.2
 have h2:x.2.2.1.length ≤ szL ByteArray.size x.2.2.1 := by unfold szL; omega
 simp only [cN,szN]
 omega
theorem sumC_N (l:List Note):sumC cN l ≤ 2 * szL szN l := sumC_le cN_le l
theorem heldStringS_f (l:List ByteArray) (k:Int) (hl:l.length ≤ 1048576) (h:0 ≤ k ∧ k + l.length ≤ MK):g_AZ32 (mkS l k) k = true ∧ g_VZ32_0 (mkS l k) k = k + l.length := by
 have L:g_LZ32_0 (mkS l k) (k,0) = some (.inr (k + l.length)) := by
  have := held_loop (e := .str) (step := g_SZ32_0 (mkS l k)) (fun _ k => g_VZ76_0 k) (fun _ => 1) l MK (fun k => .inr k) k (fun i k' hi ha h0 hb => by
   have hlen:(mkS l k).length = l.length := mkL_len _ _ _ _
   have k1:(i:Int) < (mkS l k).length := by omega
   have k2:(0:Int) ≤ (i:Int) := by omega
   have ha:at_ .str (mkS l k) i = g_VZ76_0 k' := ha
   unfold MK at hb
   have t := markText_f k' ⟨h0,by unfold MK; omega⟩
   simp only [g_SZ32_0,RT.sel,cond_true,k1,k2,decide_true,and_self,Int.toNat_natCast,ha,t,BEq.rfl,Bool.not_true,cond_false,wrapM (x := k' + 1) (by omega),wrapM (x := (i:Int) + 1) (by omega)]
   congr 1) (fun k' => by
    have hlen:(mkS l k).length = l.length := mkL_len _ _ _ _
    simp only [g_SZ32_0,RT.sel,cond_true,hlen,Int.lt_irrefl,decide_false,cond_false]) h.1 (by rw [sumC_one]; exact h.2)
  rw [sumC_one] at this
  exact this
 simp only [g_AZ32,g_VZ32_0,L,okO,valO,Option.isSome_some,Option.getD_some,isL,getR,cond_false,and_self]
theorem heldStoWriteS_f (l:List (ByteArray×Bool×List Int)) (k:Int) (hl:l.length ≤ 1048576) (hit:∀ x ∈ l,x.2.2.length ≤ 1048576) (h:0 ≤ k ∧ k + (sumC cW l:Nat) ≤ MK):g_AZ25 (mkW l k) k = true ∧ g_VZ25_0 (mkW l k) k = k + (sumC cW l:Nat) := by
 have L:g_LZ25_0 (mkW l k) (k,0) = some (.inr (k + (sumC cW l:Nat))) := by
  refine held_loop (e := WM_) (step := g_SZ25_0 (mkW l k)) mW cW l MK (fun k => .inr k) k (fun i k' hi ha h0 hb => ?_) (fun k' => by
    have hlen:(mkW l k).length = l.length := mkL_len _ _ _ _
    simp only [g_SZ25_0,RT.sel,cond_true,hlen,Int.lt_irrefl,decide_false,cond_false]) h.1 h.2
  have hlen:(mkW l k).length = l.length := mkL_len _ _ _ _
  have k1:(i:Int) < (mkW l k).length := by omega
  have k2:(0:Int) ≤ (i:Int) := by omega
  have ha:at_ (.pair .str (.pair .bool (.sl 3 (.int .i64)))) (mkW l k) i = mW (at_ WM_ l i) k' := ha
  have hx := hit _ (at_mem (e := WM_) hi)
  simp only [cW] at hb
  unfold MK at hb
  have t := markText_f k' ⟨h0,by unfold MK; omega⟩
  obtain ⟨a1,a2⟩ := heldIntS_f (at_ WM_ l i).2.2 (k' + 2) hx ⟨by omega,by unfold MK; omega⟩
  have e2:k' + 1 + 1 = k' + 2 := by omega
  have n1:¬ (k' + 2 + ((at_ WM_ l i).2.2.length:Int) < 0) := by omega
  simp only [g_SZ25_0,RT.sel,cond_true,k1,k2,decide_true,and_self,Int.toNat_natCast,ha,mW,t,BEq.rfl,bne_self_eq_false,Bool.not_true,cond_false,wrapM (x := k' + 1) (by omega),e2,wrapM (x := k' + 2) (by omega),a1,a2,decide_eq_false n1,wrapM (x := (i:Int) + 1) (by omega)]
  simp only [cW]
  congr 2
  omega
 simp only [g_AZ25,g_VZ25_0,L,okO,valO,Option.isSome_some,Option.getD_some,isL,getR,cond_false,and_self]
theorem heldLogNoteS_f (l:List Note) (k:Int) (hl:l.length ≤ 1048576) (hit:∀ x ∈ l,smallN x) (h:0 ≤ k ∧ k + (sumC cN l:Nat) ≤ MK):g_AZ27 (mkN l k) k = true ∧ g_VZ27_0 (mkN l k) k = k + (sumC cN l:Nat) := by
 have L:g_LZ27_0 (mkN l k) (k,0) = some (.inr (k + (sumC cN l:Nat))) := by
  refine held_loop (e := NI_) (step := g_SZ27_0 (mkN l k)) mN cN l MK (fun k => .inr k) k (fun i k' hi ha h0 hb => ?_) (fun k' => by
    have hlen:(mkN l k).length = l.length := mkL_len _ _ _ _
    simp only [g_SZ27_0,RT.sel,cond_true,hlen,Int.lt_irrefl,decide_false,cond_false]) h.1 h.2
  have hlen:(mkN l k).length = l.length := mkL_len _ _ _ _
  have k1:(i:Int) < (mkN l k).length := by omega
  have k2:(0:Int) ≤ (i:Int) := by omega
  have ha:at_ NI_ (mkN l k) i = mN (at_ NI_ l i) k' := ha
  obtain ⟨x1,x2,x3⟩ := hit _ (at_mem (e := NI_) hi)
  simp only [cN] at hb
  unfold MK at hb
  obtain ⟨a1,a2⟩ := heldStringS_f (at_ NI_ l i).2.2.1 (k' + 2) x1 ⟨by omega,by unfold MK; omega⟩
  obtain ⟨b1,b2⟩ := heldStoWriteS_f (at_ NI_ l i).2.2.2 (k' + 2 + ((at_ NI_ l i).2.2.1.length:Nat)) x2 x3 ⟨by omega,by unfold MK; omega⟩
  have e2:k' + 1 + 1 = k' + 2 := by omega
  have n1:¬ (k' + 2 + ((at_ NI_ l i).2.2.1.length:Int) < 0) := by omega
  have n2:¬ (k' + 2 + ((at_ NI_ l i).2.2.1.length:Int) + (sumC cW (at_ NI_ l i).2.2.2:Nat) < 0) := by omega
  simp only [g_SZ27_0,RT.sel,cond_true,k1,k2,decide_true,and_self,Int.toNat_natCast,ha,mN,BEq.rfl,bne_self_eq_false,Bool.not_true,cond_false,wrapM (x := k' + 1) (by omega),e2,wrapM (x := k' + 2) (by omega),a1,a2,b1,b2,decide_eq_false n1,decide_eq_false n2,wrapM (x := (i:Int) + 1) (by omega)]
  simp only [cN]
  congr 2
  omega
 simp only [g_AZ27,g_VZ27_0,L,okO,valO,Option.isSome_some,Option.getD_some,isL,getR,cond_false,and_self]
abbrev OP_:Ty := .pair (.int .i64) (.pair (.int .i64) (.pair (.int .i64) (.pair (.int .i64) (.pair (.int .i64) (.pair (.int .i64) (.int .i64))))))
abbrev Op_:Type := Int×Int×Int×Int×Int×Int×Int
abbrev FT_:Ty := .pair (.int .i64) (.pair OP_ (.pair .bool (.pair (.sl 3 (.int .i64)) (.sl 3 (.int .i64)))))
abbrev FTx:Type := Int×Op_×Bool×List Int×List Int
def okZ (n:Int):Prop := (Lit.int .i64 n).wf = true
def okOp (o:Op_):Prop := okZ o.1 ∧ okZ o.2.1 ∧ okZ o.2.2.1 ∧ okZ o.2.2.2.1 ∧ okZ o.2.2.2.2.1 ∧ okZ o.2.2.2.2.2.1 ∧ okZ o.2.2.2.2.2.2
def okT (x:FTx):Prop := okZ x.1 ∧ okOp x.2.1 ∧ True ∧ (x.2.2.2.1.length ≤ maxLen ∧ ∀ n ∈ x.2.2.2.1,okZ n) ∧ (x.2.2.2.2.length ≤ maxLen ∧ ∀ n ∈ x.2.2.2.2,okZ n)
def szT (x:FTx):Nat := x.2.2.2.1.length + x.2.2.2.2.length
def smallT (x:FTx):Prop := x.2.2.2.1.length ≤ 1048576 ∧ x.2.2.2.2.length ≤ 1048576
theorem szFroTx_f (t k w i c s f g:Int) (y:Bool) (p q:List Int) (hp:p.length ≤ maxLen) (hq:q.length ≤ maxLen) (left:Int) (h0:0 ≤ left) (h1:left ≤ 1048576) :
  g_Aw_szFroTx t k w i c s f g y p q left = true ∧ g_Vw_szFroTx_0 t k w i c s f g y p q left = left_ (p.length + q.length) left := by
 constructor
 ·simp [g_Aw_szFroTx]
 ·unfold g_Vw_szFroTx_0
  rw [szIntS_f p hp _ h0 h1,left_dec _ _ h0]
  by_cases hc:((p.length:Nat):Int) ≤ left
  ·rw [decide_eq_true hc,left_val hc,szIntS_f q hq _ (by omega) (by omega),left_neg _ _ (by omega),Bool.not_true,cond_false,← left_two,decide_eq_false (by omega),cond_false]
  ·rw [decide_eq_false hc,Bool.not_false,cond_true]
   unfold left_
   rw [if_neg (by omega)]
theorem szFroTxS_f (l:List FTx) (hl:l.length ≤ maxLen) (hok:∀ w ∈ l,okT w) (left:Int) (h0:0 ≤ left) (h1:left ≤ 1048576):g_AZ78 l left = true ∧ g_VZ78_0 l left = left_ (szL szT l) left := by
 have hm := maxLen_lt hl
 unfold g_AZ78 g_VZ78_0
 rw [left_step hm h0 h1]
 by_cases h:left - (l.length:Int) < 0
 ·rw [decide_eq_true h]
  refine ⟨rfl,?_⟩
  unfold left_ szL
  rw [cond_true,if_neg (by omega)]
 ·rw [decide_eq_false h]
  obtain ⟨r,e1,e2⟩ := loop_sz (step := g_SZ78_0 l) (fun i => szT (at_ FT_ l i)) l.length (fun i left hi h0 h1 => by
   have k1:(i:Int) < l.length := by omega
   have k2:(0:Int) ≤ (i:Int) := by omega
   have hw:IntKind.wrap .i64 ((i:Int) + 1) = ((i + 1:Nat):Int) := by rw [wrap64 (by omega)]; omega
   have hit := hok _ (at_mem (e := FT_) hi)
   obtain ⟨q1,q2⟩ := szFroTx_f (at_ FT_ l i).1 (at_ FT_ l i).2.1.1 (at_ FT_ l i).2.1.2.1 (at_ FT_ l i).2.1.2.2.1 (at_ FT_ l i).2.1.2.2.2.1 (at_ FT_ l i).2.1.2.2.2.2.1 (at_ FT_ l i).2.1.2.2.2.2.2.1 (at_ FT_ l i).2.1.2.2.2.2.2.2 (at_ FT_ l i).2.2.1 (at_ FT_ l i).2.2.2.1 (at_ FT_ l i).2.2.2.2 hit.2.2.2.1.1 hit.2.2.2.2.1 left h0 h1
   have q2:g_Vw_szFroTx_0 (at_ FT_ l i).1 (at_ FT_ l i).2.1.1 (at_ FT_ l i).2.1.2.1 (at_ FT_ l i).2.1.2.2.1 (at_ FT_ l i).2.1.2.2.2.1 (at_ FT_ l i).2.1.2.2.2.2.1 (at_ FT_ l i).2.1.2.2.2.2.2.1 (at_ FT_ l i).2.1.2.2.2.2.2.2 (at_ FT_ l i).2.2.1 (at_ FT_ l i).2.2.2.1 (at_ FT_ l i).2.2.2.2 left = left_ (szT (at_ FT_ l i)) left := q2
   simp only [g_SZ78_0,RT.sel,cond_true,k1,k2,hw,decide_true,and_self,Int.toNat_natCast,q1,q2,left_dec _ _ h0]
   by_cases hc:((szT (at_ FT_ l i):Nat):Int) ≤ left
   ·simp only [decide_eq_true hc,Bool.not_true,cond_false,cond_true,left_val hc]
   ·simp only [decide_eq_false hc,Bool.not_false,cond_true,cond_false]
    simp only [left_,if_neg hc]) (fun left => by simp [g_SZ78_0,RT.sel]) (left - l.length) (by omega) (by omega)
  have e1:g_LZ78_0 l (left - l.length,0) = some r := e1
  rw [e1]
  refine ⟨rfl,?_⟩
  simp only [valO,Option.getD_some,cond_false]
  rw [e2,sumF_sum (e := FT_)]
  show _ = left_ (l.length + (l.map szT).sum) left
  rw [← left_two,decide_eq_false h,cond_false]
def szF (l:List Note) (w:List FTx):Nat := szL szN l + szL szT w
theorem szFroState_f (l:List Note) (safe:Int) (w:List FTx) (h1:l.length ≤ maxLen) (h2:∀ n ∈ l,okN n) (h3:w.length ≤ maxLen) (h4:∀ x ∈ w,okT x) (left:Int) (h0:0 ≤ left) (hl:left ≤ 1048576) :
  g_AZ49 l safe w left = true ∧ g_VZ49_0 l safe w left = left_ (szF l w) left := by
 obtain ⟨a1,a2⟩ := szLogDisk_f l safe h1 h2 left h0 hl
 unfold g_AZ49 g_VZ49_0
 rw [a1,a2,left_dec _ _ h0]
 by_cases hc:((szL szN l:Nat):Int) ≤ left
 ·rw [decide_eq_true hc,left_val hc]
  obtain ⟨b1,b2⟩ := szFroTxS_f w h3 h4 (left - (szL szN l:Nat)) (by omega) (by omega)
  rw [b1,b2,left_neg _ _ (by omega),Bool.not_true,cond_false]
  refine ⟨rfl,?_⟩
  unfold szF
  rw [← left_two,decide_eq_false (by omega),cond_false]
 ·rw [decide_eq_false hc]
  refine ⟨rfl,?_⟩
  rw [Bool.not_false,cond_true]
  unfold left_ szF
  rw [if_neg (by omega)]
theorem small_tx {x:FTx} {B:Nat} (h:szT x ≤ B) (hB:B ≤ 1048576):smallT x := by
 unfold szT at h
 exact ⟨by omega,by omega⟩
theorem small_way {w:List FTx} {B:Nat} (h:szL szT w ≤ B) (hB:B ≤ 1048576):w.length ≤ B ∧ ∀ x ∈ w,smallT x := by
 have := szL_len h
 exact ⟨this.1,fun x hx => small_tx (this.2 x hx) hB⟩
theorem toFroTxS_f (l:List FTx) (hl:l.length ≤ 1048576) (hit:∀ x ∈ l,smallT x):g_AZ79 l = true ∧ g_VZ79_0 l = l := by
 have h:g_LZ79_0 l (List.replicate (Int.toNat (l.length:Int)) (0,(0,0,0,0,0,0,0),false,[],[]),0) = some (l.map id) := by
  refine loop_map (e := FT_) l id id (fun i r hi hr => ?_) (fun r hr => ?_) _ (by simp)
  ·have k1:(i:Int) < l.length := by omega
   have k2:(0:Int) ≤ (i:Int) := by omega
   have k3:(i:Int) < r.length := by omega
   have k4:i < r.length := by omega
   have hw:IntKind.wrap .i64 ((i:Int) + 1) = ((i + 1:Nat):Int) := by rw [wrap64 (by omega)]; omega
   have hh := hit _ (at_mem (e := FT_) hi)
   obtain ⟨q1,q2⟩ := toIntS_f _ hh.1
   obtain ⟨q3,q4⟩ := toIntS_f _ hh.2
   simp only [g_SZ79_0,RT.sel,cond_true,k1,k2,k3,k4,hw,decide_true,and_self,Int.toNat_natCast,id,g_Aw_toFroTx,q1,q2,q3,q4,Bool.and_self]
  ·simp [g_SZ79_0,RT.sel]
 rw [List.map_id] at h
 constructor
 ·rw [Int.toNat_natCast] at h; simp [g_AZ79,h,okO]; omega
 ·simp only [g_VZ79_0,h,valO,Option.getD_some]
theorem eqFroTx_self (x:FTx) (h:smallT x):g_Aw_eqFroTx x.1 x.2.1.1 x.2.1.2.1 x.2.1.2.2.1 x.2.1.2.2.2.1 x.2.1.2.2.2.2.1 x.2.1.2.2.2.2.2.1 x.2.1.2.2.2.2.2.2 x.2.2.1 x.2.2.2.1 x.2.2.2.2 x.1 x.2.1.1 x.2.1.2.1 x.2.1.2.2.1 x.2.1.2.2.2.1 x.2.1.2.2.2.2.1 x.2.1.2.2.2.2.2.1 x.2.1.2.2.2.2.2.2 x.2.2.1 x.2.2.2.1 x.2.2.2.2 = true ∧
  g_Vw_eqFroTx_0 x.1 x.2.1.1 x.2.1.2.1 x.2.1.2.2.1 x.2.1.2.2.2.1 x.2.1.2.2.2.2.1 x.2.1.2.2.2.2.2.1 x.2.1.2.2.2.2.2.2 x.2.2.1 x.2.2.2.1 x.2.2.2.2 x.1 x.2.1.1 x.2.1.2.1 x.2.1.2.2.1 x.2.1.2.2.2.1 x.2.1.2.2.2.2.1 x.2.1.2.2.2.2.2.1 x.2.1.2.2.2.2.2.2 x.2.2.1 x.2.2.2.1 x.2.2.2.2 = true := by
 obtain ⟨p1,p2⟩ := eqIntS_self x.2.2.2.1 h.1
 obtain ⟨q1,q2⟩ := eqIntS_self x.2.2.2.2 h.2
 simp [g_Aw_eqFroTx,g_Vw_eqFroTx_0,g_Aw_eqOpOp,g_Vw_eqOpOp_0,p1,p2,q1,q2]
theorem eqFroTxS_self (l:List FTx) (hl:l.length ≤ 1048576) (hit:∀ x ∈ l,smallT x):g_AZ73 l l = true ∧ g_VZ73_0 l l = true := by
 have h:g_LZ73_0 l l 0 = some (.inr ()) := by
  have := loop_all (step := g_SZ73_0 l l) (fun i:Nat => (i:Int)) (fun _ => true) (.inl false) (.inr ()) l.length (fun i hi => by
   have k1:(i:Int) < l.length := by omega
   have k2:(0:Int) ≤ (i:Int) := by omega
   have hw:IntKind.wrap .i64 ((i:Int) + 1) = ((i + 1:Nat):Int) := by rw [wrap64 (by omega)]; omega
   obtain ⟨q1,q2⟩ := eqFroTx_self _ (hit _ (at_mem (e := FT_) hi))
   simp only [g_SZ73_0,RT.sel,cond_true,k1,k2,hw,decide_true,and_self,Int.toNat_natCast,q1,q2,Bool.not_true,cond_false]) (by simp [g_SZ73_0,RT.sel])
  rw [show (List.range l.length).all (fun _ => true) = true by simp] at this
  exact this
 simp [g_AZ73,g_VZ73_0,h,okO,valO,isL]
theorem eqFroState_self (l:List Note) (safe:Int) (w:List FTx) (hl:l.length ≤ 1048576) (hit:∀ x ∈ l,smallN x) (hw:w.length ≤ 1048576) (hiw:∀ x ∈ w,smallT x):g_AZ44 l safe w l safe w = true ∧ g_VZ44_0 l safe w l safe w = true := by
 obtain ⟨a,b⟩ := eqLogDisk_self l safe hl hit
 obtain ⟨c,d⟩ := eqFroTxS_self w hw hiw
 simp [g_AZ44,g_VZ44_0,a,b,c,d]
theorem small_front {l:List Note} {w:List FTx} {B:Nat} (h:szF l w ≤ B) (hB:B ≤ 1048576):(l.length ≤ 1048576 ∧ ∀ x ∈ l,smallN x) ∧ w.length ≤ 1048576 ∧ ∀ x ∈ w,smallT x := by
 unfold szF at h
 have a := small_disk (l := l) (B := B) (by omega) hB
 have b := small_way (w := w) (B := B) (by omega) hB
 exact ⟨⟨by omega,a.2⟩,by omega,b.2⟩
abbrev mF (x:FTx) (k:Int):FTx := (k,(k + 1,k + 2,k + 3,k + 4,k + 5,k + 6,k + 7),Int.tmod (k + 8) 3 == 0,mkI x.2.2.2.1 (k + 9),mkI x.2.2.2.2 (k + 9 + x.2.2.2.1.length))
abbrev cF (x:FTx):Nat := 9 + x.2.2.2.1.length + x.2.2.2.2.length
abbrev mkF (l:List FTx) (k:Int):List FTx := mkL mF cF l k
theorem markFroTxS_f (l:List FTx) (k:Int) (hl:l.length ≤ 1048576) (hit:∀ x ∈ l,smallT x) (h:0 ≤ k ∧ k + (sumC cF l:Nat) ≤ MK):g_AZ46 l k = true ∧ g_VZ46_0 l k = k + (sumC cF l:Nat) ∧ g_VZ46_1 l k = mkF l k := by
 have L:g_LZ46_0 (l,k,0) = some (mkL mF cF l k,k + (sumC cF l:Nat)) := by
  refine mark_loop (e := FT_) (step := g_SZ46_0) mF cF l MK (fun i r k hi hr ha h0 hb => ?_) (fun r k hr => by simp only [g_SZ46_0,RT.sel,cond_true,hr,Int.lt_irrefl,decide_false,cond_false]) k h.1 h.2
  have k1:(i:Int) < r.length := by omega
  have k2:(0:Int) ≤ (i:Int) := by omega
  have k3:i < r.length := by omega
  have ha:at_ FT_ r i = at_ FT_ l i := ha
  obtain ⟨x1,x2⟩ := hit _ (at_mem (e := FT_) hi)
  simp only [cF] at hb
  unfold MK at hb
  have w1:IntKind.wrap .i64 (k + 1) = k + 1 := wrapM (by omega)
  have w2:IntKind.wrap .i64 (k + 1 + 1) = k + 2 := by rw [wrapM (by omega)]; omega
  have w3:IntKind.wrap .i64 (k + 2 + 1) = k + 3 := by rw [wrapM (by omega)]; omega
  have w4:IntKind.wrap .i64 (k + 3 + 1) = k + 4 := by rw [wrapM (by omega)]; omega
  have w5:IntKind.wrap .i64 (k + 4 + 1) = k + 5 := by rw [wrapM (by omega)]; omega
  have w6:IntKind.wrap .i64 (k + 5 + 1) = k + 6 := by rw [wrapM (by omega)]; omega
  have w7:IntKind.wrap .i64 (k + 6 + 1) = k + 7 := by rw [wrapM (by omega)]; omega
  have w8:IntKind.wrap .i64 (k + 7 + 1) = k + 8 := by rw [wrapM (by omega)]; omega
  have w9:IntKind.wrap .i64 (k + 8 + 1) = k + 9 := by rw [wrapM (by omega)]; omega
  obtain ⟨a1,a2,a3⟩ := markIntS_f (at_ FT_ l i).2.2.2.1 (k + 9) x1 ⟨by omega,by unfold MK; omega⟩
  obtain ⟨b1,b2,b3⟩ := markIntS_f (at_ FT_ l i).2.2.2.2 (k + 9 + (at_ FT_ l i).2.2.2.1.length) x2 ⟨by omega,by unfold MK; omega⟩
  have at_set':∀ x:FTx,at_ FT_ (r.set i x) i = x := fun x => at_set (e := FT_) k3
  simp only [g_SZ46_0,uq1330,uq1331,uq1332,uq1333,uq1334,uq1335,uq1336,uq1337,uq1338,uq1339,updE,RT.sel,cond_true,k1,k2,k3,decide_true,and_self,Int.toNat_natCast,List.length_set,at_set',ha,w1,w2,w3,w4,w5,w6,w7,w8,w9,a1,a2,a3,b1,b2,b3,List.set_set,wrapM (x := (i:Int) + 1) (by omega)]
  simp only [cF]
  congr 3
  omega
 simp only [g_AZ46,g_VZ46_0,g_VZ46_1,L,okO,valO,Option.isSome_some,Option.getD_some,and_self]
theorem heldFroTxS_f (l:List FTx) (k:Int) (hl:l.length ≤ 1048576) (hit:∀ x ∈ l,smallT x) (h:0 ≤ k ∧ k + (sumC cF l:Nat) ≤ MK):g_AZ45 (mkF l k) k = true ∧ g_VZ45_0 (mkF l k) k = k + (sumC cF l:Nat) := by
 have L:g_LZ45_0 (mkF l k) (k,0) = some (.inr (k + (sumC cF l:Nat))) := by
  refine held_loop (e := FT_) (step := g_SZ45_0 (mkF l k)) mF cF l MK (fun k => .inr k) k (fun i k' hi ha h0 hb => ?_) (fun k' => by
    have hlen:(mkF l k).length = l.length := mkL_len _ _ _ _
    simp only [g_SZ45_0,RT.sel,cond_true,hlen,Int.lt_irrefl,decide_false,cond_false]) h.1 h.2
  have hlen:(mkF l k).length = l.length := mkL_len _ _ _ _
  have k1:(i:Int) < (mkF l k).length := by omega
  have k2:(0:Int) ≤ (i:Int) := by omega
  have ha:at_ FT_ (mkF l k) i = mF (at_ FT_ l i) k' := ha
  obtain ⟨x1,x2⟩ := hit _ (at_mem (e := FT_) hi)
  simp only [cF] at hb
  unfold MK at hb
  have w1:IntKind.wrap .i64 (k' + 1) = k' + 1 := wrapM (by omega)
  have w2:IntKind.wrap .i64 (k' + 1 + 1) = k' + 2 := by rw [wrapM (by omega)]; omega
  have w3:IntKind.wrap .i64 (k' + 2 + 1) = k' + 3 := by rw [wrapM (by omega)]; omega
  have w4:IntKind.wrap .i64 (k' + 3 + 1) = k' + 4 := by rw [wrapM (by omega)]; omega
  have w5:IntKind.wrap .i64 (k' + 4 + 1) = k' + 5 := by rw [wrapM (by omega)]; omega
  have w6:IntKind.wrap .i64 (k' + 5 + 1) = k' + 6 := by rw [wrapM (by omega)]; omega
  have w7:IntKind.wrap .i64 (k' + 6 + 1) = k' + 7 := by rw [wrapM (by omega)]; omega
  have w8:IntKind.wrap .i64 (k' + 7 + 1) = k' + 8 := by rw [wrapM (by omega)]; omega
  have w9:IntKind.wrap .i64 (k' + 8 + 1) = k' + 9 := by rw [wrapM (by omega)]; omega
  obtain ⟨a1,a2⟩ := heldIntS_f (at_ FT_ l i).2.2.2.1 (k' + 9) x1 ⟨by omega,by unfold MK; omega⟩
  obtain ⟨b1,b2⟩ := heldIntS_f (at_ FT_ l i).2.2.2.2 (k' + 9 + (at_ FT_ l i).2.2.2.1.length) x2 ⟨by omega,by unfold MK; omega⟩
  have n1:¬ (k' + 9 + ((at_ FT_ l i).2.2.2.1.length:Int) < 0) := by omega
  have n2:¬ (k' + 9 + ((at_ FT_ l i).2.2.2.1.length:Int) + ((at_ FT_ l i).2.2.2.2.length:Int) < 0) := by omega
  simp only [g_SZ45_0,RT.sel,cond_true,k1,k2,decide_true,and_self,Int.toNat_natCast,ha,mF,BEq.rfl,bne_self_eq_false,Bool.not_true,cond_false,w1,w2,w3,w4,w5,w6,w7,w8,w9,a1,a2,b1,b2,decide_eq_false n1,decide_eq_false n2,wrapM (x := (i:Int) + 1) (by omega)]
  simp only [cF]
  congr 2
  omega
 simp only [g_AZ45,g_VZ45_0,L,okO,valO,Option.isSome_some,Option.getD_some,isL,getR,cond_false,and_self]
theorem cF_le (x:FTx):cF x ≤ 9 * szT x + 9 := by
 simp only [cF,szT]; omega
theorem sumC_F (l:List FTx):sumC cF l ≤ 9 * szL szT l := by
 induction l with
 | nil => simp [sumC]
 | cons x l ih =>
  rw [sumC_cons]
  have := cF_le x
  unfold szL at ih ⊢
  rw [List.length_cons,List.map_cons,List.sum_cons]
  omega
abbrev Msg:Type := Int×Int×Int×Int×Int×Int×Int×Int×Int×Int×Int
abbrev MI_:Ty := .pair (.int .i64) (.pair (.int .i64) (.pair (.int .i64) (.pair (.int .i64) (.pair (.int .i64) (.pair (.int .i64) (.pair (.int .i64) (.pair (.int .i64) (.pair (.int .i64) (.pair (.int .i64) (.int .i64))))))))))
theorem isService_f (n:Int):g_AZ53 n = true ∧ g_VZ53_0 n = decide (1 ≤ n ∧ n ≤ 3) := i_in_f n 1 3
abbrev mM (_:Msg) (k:Int):Msg := (k,k + 1,k + 2,k + 3,k + 4,k + 5,k + 6,k + 7,k + 8,k + 9,k + 10)
abbrev mkM (l:List Msg) (k:Int):List Msg := mkL mM (fun _ => 11) l k
theorem sumC_11:∀ (l:List Msg),sumC (fun _ => 11) l = 11 * l.length
 | [] => rfl
 | x :: l => by rw [sumC_cons,sumC_11 l,List.length_cons]; omega
theorem markMsgMsgS_f (l:List Msg) (k:Int) (hl:l.length ≤ 1048576) (h:0 ≤ k ∧ k + (11 * l.length:Nat) ≤ MK):g_AZ37 l k = true ∧ g_VZ37_0 l k = k + (11 * l.length:Nat) ∧ g_VZ37_1 l k = mkM l k := by
 have L:g_LZ37_0 (l,k,0) = some (mkL mM (fun _ => 11) l k,k + (sumC (fun _ => 11) l:Nat)) := by
  refine mark_loop (e := MI_) (step := g_SZ37_0) mM (fun _ => 11) l MK (fun i r k hi hr ha h0 hb => ?_) (fun r k hr => by simp only [g_SZ37_0,RT.sel,cond_true,hr,Int.lt_irrefl,decide_false,cond_false]) k h.1 (by rw [sumC_11]; exact h.2)
  have k1:(i:Int) < r.length := by omega
  have k2:(0:Int) ≤ (i:Int) := by omega
  have k3:i < r.length := by omega
  unfold MK at hb
  have w1:IntKind.wrap .i64 (k + 1) = k + 1 := wrapM (by omega)
  have w2:IntKind.wrap .i64 (k + 1 + 1) = k + 2 := by rw [wrapM (by omega)]; omega
  have w3:IntKind.wrap .i64 (k + 2 + 1) = k + 3 := by rw [wrapM (by omega)]; omega
  have w4:IntKind.wrap .i64 (k + 3 + 1) = k + 4 := by rw [wrapM (by omega)]; omega
  have w5:IntKind.wrap .i64 (k + 4 + 1) = k + 5 := by rw [wrapM (by omega)]; omega
  have w6:IntKind.wrap .i64 (k + 5 + 1) = k + 6 := by rw [wrapM (by omega)]; omega
  have w7:IntKind.wrap .i64 (k + 6 + 1) = k + 7 := by rw [wrapM (by omega)]; omega
  have w8:IntKind.wrap .i64 (k + 7 + 1) = k + 8 := by rw [wrapM (by omega)]; omega
  have w9:IntKind.wrap .i64 (k + 8 + 1) = k + 9 := by rw [wrapM (by omega)]; omega
  have w10:IntKind.wrap .i64 (k + 9 + 1) = k + 10 := by rw [wrapM (by omega)]; omega
  have w11:IntKind.wrap .i64 (k + 10 + 1) = k + 11 := by rw [wrapM (by omega)]; omega
  have hw:IntKind.wrap .i64 ((i:Int) + 1) = ((i + 1:Nat):Int) := by rw [wrap64 (by omega)]; omega
  have at_set':∀ x:Msg,at_ MI_ (r.set i x) i = x := fun x => at_set (e := MI_) k3
  simp only [g_SZ37_0,uq1390,uq1391,uq1392,uq1393,uq1394,uq1395,uq1396,uq1397,uq1398,uq1399,updE,RT.sel,cond_true,k1,k2,k3,decide_true,and_self,Int.toNat_natCast,List.length_set,at_set',List.set_set,w1,w2,w3,w4,w5,w6,w7,w8,w9,w10,w11,hw]
  rfl
 rw [sumC_11] at L
 simp only [g_AZ37,g_VZ37_0,g_VZ37_1,L,okO,valO,Option.isSome_some,Option.getD_some,and_self]
theorem heldMsgMsgS_f (l:List Msg) (k:Int) (hl:l.length ≤ 1048576) (h:0 ≤ k ∧ k + (11 * l.length:Nat) ≤ MK):g_AZ34 (mkM l k) k = true ∧ g_VZ34_0 (mkM l k) k = k + (11 * l.length:Nat) := by
 have L:g_LZ34_0 (mkM l k) (k,0) = some (.inr (k + (sumC (fun _ => 11) l:Nat))) := by
  refine held_loop (e := MI_) (step := g_SZ34_0 (mkM l k)) mM (fun _ => 11) l MK (fun k => .inr k) k (fun i k' hi ha h0 hb => ?_) (fun k' => by
    have hlen:(mkM l k).length = l.length := mkL_len _ _ _ _
    simp only [g_SZ34_0,RT.sel,cond_true,hlen,Int.lt_irrefl,decide_false,cond_false]) h.1 (by rw [sumC_11]; exact h.2)
  have hlen:(mkM l k).length = l.length := mkL_len _ _ _ _
  have k1:(i:Int) < (mkM l k).length := by omega
  have k2:(0:Int) ≤ (i:Int) := by omega
  have ha:at_ MI_ (mkM l k) i = mM (at_ MI_ l i) k' := ha
  unfold MK at hb
  have w1:IntKind.wrap .i64 (k' + 1) = k' + 1 := wrapM (by omega)
  have w2:IntKind.wrap .i64 (k' + 1 + 1) = k' + 2 := by rw [wrapM (by omega)]; omega
  have w3:IntKind.wrap .i64 (k' + 2 + 1) = k' + 3 := by rw [wrapM (by omega)]; omega
  have w4:IntKind.wrap .i64 (k' + 3 + 1) = k' + 4 := by rw [wrapM (by omega)]; omega
  have w5:IntKind.wrap .i64 (k' + 4 + 1) = k' + 5 := by rw [wrapM (by omega)]; omega
  have w6:IntKind.wrap .i64 (k' + 5 + 1) = k' + 6 := by rw [wrapM (by omega)]; omega
  have w7:IntKind.wrap .i64 (k' + 6 + 1) = k' + 7 := by rw [wrapM (by omega)]; omega
  have w8:IntKind.wrap .i64 (k' + 7 + 1) = k' + 8 := by rw [wrapM (by omega)]; omega
  have w9:IntKind.wrap .i64 (k' + 8 + 1) = k' + 9 := by rw [wrapM (by omega)]; omega
  have w10:IntKind.wrap .i64 (k' + 9 + 1) = k' + 10 := by rw [wrapM (by omega)]; omega
  have w11:IntKind.wrap .i64 (k' + 10 + 1) = k' + 11 := by rw [wrapM (by omega)]; omega
  have hw:IntKind.wrap .i64 ((i:Int) + 1) = ((i + 1:Nat):Int) := by rw [wrap64 (by omega)]; omega
  simp only [g_SZ34_0,RT.sel,cond_true,k1,k2,decide_true,and_self,Int.toNat_natCast,ha,mM,w1,w2,w3,w4,w5,w6,w7,w8,w9,w10,w11,hw,bne_self_eq_false,cond_false]
  rfl
 rw [sumC_11] at L
 simp only [g_AZ34,g_VZ34_0,L,okO,valO,Option.isSome_some,Option.getD_some,isL,getR,cond_false,and_self]
theorem eqMsgMsgS_self (l:List Msg) (hl:l.length ≤ 1048576):g_AZ57 l l = true ∧ g_VZ57_0 l l = true := by
 have h:g_LZ57_0 l l 0 = some (.inr ()) := by
  have := loop_all (step := g_SZ57_0 l l) (fun i:Nat => (i:Int)) (fun _ => true) (.inl false) (.inr ()) l.length (fun i hi => by
   have k1:(i:Int) < l.length := by omega
   have k2:(0:Int) ≤ (i:Int) := by omega
   have hw:IntKind.wrap .i64 ((i:Int) + 1) = ((i + 1:Nat):Int) := by rw [wrap64 (by omega)]; omega
   simp only [g_SZ57_0,RT.sel,cond_true,k1,k2,hw,decide_true,and_self,Int.toNat_natCast,g_AZ74,g_VZ74_0,g_Aw_eqOpOp,g_Vw_eqOpOp_0,bne_self_eq_false,cond_false,Bool.false_or,Bool.not_true]) (by simp [g_SZ57_0,RT.sel])
  rw [show (List.range l.length).all (fun _ => true) = true by simp] at this
  exact this
 simp [g_AZ57,g_VZ57_0,h,okO,valO,isL]
def ofG (how:Int) (l:List Note) (tx:Int):Int := l.foldl (fun h n => bif decide (n.2.1 = tx)&&!decide (n.1 = 4) then n.1 else h) how
def ofP (l:List Note) (tx:Int):Int := ofG 0 l tx
theorem ofG_cons (how:Int) (n:Note) (l:List Note) (tx:Int):ofG how (n :: l) tx = ofG (bif decide (n.2.1 = tx)&&!decide (n.1 = 4) then n.1 else how) l tx := rfl
theorem capF_f (a b k:Nat) (h:a + b ≤ 2200000) (hk:k ≤ 1000):decide ((a + b) * k ≤ nat_lit 140737488355328 ∧ a + b ≤ nat_lit 9223372036854775807) = true := by
 have:(a + b) * k ≤ 2200000 * 1000 := Nat.mul_le_mul h hk
 exact decide_eq_true ⟨Nat.le_trans this (by decide),Nat.le_trans h (by decide)⟩
theorem cap0_f (b k:Nat) (h:b ≤ 1048576) (hk:k ≤ 1000):decide ((nat_lit 0 + b) * k ≤ nat_lit 140737488355328 ∧ nat_lit 0 + b ≤ nat_lit 9223372036854775807) = true := capF_f 0 b k (by omega) hk
theorem loop_app {e:Ty} {σ ρ β:Type} {step:σ → RT σ ρ} (l:List e.den) (mk:Int → List β → σ) (g:e.den → β) (out:List β → ρ)
  (h1:∀ (i:Nat) (r:List β),i < l.length → r.length = i → (step (mk (i:Int) r)).sel = .go (mk ((i + 1:Nat):Int) (r ++ [g (at_ e l i)])))
  (h2:∀ r:List β,r.length = l.length → (step (mk (l.length:Int) r)).sel = .out (out r)):loopO step (mk 0 []) = some (out (l.map g)) := by
 have key:∀ (k i:Nat) (r:List β),i + k = l.length → r = (l.take i).map g → loopO step (mk (i:Int) r) = some (out (l.map g)) := by
  intro k
  induction k with
  | zero =>
   intro i r hi hr
   have hi:i = l.length := by omega
   subst hi
   rw [List.take_length] at hr
   rw [loopO_eq,h2 r (by rw [hr,List.length_map]),hr]
  | succ k ih =>
   intro i r hi hr
   have hil:i < l.length := by omega
   rw [loopO_eq,h1 i r hil (by rw [hr,List.length_map,List.length_take]; omega)]
   simp only
   refine ih (i + 1) _ (by omega) ?_
   rw [hr,at_eq hil,List.take_succ_eq_append_getElem hil,List.map_append]
   rfl
 exact key l.length 0 [] (by omega) (by simp)
def foldS {α β:Type} (f:List β → α → α):List β → α → α
 | [],a => a
 | x :: r,a => foldS f r (f (x :: r) a)
theorem loop_foldS {e:Ty} {σ ρ α:Type} {step:σ → RT σ ρ} (l:List e.den) (mk:Int → α → σ) (f:List e.den → α → α) (out:α → ρ) (J:Nat → α → Prop)
  (h1:∀ (i:Nat) (a:α),i < l.length → J i a → (step (mk (i:Int) a)).sel = .go (mk ((i + 1:Nat):Int) (f (l.drop i) a)) ∧ J (i + 1) (f (l.drop i) a))
  (h2:∀ a:α,(step (mk (l.length:Int) a)).sel = .out (out a)) (a0:α) (h0:J 0 a0):loopO step (mk 0 a0) = some (out (foldS f l a0)) ∧ J l.length (foldS f l a0) := by
 have key:∀ (k i:Nat) (a:α),i + k = l.length → J i a → loopO step (mk (i:Int) a) = some (out (foldS f (l.drop i) a)) ∧ J l.length (foldS f (l.drop i) a) := by
  intro k
  induction k with
  | zero =>
   intro i a hi hJ
   have hi:i = l.length := by omega
   subst hi
   rw [loopO_eq,h2 a,List.drop_length]
   exact ⟨rfl,hJ⟩
  | succ k ih =>
   intro i a hi hJ
   have hil:i < l.length := by omega
   obtain ⟨e1,e2⟩ := h1 i a hil hJ
   rw [loopO_eq,e1]
   have := ih (i + 1) _ (by omega) e2
   rw [List.drop_eq_getElem_cons hil] at this ⊢
   exact this
 exact key l.length 0 a0 (by omega) h0
theorem of_eq (l:List Note) (tx:Int):g_VZ40_0 l tx = ofP l tx := by
 have key:∀ (l:List Note) (how:Int),((l.reverse.find? fun n => decide (n.2.1 = tx)&&!decide (n.1 = 4)).map (·.1)).getD how = ofG how l tx := by
  intro l
  induction l with
  | nil => intro how; rfl
  | cons n l ih =>
   intro how
   rw [ofG_cons,← ih,List.reverse_cons,List.find?_append]
   cases h:l.reverse.find? fun n => decide (n.2.1 = tx)&&!decide (n.1 = 4) with
   | some m => rfl
   | none =>
    rw [Option.none_or,List.find?_cons]
    cases decide (n.2.1 = tx)&&!decide (n.1 = 4) <;> rfl
 exact key l 0
def ofF (tx:Int) (r:List Note) (a:Int):Int := match r with | [] => a | n :: _ => bif decide (n.2.1 = tx)&&!decide (n.1 = 4) then n.1 else a
theorem l2Of_f (l:List Note) (tx:Int) (hl:l.length ≤ 1048576):g_As_l2Of l tx = true ∧ g_Vs_l2Of_0 l tx = ofP l tx := by
 obtain ⟨L,_⟩ := loop_foldS (e := NI_) (step := g_Ss_l2Of_0 l tx) l (fun i a => (a,i)) (ofF tx) id (fun _ _ => True) (fun i a hi _ => by
  have k1:(i:Int) < l.length := by omega
  have k2:(0:Int) ≤ (i:Int) := by omega
  rw [List.drop_eq_getElem_cons hi]
  have hat:at_ NI_ l i = l[i] := at_eq (e := NI_) hi
  refine ⟨?_,trivial⟩
  simp only [g_Ss_l2Of_0,RT.sel,cond_true,k1,k2,decide_true,and_self,Int.toNat_natCast,wrap64 (x := (i:Int) + 1) (by omega),hat]
  have e1:(l[i].2.1 == tx) = decide (l[i].2.1 = tx) := rfl
  have e2:(l[i].1 != 4) = !decide (l[i].1 = 4) := rfl
  rw [e1,e2]
  simp only [ofF]
  cases decide (l[i].2.1 = tx) <;> cases decide (l[i].1 = 4) <;> rfl) (fun a => by simp only [g_Ss_l2Of_0,RT.sel,cond_true,Int.lt_irrefl,decide_false,cond_false,id]) (0:Int) trivial
 have key:∀ (l:List Note) (how:Int),foldS (ofF tx) l how = ofG how l tx := by
  intro l
  induction l with
  | nil => intro how; rfl
  | cons n l ih => intro how; rw [ofG_cons,← ih]; rfl
 rw [show foldS (ofF tx) l 0 = ofG 0 l tx from key l 0] at L
 have L:g_Ls_l2Of_0 l tx (0,0) = some (ofP l tx) := L
 simp only [g_As_l2Of,g_Vs_l2Of_0,L,okO,valO,Option.isSome_some,Option.getD_some,and_self]
theorem cond_nf8 (a b:Bool):(bif !a then false else b) = (a&&b) := by cases a <;> rfl
theorem cond_f8 (a b:Bool):(bif a then b else false) = (a&&b) := by cases a <;> rfl
def opK (k w i c s f g:Int):Bool :=
 bif decide (k = 1) || decide (k = 5) then decide (c = 0)&&(decide (s = 0)&&(decide (f = 0)&&decide (g = 0)))
 else bif decide (k = 2) then decide (f = 0)&&decide (g = 0)
 else bif decide (k = 3) then decide (w = 0)&&(decide (i = 0)&&decide (g = 0))
 else decide (k = 4)&&(decide (w = 0)&&(decide (i = 0)&&(decide (c = 0)&&decide (s = 0))))
def opP (k w i c s f g:Int):Bool := decide (0 ≤ w ∧ w ≤ 9)&&(decide (0 ≤ i ∧ i ≤ 9)&&(decide (0 ≤ c ∧ c ≤ 9)&&(decide (0 ≤ f ∧ f ≤ 9)&&(decide (0 ≤ s ∧ s ≤ 99)&&(decide (0 ≤ g ∧ g ≤ 99)&&opK k w i c s f g)))))
theorem s_OpOk_f (k w i c s f g:Int):g_As_OpOk k w i c s f g = true ∧ g_Vs_OpOk_0 k w i c s f g = opP k w i c s f g := by
 have i1:∀ a b:Int,(a == b) = decide (a = b) := fun _ _ => rfl
 constructor
 ·simp [g_As_OpOk,(s_l1In_f _ _ _).1]
 ·have e:opP k w i c s f g = (decide (0 ≤ w ∧ w ≤ 9)&&(decide (0 ≤ i ∧ i ≤ 9)&&(decide (0 ≤ c ∧ c ≤ 9)&&(decide (0 ≤ s ∧ s ≤ 99)&&(decide (0 ≤ f ∧ f ≤ 9)&&(decide (0 ≤ g ∧ g ≤ 99)&&opK k w i c s f g)))))) := by
   unfold opP
   congr 1; congr 1; congr 1
   rw [← Bool.and_assoc,← Bool.and_assoc (decide (0 ≤ s ∧ s ≤ 99)),Bool.and_comm (decide (0 ≤ f ∧ f ≤ 9))]
  rw [e]
  simp only [g_Vs_OpOk_0,(s_l1In_f _ _ _).2,i1,cond_nf8,cond_f8,opK]
  congr 1; congr 1; congr 1; congr 1; congr 1; congr 1
  by_cases h1:k = 1
  ·subst h1; simp
  ·by_cases h5:k = 5
   ·subst h5; simp
   ·by_cases h2:k = 2
    ·subst h2; simp
    ·by_cases h3:k = 3
     ·subst h3; simp
     ·simp [h1,h2,h3,h5]
def placesP (k w i c s f g:Int):List Int :=
 bif !opP k w i c s f g then [] else bif k == 1 then [1,3] else bif k == 2 then [1,2,3] else bif k == 5 then [1,2,3] else [2,3]
theorem placesP_len (k w i c s f g:Int):(placesP k w i c s f g).length ≤ 3 := by
 unfold placesP
 cases opP k w i c s f g <;> cases (k == 1) <;> cases (k == 2) <;> cases (k == 5) <;> simp
theorem Z71_f (k w i c s f g:Int):g_AZ71 k w i c s f g = true ∧ g_VZ71_0 k w i c s f g = placesP k w i c s f g := by
 unfold g_AZ71 g_VZ71_0 placesP
 simp only [(s_OpOk_f _ _ _ _ _ _ _).1,(s_OpOk_f _ _ _ _ _ _ _).2]
 cases (k == 2) <;> simp
theorem i_OpOk_f (k w i c s f g:Int):g_Ai_OpOk k w i c s f g = true ∧ g_Vi_OpOk_0 k w i c s f g = opP k w i c s f g := by
 have i1:∀ a b:Int,(a == b) = decide (a = b) := fun _ _ => rfl
 constructor
 ·simp [g_Ai_OpOk,g_Ai_OpOk_1,g_Ai_OpOk_2,(i_in_f _ _ _).1]
 ·simp only [g_Vi_OpOk_0,g_Vi_OpOk_1_0,g_Vi_OpOk_2_0,(i_in_f _ _ _).2,i1,decide_true,Bool.true_and,Bool.and_true,cond_nf8,opP,opK]
  congr 1; congr 1; congr 1; congr 1; congr 1; congr 1
  by_cases h1:k = 1
  ·subst h1; simp
  ·by_cases h5:k = 5
   ·subst h5; simp
   ·by_cases h2:k = 2
    ·subst h2; simp
    ·by_cases h3:k = 3
     ·subst h3; simp
     ·simp [h1,h2,h3,h5]
theorem Z67_f (k w i c s f g:Int):g_AZ67 k w i c s f g = true ∧ g_VZ67_0 k w i c s f g = placesP k w i c s f g := by
 unfold g_AZ67 g_VZ67_0 placesP
 simp [(i_OpOk_f _ _ _ _ _ _ _).1,(i_OpOk_f _ _ _ _ _ _ _).2]
def svcP (l:List Int):Bool := (List.range l.length).all fun i => decide (1 ≤ at_ (.int .i64) l i ∧ at_ (.int .i64) l i ≤ 3)&&(decide (i = 0) || decide (at_ (.int .i64) l (i - 1) < at_ (.int .i64) l i))
theorem le_not_lt (a b:Int):decide (a ≤ b) = !decide (b < a) := by
 rw [Bool.eq_iff_iff]; simp
theorem ge_not_lt (a b:Int):decide (a ≥ b) = !decide (a < b) := by
 rw [Bool.eq_iff_iff]; simp
theorem Z41_f (l:List Int) (hl:l.length ≤ 1048576):g_AZ41 l = true ∧ g_VZ41_0 l = svcP l := by
 have L:g_LZ41_0 l l (l.length:Int) 0 = some (bif svcP l then .inr () else .inl false) := by
  refine loop_all (step := g_SZ41_0 l l (l.length:Int)) (fun i:Nat => (i:Int)) (fun i => decide (1 ≤ at_ (.int .i64) l i ∧ at_ (.int .i64) l i ≤ 3)&&(decide (i = 0) || decide (at_ (.int .i64) l (i - 1) < at_ (.int .i64) l i))) (.inl false) (.inr ()) l.length (fun i hi => ?_) ?_
  ·have k1:(i:Int) < l.length := by omega
   have k2:(0:Int) ≤ (i:Int) := by omega
   have hw:IntKind.wrap .i64 ((i:Int) + 1) = ((i + 1:Nat):Int) := by rw [wrap64 (by omega)]; omega
   cases i with
   | zero =>
    simp only [g_SZ41_0,RT.sel,cond_true,k1,k2,hw,decide_true,and_self,Int.toNat_natCast,(isService_f _).1,(isService_f _).2]
    cases decide (1 ≤ at_ (.int .i64) l 0 ∧ at_ (.int .i64) l 0 ≤ 3) <;> rfl
   | succ i =>
    have k3:((i + 1:Nat):Int) > 0 := by omega
    have hm:IntKind.wrap .i64 (((i + 1:Nat):Int) - 1) = (i:Int) := by rw [wrap64 (by omega)]; omega
    have k4:(i:Int) < l.length := by omega
    have k5:(0:Int) ≤ (i:Int) := by omega
    simp only [g_SZ41_0,RT.sel,cond_true,k1,k2,k3,k4,k5,hw,hm,decide_true,and_self,Int.toNat_natCast,(isService_f _).1,(isService_f _).2,le_not_lt,Nat.add_sub_cancel]
    cases decide (1 ≤ at_ (.int .i64) l (i + 1) ∧ at_ (.int .i64) l (i + 1) ≤ 3) <;> cases decide (at_ (.int .i64) l i < at_ (.int .i64) l (i + 1)) <;> rfl
  ·simp only [g_SZ41_0,RT.sel,cond_true,Int.lt_irrefl,decide_false,cond_false]
 simp only [g_AZ41,g_VZ41_0,L,okO,valO,Option.isSome_some,Option.getD_some,true_and]
 cases svcP l <;> rfl
theorem l6Places_f (l:List Int) (hl:l.length ≤ 1048576):g_AZ70 l = true ∧ g_VZ70_0 l = svcP l := by
 have L:g_LZ70_0 l 0 = some (bif svcP l then .inr () else .inl false) := by
  refine loop_all (step := g_SZ70_0 l) (fun i:Nat => (i:Int)) (fun i => decide (1 ≤ at_ (.int .i64) l i ∧ at_ (.int .i64) l i ≤ 3)&&(decide (i = 0) || decide (at_ (.int .i64) l (i - 1) < at_ (.int .i64) l i))) (.inl false) (.inr ()) l.length (fun i hi => ?_) ?_
  ·have k1:(i:Int) < l.length := by omega
   have k2:(0:Int) ≤ (i:Int) := by omega
   have hw:IntKind.wrap .i64 ((i:Int) + 1) = ((i + 1:Nat):Int) := by rw [wrap64 (by omega)]; omega
   cases i with
   | zero =>
    simp only [g_SZ70_0,RT.sel,cond_true,k1,k2,hw,decide_true,and_self,Int.toNat_natCast,(s_l1In_f _ _ _).1,(s_l1In_f _ _ _).2]
    cases decide (1 ≤ at_ (.int .i64) l 0 ∧ at_ (.int .i64) l 0 ≤ 3) <;> rfl
   | succ i =>
    have k3:((i + 1:Nat):Int) > 0 := by omega
    have hm:IntKind.wrap .i64 (((i + 1:Nat):Int) - 1) = (i:Int) := by rw [wrap64 (by omega)]; omega
    have k4:(i:Int) < l.length := by omega
    have k5:(0:Int) ≤ (i:Int) := by omega
    simp only [g_SZ70_0,RT.sel,cond_true,k1,k2,k3,k4,k5,hw,hm,decide_true,and_self,Int.toNat_natCast,(s_l1In_f _ _ _).1,(s_l1In_f _ _ _).2,ge_not_lt,Nat.add_sub_cancel]
    cases decide (1 ≤ at_ (.int .i64) l (i + 1) ∧ at_ (.int .i64) l (i + 1) ≤ 3) <;> cases decide (at_ (.int .i64) l i < at_ (.int .i64) l (i + 1)) <;> rfl
  ·simp only [g_SZ70_0,RT.sel,cond_true,Int.lt_irrefl,decide_false,cond_false]
 simp only [g_AZ70,g_VZ70_0,L,okO,valO,Option.isSome_some,Option.getD_some,true_and]
 cases svcP l <;> rfl
def opQ (o:Op_):Bool := opP o.1 o.2.1 o.2.2.1 o.2.2.2.1 o.2.2.2.2.1 o.2.2.2.2.2.1 o.2.2.2.2.2.2
def wayQ (l:List Note) (x:FTx):Bool := decide (0 ≤ x.1 ∧ x.1 ≤ 29)&&(svcP x.2.2.2.1&&(svcP x.2.2.2.2&&((x.2.2.1 == decide (ofP l x.1 = 2))&&(x.2.2.1 || (opQ x.2.1&&x.2.2.2.2.isEmpty)))))
def riseQ (w:List FTx) (i:Nat):Bool := decide (i = 0) || decide ((at_ FT_ w (i - 1)).1 < (at_ FT_ w i).1)
def frontN (n:Note):Bool := decide (n.1 = 2) || decide (n.1 = 4)
def froP (l:List Note) (safe:Int) (w:List FTx):Bool := diskP l safe&&(l.all frontN&&(decide (w.length ≤ 30)&&(List.range w.length).all fun i => riseQ w i&&wayQ l (at_ FT_ w i)))
theorem isE_eq (q:List Int):decide ((q.length:Int) > 0) = !q.isEmpty := by
 cases q with
 | nil => rfl
 | cons a q => simp
theorem s_FroOk_f (l:List Note) (safe:Int) (w:List FTx) (hl:l.length ≤ 1048576) (hit:∀ x ∈ l,smallN x) (hw:w.length ≤ 1048576) (hiw:∀ x ∈ w,smallT x):g_As_FroOk l safe w = true ∧ g_Vs_FroOk_0 l safe w = froP l safe w := by
 obtain ⟨d1,d2⟩ := s_DiskOk_f l safe hl hit
 have L:g_Ls_FroOk_0 l safe w 0 = some (bif l.all frontN then .inr () else .inl false) := by
  refine loop_list (ρ := Bool ⊕ Unit) (e := NI_) l (fun i:Nat => (i:Int)) frontN (Sum.inl false) (Sum.inr ()) (fun i hi => ?_) ?_
  ·have k1:(i:Int) < l.length := by omega
   have k2:(0:Int) ≤ (i:Int) := by omega
   have hw:IntKind.wrap .i64 ((i:Int) + 1) = ((i + 1:Nat):Int) := by rw [wrap64 (by omega)]; omega
   have e2:∀ a b:Int,(a != b) = !decide (a = b) := fun _ _ => rfl
   simp only [g_Ss_FroOk_0,RT.sel,cond_true,k1,k2,hw,decide_true,and_self,Int.toNat_natCast,e2,frontN]
   cases decide ((at_ NI_ l i).1 = 2) <;> cases decide ((at_ NI_ l i).1 = 4) <;> rfl
  ·simp only [g_Ss_FroOk_0,RT.sel,cond_true,Int.lt_irrefl,decide_false,cond_false]
 have L2:g_Ls_FroOk_2 l safe w 0 = some (bif (List.range w.length).all (fun i => riseQ w i&&wayQ l (at_ FT_ w i)) then .inr () else .inl false) := by
  refine loop_all (step := g_Ss_FroOk_2 l safe w) (fun i:Nat => (i:Int)) (fun i => riseQ w i&&wayQ l (at_ FT_ w i)) (.inl false) (.inr ()) w.length (fun i hi => ?_) ?_
  ·have k1:(i:Int) < w.length := by omega
   have k2:(0:Int) ≤ (i:Int) := by omega
   have hw:IntKind.wrap .i64 ((i:Int) + 1) = ((i + 1:Nat):Int) := by rw [wrap64 (by omega)]; omega
   obtain ⟨x1,x2⟩ := hiw _ (at_mem (e := FT_) hi)
   obtain ⟨a1,a2⟩ := l6Places_f (at_ FT_ w i).2.2.2.1 x1
   obtain ⟨b1,b2⟩ := l6Places_f (at_ FT_ w i).2.2.2.2 x2
   obtain ⟨o1,o2⟩ := l2Of_f l (at_ FT_ w i).1 hl
   obtain ⟨c1,c2⟩ := s_OpOk_f (at_ FT_ w i).2.1.1 (at_ FT_ w i).2.1.2.1 (at_ FT_ w i).2.1.2.2.1 (at_ FT_ w i).2.1.2.2.2.1 (at_ FT_ w i).2.1.2.2.2.2.1 (at_ FT_ w i).2.1.2.2.2.2.2.1 (at_ FT_ w i).2.1.2.2.2.2.2.2
   have e2:∀ x:Int,(x == 2) = decide (x = 2) := fun _ => rfl
   simp only [g_Ss_FroOk_2,RT.sel,cond_true,k1,k2,hw,decide_true,and_self,Int.toNat_natCast,(s_l1In_f _ _ _).1,(s_l1In_f _ _ _).2,a1,a2,b1,b2,o1,o2,c1,c2,e2,isE_eq,ge_not_lt,riseQ,wayQ,opQ]
   cases i with
   | zero =>
    rw [show decide (((0:Nat):Int) > 0) = false from rfl]
    generalize at_ FT_ w 0 = x
    generalize opP _ _ _ _ _ _ _ = p1
    generalize decide (0 ≤ x.1 ∧ x.1 ≤ 29) = p2
    generalize decide (ofP l x.1 = 2) = p3
    generalize svcP x.2.2.2.1 = p4
    generalize svcP x.2.2.2.2 = p5
    generalize x.2.2.2.2.isEmpty = p6
    generalize x.2.2.1 = p7
    cases p2 <;> cases p4 <;> cases p5 <;> cases p3 <;> cases p7 <;> cases p1 <;> cases p6 <;> rfl
   | succ i =>
    have k3:((i + 1:Nat):Int) > 0 := by omega
    have hm:IntKind.wrap .i64 (((i + 1:Nat):Int) - 1) = (i:Int) := by rw [wrap64 (by omega)]; omega
    have k4:(i:Int) < w.length := by omega
    have k5:(0:Int) ≤ (i:Int) := by omega
    simp only [k3,k4,k5,hm,decide_true,and_self,Int.toNat_natCast,Nat.add_sub_cancel,cond_true]
    generalize decide ((at_ FT_ w i).1 < (at_ FT_ w (i + 1)).1) = p0
    generalize at_ FT_ w (i + 1) = x
    generalize opP _ _ _ _ _ _ _ = p1
    generalize decide (0 ≤ x.1 ∧ x.1 ≤ 29) = p2
    generalize decide (ofP l x.1 = 2) = p3
    generalize svcP x.2.2.2.1 = p4
    generalize svcP x.2.2.2.2 = p5
    generalize x.2.2.2.2.isEmpty = p6
    generalize x.2.2.1 = p7
    cases p0 <;> cases p2 <;> cases p4 <;> cases p5 <;> cases p3 <;> cases p7 <;> cases p1 <;> cases p6 <;> rfl
  ·simp only [g_Ss_FroOk_2,RT.sel,cond_true,Int.lt_irrefl,decide_false,cond_false]
 have e30:decide ((w.length:Int) > 30) = !decide (w.length ≤ 30) := by rw [Bool.eq_iff_iff]; simp; omega
 unfold g_As_FroOk g_Vs_FroOk_0 froP
 rw [d1,d2,L,L2,e30]
 generalize (List.range w.length).all _ = q1
 generalize l.all frontN = q2
 generalize diskP l safe = q3
 generalize decide (w.length ≤ 30) = q4
 cases q1 <;> cases q2 <;> cases q3 <;> cases q4 <;> exact ⟨rfl,rfl⟩
theorem i_FroOk_f (l:List Note) (safe:Int) (w:List FTx) (hl:l.length ≤ 1048576) (hit:∀ x ∈ l,smallN x) (hw:w.length ≤ 1048576) (hiw:∀ x ∈ w,smallT x):g_Ai_FroOk l safe w = true ∧ g_Vi_FroOk_0 l safe w = froP l safe w := by
 obtain ⟨d1,d2⟩ := i_DiskOk_f l safe hl hit
 obtain ⟨r,h1,h2⟩ := loop_idx (e := NI_) l (step := g_SZ6_0 l (l.length:Int)) (fun x => !frontN x) (fun i hi => by
  have h1:(i:Int) < l.length := by omega
  have h2:(0:Int) ≤ (i:Int) := by omega
  have hw:IntKind.wrap .i64 ((i:Int) + 1) = ((i + 1:Nat):Int) := by rw [wrap64 (by omega)]; omega
  have e2:∀ a b:Int,(a != b) = !decide (a = b) := fun _ _ => rfl
  simp only [g_SZ6_0,RT.sel,cond_true,h1,h2,hw,decide_true,and_self,Int.toNat_natCast,g_Ai_FroOk_1,g_Vi_FroOk_1_0,e2,frontN,Bool.or_true]
  cases decide ((at_ NI_ l i).1 = 2) <;> cases decide ((at_ NI_ l i).1 = 4) <;> rfl) (by simp [g_SZ6_0,RT.sel])
 have h1:g_LZ6_0 l (l.length:Int) 0 = some r := h1
 have a1:g_AZ4 l = true := by simp [g_AZ4,g_AZ6,h1,okO]
 have a2:g_VZ4_0 l = !l.all frontN := by simp only [g_VZ4_0,g_VZ6_0,h1,valO,Option.getD_some,h2,List.not_all_eq_any_not]
 have L2:g_Li_FroOk_0 w (w.length:Int) l safe w 0 = some (bif (List.range w.length).all (fun i => riseQ w i&&wayQ l (at_ FT_ w i)) then .inr () else .inl false) := by
  refine loop_all (step := g_Si_FroOk_0 w (w.length:Int) l safe w) (fun i:Nat => (i:Int)) (fun i => riseQ w i&&wayQ l (at_ FT_ w i)) (.inl false) (.inr ()) w.length (fun i hi => ?_) ?_
  ·have k1:(i:Int) < w.length := by omega
   have k2:(0:Int) ≤ (i:Int) := by omega
   have hw:IntKind.wrap .i64 ((i:Int) + 1) = ((i + 1:Nat):Int) := by rw [wrap64 (by omega)]; omega
   obtain ⟨x1,x2⟩ := hiw _ (at_mem (e := FT_) hi)
   obtain ⟨a1,a2⟩ := Z41_f (at_ FT_ w i).2.2.2.1 x1
   obtain ⟨b1,b2⟩ := Z41_f (at_ FT_ w i).2.2.2.2 x2
   obtain ⟨c1,c2⟩ := i_OpOk_f (at_ FT_ w i).2.1.1 (at_ FT_ w i).2.1.2.1 (at_ FT_ w i).2.1.2.2.1 (at_ FT_ w i).2.1.2.2.2.1 (at_ FT_ w i).2.1.2.2.2.2.1 (at_ FT_ w i).2.1.2.2.2.2.2.1 (at_ FT_ w i).2.1.2.2.2.2.2.2
   have e2:∀ x:Int,(x == 2) = decide (x = 2) := fun _ => rfl
   simp only [g_Si_FroOk_0,RT.sel,cond_true,k1,k2,hw,decide_true,and_self,Int.toNat_natCast,(isTx_f _).1,(isTx_f _).2,a1,a2,b1,b2,g_AZ40,decide_eq_true hl,of_eq,c1,c2,e2,isE_eq,le_not_lt,riseQ,wayQ,opQ]
   cases i with
   | zero =>
    rw [show decide (((0:Nat):Int) > 0) = false from rfl]
    generalize at_ FT_ w 0 = x
    generalize opP _ _ _ _ _ _ _ = p1
    generalize decide (0 ≤ x.1 ∧ x.1 ≤ 29) = p2
    generalize decide (ofP l x.1 = 2) = p3
    generalize svcP x.2.2.2.1 = p4
    generalize svcP x.2.2.2.2 = p5
    generalize x.2.2.2.2.isEmpty = p6
    generalize x.2.2.1 = p7
    cases p2 <;> cases p4 <;> cases p5 <;> cases p3 <;> cases p7 <;> cases p1 <;> cases p6 <;> rfl
   | succ i =>
    have k3:((i + 1:Nat):Int) > 0 := by omega
    have hm:IntKind.wrap .i64 (((i + 1:Nat):Int) - 1) = (i:Int) := by rw [wrap64 (by omega)]; omega
    have k4:(i:Int) < w.length := by omega
    have k5:(0:Int) ≤ (i:Int) := by omega
    simp only [k3,k4,k5,hm,decide_true,and_self,Int.toNat_natCast,Nat.add_sub_cancel,cond_true]
    generalize decide ((at_ FT_ w i).1 < (at_ FT_ w (i + 1)).1) = p0
    generalize at_ FT_ w (i + 1) = x
    generalize opP _ _ _ _ _ _ _ = p1
    generalize decide (0 ≤ x.1 ∧ x.1 ≤ 29) = p2
    generalize decide (ofP l x.1 = 2) = p3
    generalize svcP x.2.2.2.1 = p4
    generalize svcP x.2.2.2.2 = p5
    generalize x.2.2.2.2.isEmpty = p6
    generalize x.2.2.1 = p7
    cases p0 <;> cases p2 <;> cases p4 <;> cases p5 <;> cases p3 <;> cases p7 <;> cases p1 <;> cases p6 <;> rfl
  ·simp only [g_Si_FroOk_0,RT.sel,cond_true,Int.lt_irrefl,decide_false,cond_false]
 have e30:decide ((w.length:Int) > 30) = !decide (w.length ≤ 30) := by rw [Bool.eq_iff_iff]; simp; omega
 unfold g_Ai_FroOk g_Vi_FroOk_0 froP
 rw [d1,d2,a1,a2,L2,e30]
 generalize (List.range w.length).all _ = q1
 generalize l.all frontN = q2
 generalize diskP l safe = q3
 generalize decide (w.length ≤ 30) = q4
 cases q1 <;> cases q2 <;> cases q3 <;> cases q4 <;> exact ⟨rfl,rfl⟩
abbrev WI_:Ty := .pair .str (.pair .bool (.sl 3 (.int .i64)))
theorem s_l2Note_f (k t:Int) (ls:List ByteArray) (ws:List (ByteArray×Bool×List Int)) (h1:ls.length ≤ 1048576) (h2:ws.length ≤ 1048576) (h3:∀ w ∈ ws,w.2.2.length ≤ 1048576):g_As_l2Note k t ls ws = true ∧ g_Vs_l2Note_0 k t ls ws = ls ∧ g_Vs_l2Note_1 k t ls ws = ws := by
 have L:g_Ls_l2Note_0 k t ls ws 0 0 [] [] k t ([] ++ ls) (0,[]) = some (ws.map id) := by
  refine loop_app (e := WI_) (step := g_Ss_l2Note_0 k t ls ws 0 0 [] [] k t ([] ++ ls)) ws (fun i r => (i,r)) id id (fun i r hi hr => ?_) (fun r hr => by simp only [g_Ss_l2Note_0,RT.sel,cond_true,Int.lt_irrefl,decide_false,cond_false,id])
  have k1:(i:Int) < ws.length := by omega
  have k2:(0:Int) ≤ (i:Int) := by omega
  have hx := h3 _ (at_mem (e := WI_) hi)
  simp only [g_Ss_l2Note_0,RT.sel,cond_true,k1,k2,decide_true,and_self,Int.toNat_natCast,List.nil_append,id]
  rw [cap0_f _ _ hx (by decide),capF_f _ _ _ (by simp only [List.length_cons,List.length_nil]; omega) (by decide),cond_true,cond_true,wrap64 (x := (i:Int) + 1) (by omega)]
  rfl
 rw [List.map_id] at L
 unfold g_As_l2Note g_Vs_l2Note_0 g_Vs_l2Note_1
 rw [L,cap0_f _ 16 h1 (by decide)]
 exact ⟨rfl,rfl,rfl⟩
theorem s_l2Copy_f (l:List Note) (safe:Int) (hl:l.length ≤ 1048576) (hit:∀ x ∈ l,smallN x):g_As_l2Copy l safe = true ∧ g_Vs_l2Copy_0 l safe = l := by
 have L:g_Ls_l2Copy_0 l safe 0 [] safe (0,[]) = some (l.map id) := by
  refine loop_app (e := NI_) (step := g_Ss_l2Copy_0 l safe 0 [] safe) l (fun i r => (i,r)) id id (fun i r hi hr => ?_) (fun r hr => by simp only [g_Ss_l2Copy_0,RT.sel,cond_true,Int.lt_irrefl,decide_false,cond_false,id])
  have k1:(i:Int) < l.length := by omega
  have k2:(0:Int) ≤ (i:Int) := by omega
  have hx := hit _ (at_mem (e := NI_) hi)
  obtain ⟨c1,c2,c3⟩ := s_l2Note_f (at_ NI_ l i).1 (at_ NI_ l i).2.1 (at_ NI_ l i).2.2.1 (at_ NI_ l i).2.2.2 hx.1 hx.2.1 hx.2.2
  simp only [g_Ss_l2Copy_0,RT.sel,cond_true,k1,k2,decide_true,and_self,Int.toNat_natCast,c1,c2,c3,id]
  rw [capF_f _ _ _ (by simp only [List.length_cons,List.length_nil]; omega) (by decide),cond_true,wrap64 (x := (i:Int) + 1) (by omega)]
  rfl
 rw [List.map_id] at L
 simp only [g_As_l2Copy,g_Vs_l2Copy_0,L,okO,valO,Option.isSome_some,Option.getD_some,and_self]
theorem s_l6Copy_f (l:List Note) (safe:Int) (w:List FTx) (hl:l.length ≤ 1048576) (hit:∀ x ∈ l,smallN x) (hw:w.length ≤ 1048576) (hiw:∀ x ∈ w,smallT x):g_As_l6Copy l safe w = true ∧ g_Vs_l6Copy_0 l safe w = w := by
 obtain ⟨c1,c2⟩ := s_l2Copy_f l safe hl hit
 have L:g_Ls_l6Copy_0 l safe w 0 [] [] safe (g_Vs_l2Copy_0 l safe) (0,[]) = some (w.map id) := by
  refine loop_app (e := FT_) (step := g_Ss_l6Copy_0 l safe w 0 [] [] safe (g_Vs_l2Copy_0 l safe)) w (fun i r => (i,r)) id id (fun i r hi hr => ?_) (fun r hr => by simp only [g_Ss_l6Copy_0,RT.sel,cond_true,Int.lt_irrefl,decide_false,cond_false,id])
  have k1:(i:Int) < w.length := by omega
  have k2:(0:Int) ≤ (i:Int) := by omega
  have hx := hiw _ (at_mem (e := FT_) hi)
  simp only [g_Ss_l6Copy_0,RT.sel,cond_true,k1,k2,decide_true,and_self,Int.toNat_natCast,List.nil_append,id]
  rw [cap0_f _ 8 hx.1 (by decide),cap0_f _ 8 hx.2 (by decide),capF_f _ _ _ (by simp only [List.length_cons,List.length_nil]; omega) (by decide),cond_true,cond_true,cond_true,wrap64 (x := (i:Int) + 1) (by omega)]
  rfl
 rw [List.map_id] at L
 simp only [g_As_l6Copy,g_Vs_l6Copy_0,c1,L,okO,valO,Option.isSome_some,Option.getD_some,and_self,Bool.and_self]
theorem writesOf_f (l:List (ByteArray×Bool×List Int)) (hl:l.length ≤ 1048576) (hit:∀ w ∈ l,w.2.2.length ≤ 1048576):g_AZ68 l = true ∧ g_VZ68_0 l = l := by
 have L:g_LZ68_0 l (l.length:Int) ([],0) = some (l.map id) := by
  refine loop_app (e := WI_) (step := g_SZ68_0 l (l.length:Int)) l (fun i r => (r,i)) id id (fun i r hi hr => ?_) (fun r hr => by simp only [g_SZ68_0,RT.sel,cond_true,Int.lt_irrefl,decide_false,cond_false,id])
  have k1:(i:Int) < l.length := by omega
  have k2:(0:Int) ≤ (i:Int) := by omega
  have hx := hit _ (at_mem (e := WI_) hi)
  simp only [g_SZ68_0,RT.sel,cond_true,k1,k2,decide_true,and_self,Int.toNat_natCast,g_AZ17,id]
  rw [cap0_f _ _ hx (by decide),capF_f _ _ _ (by simp only [List.length_cons,List.length_nil]; omega) (by decide),cond_true,cond_true,wrap64 (x := (i:Int) + 1) (by omega)]
  rfl
 rw [List.map_id] at L
 simp only [g_AZ68,g_VZ68_0,L,okO,valO,Option.isSome_some,Option.getD_some,and_self]
theorem i_noteCopied_f (k t:Int) (ls:List ByteArray) (ws:List (ByteArray×Bool×List Int)) (h1:ls.length ≤ 1048576) (h2:ws.length ≤ 1048576) (h3:∀ w ∈ ws,w.2.2.length ≤ 1048576):g_AZ22 k t ls ws = true := by
 obtain ⟨a,_⟩ := writesOf_f ws h2 h3
 rw [g_AZ22,a,g_AZ13,cap0_f _ _ h1 (by decide)]
 rfl
theorem i_copied_f (l:List Note) (safe:Int) (hl:l.length ≤ 1048576) (hit:∀ x ∈ l,smallN x):g_AZ23 l safe = true ∧ g_VZ23_0 l safe = l := by
 have L:g_LZ23_0 l (l.length:Int) 0 [] safe (0,[]) = some (l.map id) := by
  refine loop_app (e := NI_) (step := g_SZ23_0 l (l.length:Int) 0 [] safe) l (fun i r => (i,r)) id id (fun i r hi hr => ?_) (fun r hr => by simp only [g_SZ23_0,RT.sel,cond_true,Int.lt_irrefl,decide_false,cond_false,id])
  have k1:(i:Int) < l.length := by omega
  have k2:(0:Int) ≤ (i:Int) := by omega
  have hx := hit _ (at_mem (e := NI_) hi)
  have c := i_noteCopied_f (at_ NI_ l i).1 (at_ NI_ l i).2.1 (at_ NI_ l i).2.2.1 (at_ NI_ l i).2.2.2 hx.1 hx.2.1 hx.2.2
  obtain ⟨_,c2⟩ := writesOf_f (at_ NI_ l i).2.2.2 hx.2.1 hx.2.2
  simp only [g_SZ23_0,RT.sel,cond_true,k1,k2,decide_true,and_self,Int.toNat_natCast,c,c2,id]
  rw [capF_f _ _ _ (by simp only [List.length_cons,List.length_nil]; omega) (by decide),cond_true,wrap64 (x := (i:Int) + 1) (by omega)]
  rfl
 rw [List.map_id] at L
 simp only [g_AZ23,g_VZ23_0,L,okO,valO,Option.isSome_some,Option.getD_some,and_self]
theorem i_froCopied_f (l:List Note) (safe:Int) (w:List FTx) (hl:l.length ≤ 1048576) (hit:∀ x ∈ l,smallN x) (hw:w.length ≤ 1048576) (hiw:∀ x ∈ w,smallT x):g_AZ20 l safe w = true ∧ g_VZ20_0 l safe w = w := by
 obtain ⟨c1,c2⟩ := i_copied_f l safe hl hit
 have L:g_LZ20_0 w (w.length:Int) 0 [] [] safe (g_VZ23_0 l safe) (0,[]) = some (w.map id) := by
  refine loop_app (e := FT_) (step := g_SZ20_0 w (w.length:Int) 0 [] [] safe (g_VZ23_0 l safe)) w (fun i r => (i,r)) id id (fun i r hi hr => ?_) (fun r hr => by simp only [g_SZ20_0,RT.sel,cond_true,Int.lt_irrefl,decide_false,cond_false,id])
  have k1:(i:Int) < w.length := by omega
  have k2:(0:Int) ≤ (i:Int) := by omega
  have hx := hiw _ (at_mem (e := FT_) hi)
  simp only [g_SZ20_0,RT.sel,cond_true,k1,k2,decide_true,and_self,Int.toNat_natCast,g_AZ17,id]
  rw [cap0_f _ 8 hx.1 (by decide),cap0_f _ 8 hx.2 (by decide),capF_f _ _ _ (by simp only [List.length_cons,List.length_nil]; omega) (by decide),cond_true,cond_true,cond_true,wrap64 (x := (i:Int) + 1) (by omega)]
  rfl
 rw [List.map_id] at L
 simp only [g_AZ20,g_VZ20_0,c1,L,okO,valO,Option.isSome_some,Option.getD_some,and_self,Bool.and_self]
def sendM (kind tx k w i c s f g p:Int):Msg := (kind,p,0,tx,k,w,i,c,s,f,g)
theorem told_f (kind tx k w i c s f g:Int) (ps:List Int) (hp:ps.length ≤ 1048576):g_Ai_told kind tx k w i c s f g ps = true ∧ g_Vi_told_0 kind tx k w i c s f g ps = ps.map (sendM kind tx k w i c s f g) := by
 have L:g_Li_told_0 kind tx ps (ps.length:Int) k w i c s f g ([],0) = some (ps.map (sendM kind tx k w i c s f g)) := by
  refine loop_app (e := .int .i64) (step := g_Si_told_0 kind tx ps (ps.length:Int) k w i c s f g) ps (fun i r => (r,i)) (sendM kind tx k w i c s f g) id (fun i r hi hr => ?_) (fun r hr => by simp only [g_Si_told_0,RT.sel,cond_true,Int.lt_irrefl,decide_false,cond_false,id])
  have k1:(i:Int) < ps.length := by omega
  have k2:(0:Int) ≤ (i:Int) := by omega
  simp only [g_Si_told_0,RT.sel,cond_true,k1,k2,decide_true,and_self,Int.toNat_natCast]
  rw [capF_f r.length _ 88 (by show _ + 1 ≤ _; omega) (by decide),cond_true,wrap64 (x := (i:Int) + 1) (by omega)]
  rfl
 simp only [g_Ai_told,g_Vi_told_0,L,okO,valO,Option.isSome_some,Option.getD_some,and_self]
theorem l6Send_f (kind tx k w i c s f g:Int) (ps:List Int) (hp:ps.length ≤ 1048576) (hk:kind = 1 ∨ (k = 0 ∧ w = 0 ∧ i = 0 ∧ c = 0 ∧ s = 0 ∧ f = 0 ∧ g = 0)):g_As_l6Send kind tx k w i c s f g ps = true ∧ g_Vs_l6Send_0 kind tx k w i c s f g ps = ps.map (sendM kind tx k w i c s f g) := by
 have L:g_Ls_l6Send_0 kind tx ps k w i c s f g ([],0) = some (ps.map (sendM kind tx k w i c s f g)) := by
  refine loop_app (e := .int .i64) (step := g_Ss_l6Send_0 kind tx ps k w i c s f g) ps (fun i r => (r,i)) (sendM kind tx k w i c s f g) id (fun i r hi hr => ?_) (fun r hr => by simp only [g_Ss_l6Send_0,RT.sel,cond_true,Int.lt_irrefl,decide_false,cond_false,id])
  have k1:(i:Int) < ps.length := by omega
  have k2:(0:Int) ≤ (i:Int) := by omega
  simp only [g_Ss_l6Send_0,RT.sel,cond_true,k1,k2,decide_true,and_self,Int.toNat_natCast]
  rw [capF_f r.length _ 88 (by show _ + 1 ≤ _; omega) (by decide),capF_f r.length _ 88 (by show _ + 1 ≤ _; omega) (by decide),cond_true,cond_true,wrap64 (x := (i:Int) + 1) (by omega)]
  rcases hk with rfl | ⟨rfl,rfl,rfl,rfl,rfl,rfl,rfl⟩
  ·rfl
  ·cases (kind == 1) <;> rfl
 simp only [g_As_l6Send,g_Vs_l6Send_0,L,okO,valO,Option.isSome_some,Option.getD_some,and_self]
theorem find_f (l:List Note) (safe:Int) (w:List FTx) (tx:Int) (hw:w.length ≤ 1048576):g_AZ24 l safe w tx = true ∧ decide (g_VZ2_0 w tx ≥ 0) = w.any fun x => x.1 == tx := by
 obtain ⟨r,h1,h2⟩ := loop_idx (e := FT_) w (step := g_SZ2_0 w tx (w.length:Int)) (fun x => x.1 == tx) (fun i hi => by
  have h1:(i:Int) < w.length := by omega
  have h2:(0:Int) ≤ (i:Int) := by omega
  have hw:IntKind.wrap .i64 ((i:Int) + 1) = ((i + 1:Nat):Int) := by rw [wrap64 (by omega)]; omega
  simp only [g_SZ2_0,RT.sel,cond_true,h1,h2,hw,decide_true,and_self,Int.toNat_natCast,g_VZ19_0]) (by simp [g_SZ2_0,RT.sel])
 have h1:g_LZ2_0 w tx (w.length:Int) 0 = some r := h1
 simp only [g_AZ24,g_AZ2,g_VZ2_0,h1,okO,valO,Option.isSome_some,Option.getD_some,h2,and_self]
theorem l6At_f (l:List Note) (safe:Int) (w:List FTx) (tx:Int) (hw:w.length ≤ 1048576):g_As_l6At l safe w tx = true ∧ decide (g_Vs_l6At_0 l safe w tx ≥ 0) = w.any fun x => x.1 == tx := by
 obtain ⟨r,h1,h2⟩ := loop_idx (e := FT_) w (step := g_Ss_l6At_0 tx l safe w) (fun x => x.1 == tx) (fun i hi => by
  have h1:(i:Int) < w.length := by omega
  have h2:(0:Int) ≤ (i:Int) := by omega
  have hw:IntKind.wrap .i64 ((i:Int) + 1) = ((i + 1:Nat):Int) := by rw [wrap64 (by omega)]; omega
  simp only [g_Ss_l6At_0,RT.sel,cond_true,h1,h2,hw,decide_true,and_self,Int.toNat_natCast]) (by simp [g_Ss_l6At_0,RT.sel])
 have h1:g_Ls_l6At_0 tx l safe w 0 = some r := h1
 simp only [g_As_l6At,g_Vs_l6At_0,h1,okO,valO,Option.isSome_some,Option.getD_some,h2,and_self]
def begQ (l:List Note) (w:List FTx) (tx:Int):Bool := !(w.any fun x => x.1 == tx)&&(decide (ofP l tx = 0)&&((!decide ((w.length:Int) > 0) || decide ((at_ FT_ w (w.length - 1)).1 ≤ tx))&&decide ((l.length:Int) + 2 * (w.length:Int) + 2 ≤ 120)))
def placesO (o:Op_):List Int := placesP o.1 o.2.1 o.2.2.1 o.2.2.2.1 o.2.2.2.2.1 o.2.2.2.2.2.1 o.2.2.2.2.2.2
def sendO (kind tx:Int) (o:Op_) (p:Int):Msg := (kind,p,0,tx,o)
def begS (l:List Note) (safe:Int) (w:List FTx) (tx:Int) (o:Op_):(List Note×Int×List FTx)×List Msg×Bool :=
 bif froP l safe w&&(decide (0 ≤ tx ∧ tx ≤ 29)&&opQ o) then (bif begQ l w tx then ((l,safe,w ++ [(tx,o,false,[],[])]),(placesO o).map (sendO 1 tx o),true) else ((l,safe,w),[],false)) else (([],0,[]),[],false)
theorem begS_ok (l:List Note) (safe:Int) (w:List FTx) (tx:Int) (o:Op_) (hl:l.length ≤ 1048576) (hit:∀ x ∈ l,smallN x) (hw:w.length ≤ 1048576) (hiw:∀ x ∈ w,smallT x) :
  (begS l safe w tx o).1.1.length ≤ 1048576 ∧ (∀ x ∈ (begS l safe w tx o).1.1,smallN x) ∧ sumC cN (begS l safe w tx o).1.1 ≤ sumC cN l ∧ (begS l safe w tx o).1.2.2.length ≤ 1048576 ∧ (∀ x ∈ (begS l safe w tx o).1.2.2,smallT x) ∧ sumC cF (begS l safe w tx o).1.2.2 ≤ sumC cF w + 9 ∧ (begS l safe w tx o).2.1.length ≤ 3 := by
 unfold begS
 cases hp:froP l safe w
 ·simp [sumC]
 ·have h30:w.length ≤ 30 := by
   unfold froP at hp
   simp only [Bool.and_eq_true,decide_eq_true_eq] at hp
   exact hp.2.2.1
  cases decide (0 ≤ tx ∧ tx ≤ 29)&&opQ o
  ·simp [sumC]
  ·cases begQ l w tx
   ·exact ⟨hl,hit,Nat.le_refl _,hw,hiw,Nat.le_add_right _ _,by simp⟩
   ·refine ⟨hl,hit,Nat.le_refl _,?_,fun x hx => ?_,?_,?_⟩
    ·show (w ++ _).length ≤ _
     simp only [List.length_append,List.length_cons,List.length_nil]; omega
    ·rcases List.mem_append.1 hx with hx | hx
     ·exact hiw x hx
     ·rw [List.mem_singleton] at hx; subst hx; exact ⟨by simp,by simp⟩
    ·show sumC cF (w ++ _) ≤ _
     unfold sumC
     rw [List.map_append,List.sum_append]
     simp [cF]
    ·show (List.map _ _).length ≤ 3
     rw [List.length_map]
     exact placesP_len ..
theorem i_begin_f (l:List Note) (safe:Int) (w:List FTx) (tx:Int) (o:Op_) (hl:l.length ≤ 1048576) (hw:w.length ≤ 1048576) :
  g_AZ21 l safe w tx o.1 o.2.1 o.2.2.1 o.2.2.2.1 o.2.2.2.2.1 o.2.2.2.2.2.1 o.2.2.2.2.2.2 = true ∧ g_VZ21_0 l safe w tx o.1 o.2.1 o.2.2.1 o.2.2.2.1 o.2.2.2.2.1 o.2.2.2.2.2.1 o.2.2.2.2.2.2 = (bif begQ l w tx then (placesO o).map (sendO 1 tx o) else []) ∧ g_VZ21_1 l safe w tx o.1 o.2.1 o.2.2.1 o.2.2.2.1 o.2.2.2.2.1 o.2.2.2.2.2.1 o.2.2.2.2.2.2 = begQ l w tx ∧ g_VZ21_2 l safe w tx o.1 o.2.1 o.2.2.1 o.2.2.2.1 o.2.2.2.2.1 o.2.2.2.2.2.1 o.2.2.2.2.2.2 = l ∧ g_VZ21_3 l safe w tx o.1 o.2.1 o.2.2.1 o.2.2.2.1 o.2.2.2.2.1 o.2.2.2.2.2.1 o.2.2.2.2.2.2 = safe ∧ g_VZ21_4 l safe w tx o.1 o.2.1 o.2.2.1 o.2.2.2.1 o.2.2.2.2.1 o.2.2.2.2.2.1 o.2.2.2.2.2.2 = (bif begQ l w tx then w ++ [(tx,o,false,[],[])] else w) := by
 obtain ⟨a1,a2⟩ := find_f l safe w tx hw
 obtain ⟨p1,p2⟩ := Z67_f o.1 o.2.1 o.2.2.1 o.2.2.2.1 o.2.2.2.2.1 o.2.2.2.2.2.1 o.2.2.2.2.2.2
 obtain ⟨s1,s2⟩ := told_f 1 tx o.1 o.2.1 o.2.2.1 o.2.2.2.1 o.2.2.2.2.1 o.2.2.2.2.2.1 o.2.2.2.2.2.2 (placesO o) (by have:(placesO o).length ≤ 3 := placesP_len ..; omega)
 have p2':g_VZ67_0 o.1 o.2.1 o.2.2.1 o.2.2.2.1 o.2.2.2.2.1 o.2.2.2.2.2.1 o.2.2.2.2.2.2 = placesO o := p2
 have s2':g_Vi_told_0 1 tx o.1 o.2.1 o.2.2.1 o.2.2.2.1 o.2.2.2.2.1 o.2.2.2.2.2.1 o.2.2.2.2.2.2 (placesO o) = (placesO o).map (sendO 1 tx o) := s2
 have n1:IntKind.wrap .i64 ((w.length:Int) - 1) = (w.length:Int) - 1 := wrap64 (by omega)
 have n2:IntKind.wrap .i64 (2 * (w.length:Int)) = 2 * (w.length:Int) := wrap64 (by omega)
 have n3:IntKind.wrap .i64 ((l.length:Int) + 2 * (w.length:Int)) = (l.length:Int) + 2 * (w.length:Int) := wrap64 (by omega)
 have n4:IntKind.wrap .i64 ((l.length:Int) + 2 * (w.length:Int) + 2) = (l.length:Int) + 2 * (w.length:Int) + 2 := wrap64 (by omega)
 have n5:decide ((w.length:Int) - 1 ≥ 0) = decide ((w.length:Int) > 0) := decide_eq_decide.2 (by omega)
 have n6:Int.toNat ((w.length:Int) - 1) = w.length - 1 := by omega
 have n7:∀ a b:Int,decide (a > b) = !decide (a ≤ b) := fun a b => by rw [Bool.eq_iff_iff]; simp
 have n8:∀ x:Int,(x != 0) = !decide (x = 0) := fun _ => rfl
 have n9:∀ x:FTx,decide ((List.length w + List.length [x]) * nat_lit 120 ≤ nat_lit 140737488355328 ∧ List.length w + List.length [x] ≤ nat_lit 9223372036854775807) = true := fun x => capF_f _ _ _ (by simp only [List.length_cons,List.length_nil]; omega) (by decide)
 simp only [g_AZ21,g_VZ21_0,g_VZ21_1,g_VZ21_2,g_VZ21_3,g_VZ21_4,a1,a2,g_AZ40,decide_eq_true hl,of_eq,p1,p2',s1,s2',n1,n2,n3,n4,n5,n6,n8,n9,begQ]
 by_cases hz:(w.length:Int) > 0
 ·have k1:(0:Int) ≤ (w.length:Int) - 1 ∧ (w.length:Int) - 1 < w.length := by omega
  have k2:w.length - 1 < w.length := by omega
  simp only [decide_eq_true hz,decide_eq_true k1,decide_eq_true k2]
  rw [n7 (at_ FT_ w (w.length - 1)).1 tx,n7 ((l.length:Int) + 2 * (w.length:Int) + 2) 120]
  generalize w.any _ = q1
  generalize decide (ofP l tx = 0) = q2
  generalize decide ((at_ FT_ w (w.length - 1)).1 ≤ tx) = q3
  generalize decide ((l.length:Int) + 2 * (w.length:Int) + 2 ≤ 120) = q4
  cases q1 <;> cases q2 <;> cases q3 <;> cases q4 <;> exact ⟨rfl,rfl,rfl,rfl,rfl,rfl⟩
 ·simp only [decide_eq_false hz]
  rw [n7 ((l.length:Int) + 2 * (w.length:Int) + 2) 120]
  generalize w.any _ = q1
  generalize decide (ofP l tx = 0) = q2
  generalize decide ((at_ FT_ w (w.length - 1)).1 ≤ tx) = q3
  generalize decide ((l.length:Int) + 2 * (w.length:Int) + 2 ≤ 120) = q4
  cases q1 <;> cases q2 <;> cases q3 <;> cases q4 <;> exact ⟨rfl,rfl,rfl,rfl,rfl,rfl⟩
theorem s_begin_f (l:List Note) (safe:Int) (w:List FTx) (tx:Int) (o:Op_) (hl:l.length ≤ 1048576) (hw:w.length ≤ 1048576) :
  g_As_l6Begin l safe w tx o.1 o.2.1 o.2.2.1 o.2.2.2.1 o.2.2.2.2.1 o.2.2.2.2.2.1 o.2.2.2.2.2.2 = true ∧ g_Vs_l6Begin_3 l safe w tx o.1 o.2.1 o.2.2.1 o.2.2.2.1 o.2.2.2.2.1 o.2.2.2.2.2.1 o.2.2.2.2.2.2 = (bif begQ l w tx then (placesO o).map (sendO 1 tx o) else []) ∧ g_Vs_l6Begin_4 l safe w tx o.1 o.2.1 o.2.2.1 o.2.2.2.1 o.2.2.2.2.1 o.2.2.2.2.2.1 o.2.2.2.2.2.2 = begQ l w tx ∧ g_Vs_l6Begin_0 l safe w tx o.1 o.2.1 o.2.2.1 o.2.2.2.1 o.2.2.2.2.1 o.2.2.2.2.2.1 o.2.2.2.2.2.2 = l ∧ g_Vs_l6Begin_1 l safe w tx o.1 o.2.1 o.2.2.1 o.2.2.2.1 o.2.2.2.2.1 o.2.2.2.2.2.1 o.2.2.2.2.2.2 = safe ∧ g_Vs_l6Begin_2 l safe w tx o.1 o.2.1 o.2.2.1 o.2.2.2.1 o.2.2.2.2.1 o.2.2.2.2.2.1 o.2.2.2.2.2.2 = (bif begQ l w tx then w ++ [(tx,o,false,[],[])] else w) := by
 obtain ⟨a1,a2⟩ := l6At_f l safe w tx hw
 obtain ⟨f1,f2⟩ := l2Of_f l tx hl
 obtain ⟨p1,p2⟩ := Z71_f o.1 o.2.1 o.2.2.1 o.2.2.2.1 o.2.2.2.2.1 o.2.2.2.2.2.1 o.2.2.2.2.2.2
 obtain ⟨s1,s2⟩ := l6Send_f 1 tx o.1 o.2.1 o.2.2.1 o.2.2.2.1 o.2.2.2.2.1 o.2.2.2.2.2.1 o.2.2.2.2.2.2 (placesO o) (by have:(placesO o).length ≤ 3 := placesP_len ..; omega) (.inl rfl)
 have p2':g_VZ71_0 o.1 o.2.1 o.2.2.1 o.2.2.2.1 o.2.2.2.2.1 o.2.2.2.2.2.1 o.2.2.2.2.2.2 = placesO o := p2
 have s2':g_Vs_l6Send_0 1 tx o.1 o.2.1 o.2.2.1 o.2.2.2.1 o.2.2.2.2.1 o.2.2.2.2.2.1 o.2.2.2.2.2.2 (placesO o) = (placesO o).map (sendO 1 tx o) := s2
 have n1:IntKind.wrap .i64 ((w.length:Int) - 1) = (w.length:Int) - 1 := wrap64 (by omega)
 have n2:IntKind.wrap .i64 (2 * (w.length:Int)) = 2 * (w.length:Int) := wrap64 (by omega)
 have n3:IntKind.wrap .i64 ((l.length:Int) + 2 * (w.length:Int)) = (l.length:Int) + 2 * (w.length:Int) := wrap64 (by omega)
 have n4:IntKind.wrap .i64 ((l.length:Int) + 2 * (w.length:Int) + 2) = (l.length:Int) + 2 * (w.length:Int) + 2 := wrap64 (by omega)
 have n5:decide ((w.length:Int) - 1 ≥ 0) = decide ((w.length:Int) > 0) := decide_eq_decide.2 (by omega)
 have n6:Int.toNat ((w.length:Int) - 1) = w.length - 1 := by omega
 have n7:∀ a b:Int,decide (a > b) = !decide (a ≤ b) := fun a b => by rw [Bool.eq_iff_iff]; simp
 have n8:∀ x:Int,(x != 0) = !decide (x = 0) := fun _ => rfl
 have n9:∀ x:FTx,decide ((List.length w + List.length [x]) * nat_lit 120 ≤ nat_lit 140737488355328 ∧ List.length w + List.length [x] ≤ nat_lit 9223372036854775807) = true := fun x => capF_f _ _ _ (by simp only [List.length_cons,List.length_nil]; omega) (by decide)
 simp only [g_As_l6Begin,g_Vs_l6Begin_0,g_Vs_l6Begin_1,g_Vs_l6Begin_2,g_Vs_l6Begin_3,g_Vs_l6Begin_4,a1,a2,f1,f2,p1,p2',s1,s2',n1,n2,n3,n4,n5,n6,n8,n9,begQ]
 by_cases hz:(w.length:Int) > 0
 ·have k1:(0:Int) ≤ (w.length:Int) - 1 ∧ (w.length:Int) - 1 < w.length := by omega
  have k2:w.length - 1 < w.length := by omega
  simp only [decide_eq_true hz,decide_eq_true k1,decide_eq_true k2]
  rw [n7 (at_ FT_ w (w.length - 1)).1 tx,n7 ((l.length:Int) + 2 * (w.length:Int) + 2) 120]
  generalize w.any _ = q1
  generalize decide (ofP l tx = 0) = q2
  generalize decide ((at_ FT_ w (w.length - 1)).1 ≤ tx) = q3
  generalize decide ((l.length:Int) + 2 * (w.length:Int) + 2 ≤ 120) = q4
  cases q1 <;> cases q2 <;> cases q3 <;> cases q4 <;> exact ⟨rfl,rfl,rfl,rfl,rfl,rfl⟩
 ·simp only [decide_eq_false hz]
  rw [n7 ((l.length:Int) + 2 * (w.length:Int) + 2) 120]
  generalize w.any _ = q1
  generalize decide (ofP l tx = 0) = q2
  generalize decide ((at_ FT_ w (w.length - 1)).1 ≤ tx) = q3
  generalize decide ((l.length:Int) + 2 * (w.length:Int) + 2 ≤ 120) = q4
  cases q1 <;> cases q2 <;> cases q3 <;> cases q4 <;> exact ⟨rfl,rfl,rfl,rfl,rfl,rfl⟩
theorem way_small (w:List FTx) (tx:Int) (o:Op_) (b:Bool) (hw:w.length ≤ 30) (hiw:∀ x ∈ w,smallT x):(bif b then w ++ [(tx,o,false,[],[])] else w).length ≤ 1048576 ∧ ∀ x ∈ (bif b then w ++ [(tx,o,false,[],[])] else w),smallT x := by
 cases b
 ·exact ⟨by simp only [cond_false]; omega,hiw⟩
 ·refine ⟨by simp only [cond_true,List.length_append,List.length_cons,List.length_nil]; omega,fun x hx => ?_⟩
  rcases List.mem_append.1 hx with hx | hx
  ·exact hiw x hx
  ·rw [List.mem_singleton] at hx; subst hx; exact ⟨by simp,by simp⟩
theorem froP_len {l:List Note} {safe:Int} {w:List FTx} (h:froP l safe w = true):w.length ≤ 30 := by
 unfold froP at h
 simp only [Bool.and_eq_true,decide_eq_true_eq] at h
 exact h.2.2.1
theorem Z69_f (l:List Note) (safe:Int) (w:List FTx) (tx:Int) (o:Op_) (hl:l.length ≤ 1048576) (hit:∀ x ∈ l,smallN x) (hw:w.length ≤ 1048576) (hiw:∀ x ∈ w,smallT x) :
  g_AZ69 l safe w tx o.1 o.2.1 o.2.2.1 o.2.2.2.1 o.2.2.2.2.1 o.2.2.2.2.2.1 o.2.2.2.2.2.2 = true ∧ g_VZ69_0 l safe w tx o.1 o.2.1 o.2.2.1 o.2.2.2.1 o.2.2.2.2.1 o.2.2.2.2.2.1 o.2.2.2.2.2.2 = (begS l safe w tx o).1.1 ∧ g_VZ69_1 l safe w tx o.1 o.2.1 o.2.2.1 o.2.2.2.1 o.2.2.2.2.1 o.2.2.2.2.2.1 o.2.2.2.2.2.2 = (begS l safe w tx o).1.2.1 ∧ g_VZ69_2 l safe w tx o.1 o.2.1 o.2.2.1 o.2.2.2.1 o.2.2.2.2.1 o.2.2.2.2.2.1 o.2.2.2.2.2.2 = (begS l safe w tx o).1.2.2 ∧ g_VZ69_3 l safe w tx o.1 o.2.1 o.2.2.1 o.2.2.2.1 o.2.2.2.2.1 o.2.2.2.2.2.1 o.2.2.2.2.2.2 = (begS l safe w tx o).2.1 ∧ g_VZ69_4 l safe w tx o.1 o.2.1 o.2.2.1 o.2.2.2.1 o.2.2.2.2.1 o.2.2.2.2.2.1 o.2.2.2.2.2.2 = (begS l safe w tx o).2.2 := by
 obtain ⟨a1,a2⟩ := i_FroOk_f l safe w hl hit hw hiw
 obtain ⟨b1,b2⟩ := i_OpOk_f o.1 o.2.1 o.2.2.1 o.2.2.2.1 o.2.2.2.2.1 o.2.2.2.2.2.1 o.2.2.2.2.2.2
 have b2:g_Vi_OpOk_0 o.1 o.2.1 o.2.2.1 o.2.2.2.1 o.2.2.2.2.1 o.2.2.2.2.2.1 o.2.2.2.2.2.2 = opQ o := b2
 obtain ⟨c1,c2⟩ := i_copied_f l safe hl hit
 obtain ⟨d1,d2⟩ := i_froCopied_f l safe w hl hit hw hiw
 obtain ⟨e1,e2,e3,e4,e5,e6⟩ := i_begin_f l safe w tx o hl hw
 simp only [g_AZ69,g_VZ69_0,g_VZ69_1,g_VZ69_2,g_VZ69_3,g_VZ69_4,a1,a2,b1,b2,c1,c2,d1,d2,e1,e2,e3,e4,e5,e6,(isTx_f _).1,(isTx_f _).2,begS]
 generalize begQ l w tx = q1
 generalize opQ o = q2
 generalize decide (0 ≤ tx ∧ tx ≤ 29) = q3
 generalize froP l safe w = q4
 cases q4 <;> cases q2 <;> cases q3 <;> cases q1 <;> exact ⟨rfl,rfl,rfl,rfl,rfl,rfl⟩
theorem Z72_f (l:List Note) (safe:Int) (w:List FTx) (tx:Int) (o:Op_) (hl:l.length ≤ 1048576) (hit:∀ x ∈ l,smallN x) (hw:w.length ≤ 1048576) (hiw:∀ x ∈ w,smallT x) :
  g_AZ72 l safe w tx o.1 o.2.1 o.2.2.1 o.2.2.2.1 o.2.2.2.2.1 o.2.2.2.2.2.1 o.2.2.2.2.2.2 = true ∧ g_VZ72_0 l safe w tx o.1 o.2.1 o.2.2.1 o.2.2.2.1 o.2.2.2.2.1 o.2.2.2.2.2.1 o.2.2.2.2.2.2 = (begS l safe w tx o).1.1 ∧ g_VZ72_1 l safe w tx o.1 o.2.1 o.2.2.1 o.2.2.2.1 o.2.2.2.2.1 o.2.2.2.2.2.1 o.2.2.2.2.2.2 = (begS l safe w tx o).1.2.1 ∧ g_VZ72_2 l safe w tx o.1 o.2.1 o.2.2.1 o.2.2.2.1 o.2.2.2.2.1 o.2.2.2.2.2.1 o.2.2.2.2.2.2 = (begS l safe w tx o).1.2.2 ∧ g_VZ72_3 l safe w tx o.1 o.2.1 o.2.2.1 o.2.2.2.1 o.2.2.2.2.1 o.2.2.2.2.2.1 o.2.2.2.2.2.2 = (begS l safe w tx o).2.1 ∧ g_VZ72_4 l safe w tx o.1 o.2.1 o.2.2.1 o.2.2.2.1 o.2.2.2.2.1 o.2.2.2.2.2.1 o.2.2.2.2.2.2 = (begS l safe w tx o).2.2 := by
 obtain ⟨a1,a2⟩ := s_FroOk_f l safe w hl hit hw hiw
 obtain ⟨b1,b2⟩ := s_OpOk_f o.1 o.2.1 o.2.2.1 o.2.2.2.1 o.2.2.2.2.1 o.2.2.2.2.2.1 o.2.2.2.2.2.2
 have b2:g_Vs_OpOk_0 o.1 o.2.1 o.2.2.1 o.2.2.2.1 o.2.2.2.2.1 o.2.2.2.2.2.1 o.2.2.2.2.2.2 = opQ o := b2
 obtain ⟨c1,c2⟩ := s_l2Copy_f l safe hl hit
 obtain ⟨d1,d2⟩ := s_l6Copy_f l safe w hl hit hw hiw
 obtain ⟨e1,e2,e3,e4,e5,e6⟩ := s_begin_f l safe w tx o hl hw
 simp only [g_AZ72,g_VZ72_0,g_VZ72_1,g_VZ72_2,g_VZ72_3,g_VZ72_4,a1,a2,b1,b2,c1,c2,d1,d2,e1,e2,e3,e4,e5,e6,(s_l1In_f _ _ _).1,(s_l1In_f _ _ _).2,begS]
 cases hp:froP l safe w
 ·exact ⟨rfl,rfl,rfl,rfl,rfl,rfl⟩
 ·obtain ⟨x1,x2⟩ := way_small w tx o (begQ l w tx) (froP_len hp) hiw
  obtain ⟨g1,g2⟩ := s_l6Copy_f l safe _ hl hit x1 x2
  rw [g1,g2]
  generalize begQ l w tx = q1
  generalize opQ o = q2
  generalize decide (0 ≤ tx ∧ tx ≤ 29) = q3
  cases q2 <;> cases q3 <;> cases q1 <;> exact ⟨rfl,rfl,rfl,rfl,rfl,rfl⟩
theorem pure_FnExactFroBegin (x:(List Note×Int)×List FTx) (ok:((x.1.1.length ≤ maxLen ∧ ∀ n ∈ x.1.1,okN n) ∧ (Lit.int .i64 x.1.2).wf = true) ∧ (x.2.length ≤ maxLen ∧ ∀ t ∈ x.2,okT t)) (tx:Int) (ok2:(Lit.int .i64 tx).wf = true) (o:Op_) (ok3:okOp o) :
  Fw_FnExactFroBegin [argRV true (.pair (.pair (.sl 169 NL_) (.int .i64)) (.sl 129 FT_)) x,argRV false (.int .i64) tx,argRV true OP_ o] = some (true,.val false [.bool true],[]) := by
 obtain ⟨⟨l,safe⟩,w⟩ := x
 obtain ⟨⟨⟨h1,h2⟩,_⟩,h3,h4⟩ := ok
 obtain ⟨ok_,ow,oi,oc,os,of_,og⟩ := o
 show some (g_Aw_FnExactFroBegin l safe w tx ok_ ow oi oc os of_ og,RV.val false [Cell.bool (g_Vw_FnExactFroBegin_0 l safe w tx ok_ ow oi oc os of_ og)],[]) = _
 obtain ⟨a1,a2⟩ := szFroState_f l safe w h1 h2 h3 h4 1048576 (by decide) (by decide)
 have key:g_Aw_FnExactFroBegin l safe w tx ok_ ow oi oc os of_ og = true ∧ g_Vw_FnExactFroBegin_0 l safe w tx ok_ ow oi oc os of_ og = true := by
  unfold g_Aw_FnExactFroBegin g_Vw_FnExactFroBegin_0
  rw [a1,a2,left_dec _ _ (by decide)]
  by_cases hc:((szF l w:Nat):Int) ≤ 1048576
  ·obtain ⟨⟨b1,b2⟩,b3,b4⟩ := small_front (l := l) (w := w) (B := 1048576) (by omega) (by decide)
   have mm := sumC_N l
   have mw := sumC_F w
   have hz:szL szN l + szL szT w ≤ 1048576 := by unfold szF at hc; omega
   obtain ⟨c1,c2⟩ := toLogNoteS_f l b1 b2
   obtain ⟨d1,d2⟩ := toFroTxS_f w b3 b4
   obtain ⟨e1,e2,e3,e4,e5,e6⟩ := Z69_f l safe w tx (ok_,ow,oi,oc,os,of_,og) b1 b2 b3 b4
   obtain ⟨f1,f2,f3,f4,f5,f6⟩ := Z72_f l safe w tx (ok_,ow,oi,oc,os,of_,og) b1 b2 b3 b4
   obtain ⟨q1,q2⟩ := eqFroState_self l safe w b1 b2 b3 b4
   obtain ⟨m1,m2,m3⟩ := markLogNoteS_f l 1 b1 b2 ⟨by decide,by unfold MK; omega⟩
   obtain ⟨m4,m5,m6⟩ := markFroTxS_f w (1 + (sumC cN l:Nat)) b3 b4 ⟨by omega,by unfold MK; omega⟩
   have hv := begS_ok l safe w tx (ok_,ow,oi,oc,os,of_,og) b1 b2 b3 b4
   generalize begS l safe w tx (ok_,ow,oi,oc,os,of_,og) = R at hv e2 e3 e4 e5 e6 f2 f3 f4 f5 f6
   obtain ⟨⟨v,vs,vw⟩,vm,vb⟩ := R
   simp only at hv e2 e3 e4 e5 e6 f2 f3 f4 f5 f6
   obtain ⟨g1,g2,g3,g4,g5,g6,g7⟩ := hv
   obtain ⟨p1,p2⟩ := eqFroState_self v vs vw g1 g2 g4 g5
   obtain ⟨p3,p4⟩ := eqMsgMsgS_self vm (by omega)
   obtain ⟨k1,k2,k3⟩ := markLogNoteS_f v 1 g1 g2 ⟨by decide,by unfold MK; omega⟩
   obtain ⟨k4,k5,k6⟩ := markFroTxS_f vw (1 + (sumC cN v:Nat)) g4 g5 ⟨by omega,by unfold MK; omega⟩
   obtain ⟨k7,k8,k9⟩ := markMsgMsgS_f vm (1 + (sumC cN v:Nat) + (sumC cF vw:Nat)) (by omega) ⟨by omega,by unfold MK; omega⟩
   obtain ⟨z1,z2⟩ := heldLogNoteS_f v 1 g1 g2 ⟨by decide,by unfold MK; omega⟩
   obtain ⟨z3,z4⟩ := heldFroTxS_f vw (1 + (sumC cN v:Nat)) g4 g5 ⟨by omega,by unfold MK; omega⟩
   obtain ⟨z5,z6⟩ := heldMsgMsgS_f vm (1 + (sumC cN v:Nat) + (sumC cF vw:Nat)) (by omega) ⟨by omega,by unfold MK; omega⟩
   have n1:¬ ((1:Int) + (sumC cN l:Nat) + (sumC cF w:Nat) < 0) := by omega
   have n2:¬ ((1:Int) + (sumC cN v:Nat) < 0) := by omega
   have n3:¬ ((1:Int) + (sumC cN v:Nat) + (sumC cF vw:Nat) < 0) := by omega
   have n4:¬ ((1:Int) + (sumC cN v:Nat) + (sumC cF vw:Nat) + (11 * vm.length:Nat) < 0) := by omega
   simp only [g_AZ52,g_AZ63,g_AZ30,g_AZ36,g_AZ28,g_VZ28_0,g_AZ33,g_VZ33_0,c1,c2,d1,d2,e1,e2,e3,e4,e5,e6,f1,f2,f3,f4,f5,f6,q1,q2,m1,m2,m4,m5,p1,p2,p3,p4,k1,k2,k3,k4,k5,k6,k7,k8,k9,z1,z2,z3,z4,z5,z6,decide_eq_true hc,decide_eq_false n1,decide_eq_false n2,decide_eq_false n3,decide_eq_false n4,bne_self_eq_false,BEq.rfl,Bool.not_true,Bool.not_false,Bool.and_self,Bool.or_true,Bool.true_or,Bool.or_self,Bool.false_or,cond_true,cond_false,and_self,Bool.true_and,Bool.and_true]
  ·rw [decide_eq_false hc]
   exact ⟨rfl,rfl⟩
 rw [key.1,key.2]
end Go.Proofs.YtedhpmhlmdcpbaaGreatDoor.E
