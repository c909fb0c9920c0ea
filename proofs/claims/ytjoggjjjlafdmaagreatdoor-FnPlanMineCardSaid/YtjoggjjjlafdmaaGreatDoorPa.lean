/- What these values are, in plain words: for the proof (laws.FnPlanMine): part 1. No conditions. -/
import Derived.Test.YtjoggjjjlafdmaaGreatDoorGc
import Derived.Lib.SlTrimSet
set_option linter.all false
namespace Go.Proofs.YtjoggjjjlafdmaaGreatDoor.E
open Go
set_option maxRecDepth 100000
set_option maxHeartbeats 0
theorem wrap64 {x:Int} (h:-9223372036854775808 ≤ x ∧ x < 9223372036854775808):IntKind.wrap .i64 x = x := by
 simp only [IntKind.wrap,IntKind.bits,IntKind.signed]
 simp
 omega
section
variable {σ ρ α β:Type} {step:σ → RT σ ρ}
theorem loop_all (mk:Nat → σ) (p:Nat → Bool) (e fin:ρ) (n:Nat) (h1:∀ i,i < n → (step (mk i)).sel = bif p i then .go (mk (i + 1)) else .out e) (h2:(step (mk n)).sel = .out fin) :
  loopO step (mk 0) = some (bif (List.range n).all p then fin else e) := by
 have key:∀ k i,i + k = n → loopO step (mk i) = some (bif (List.range' i k).all p then fin else e) := by
  intro k
  induction k with
  | zero =>
   intro i hi
   have hi:i = n := by omega
   subst hi
   rw [loopO_eq,h2]
   rfl
  | succ k ih =>
   intro i hi
   rw [loopO_eq,h1 i (by omega),List.range'_succ,List.all_cons]
   cases p i with
   | true => simp only [cond_true,Bool.true_and]; exact ih (i + 1) (by omega)
   | false => rfl
 rw [key n 0 (by omega),List.range_eq_range']
theorem range_all {e:Ty} (l:List e.den) (p:e.den → Bool):(List.range l.length).all (fun i => p (at_ e l i)) = l.all p := by
 rw [Bool.eq_iff_iff,List.all_eq_true,List.all_eq_true]
 constructor
 ·intro h x hx
  obtain ⟨i,hi,rfl⟩ := List.getElem_of_mem hx
  have := h i (List.mem_range.2 hi)
  simpa [at_,hi] using this
 ·intro h i hi
  have hi := List.mem_range.1 hi
  have := h l[i] (List.getElem_mem hi)
  simpa [at_,hi] using this
theorem at_mem {e:Ty} {l:List e.den} {i:Nat} (h:i < l.length):at_ e l i ∈ l := by
 have:at_ e l i = l[i] := by simp [at_,h]
 rw [this]
 exact List.getElem_mem h
theorem at_eq {e:Ty} {l:List e.den} {i:Nat} (h:i < l.length):at_ e l i = l[i] := by simp [at_,h]
theorem loop_list {e:Ty} (l:List e.den) (mk:Nat → σ) (p:e.den → Bool) (x fin:ρ) (h1:∀ i,i < l.length → (step (mk i)).sel = bif p (at_ e l i) then .go (mk (i + 1)) else .out x) (h2:(step (mk l.length)).sel = .out fin) :
  loopO step (mk 0) = some (bif l.all p then fin else x) := by
 rw [loop_all mk (fun i => p (at_ e l i)) x fin l.length h1 h2,range_all]
theorem loop_idx {e:Ty} (l:List e.den) {step:Int → RT Int (Int ⊕ Unit)} (q:e.den → Bool) (h1:∀ i:Nat,i < l.length → (step (i:Int)).sel = bif q (at_ e l i) then .out (.inl (i:Int)) else .go ((i + 1:Nat):Int))
  (h2:(step (l.length:Int)).sel = .out (.inr ())):∃ r,loopO step 0 = some r ∧ decide ((bif isL r then getL r else (-1:Int)) ≥ 0) = l.any q := by
 have key:∀ (k i:Nat),i + k = l.length → ∃ r,loopO step (i:Int) = some r ∧ decide ((bif isL r then getL r else (-1:Int)) ≥ 0) = (l.drop i).any q := by
  intro k
  induction k with
  | zero =>
   intro i hi
   have hi:i = l.length := by omega
   subst hi
   refine ⟨_,by rw [loopO_eq,h2],?_⟩
   simp [isL]
  | succ k ih =>
   intro i hi
   rw [loopO_eq,h1 i (by omega)]
   have hil:i < l.length := by omega
   rw [List.drop_eq_getElem_cons hil,List.any_cons,at_eq hil]
   cases hq:q l[i] with
   | true => exact ⟨_,rfl,by simp [isL,getL]⟩
   | false => simp only [cond_false,Bool.false_or]; exact ih (i + 1) (by omega)
 exact key l.length 0 (by omega)
end
theorem dropWhile_nil {α:Type} (p:α → Bool) (l:List α):l.dropWhile p = [] ↔ ∀ x ∈ l,p x = true := by
 induction l with
 | nil => simp
 | cons a l ih =>
  by_cases h:p a = true
  ·rw [List.dropWhile_cons_of_pos h,ih]; simp [h]
  ·rw [List.dropWhile_cons_of_neg h]; simp [h]
theorem trimS_nil (l cs:List UInt8):(Lib.trimS l cs = []) ↔ l.all (cs.contains ·) = true := by
 unfold Lib.trimS Lib.trimLeftS Lib.trimRightS
 constructor
 ·intro h
  rw [dropWhile_nil] at h
  rw [List.all_eq_true]
  intro x hx
  have h2:∀ (m:List UInt8),(∀ y ∈ (m.dropWhile (cs.contains ·)).reverse,cs.contains y = true) → ∀ y ∈ m,cs.contains y = true := by
   intro m
   induction m with
   | nil => intro _ y hy; cases hy
   | cons a m ih =>
    intro hm y hy
    by_cases ha:cs.contains a = true
    ·rw [List.dropWhile_cons_of_pos ha] at hm
     rcases List.mem_cons.1 hy with rfl | hy
     ·exact ha
     ·exact ih hm y hy
    ·rw [List.dropWhile_cons_of_neg ha] at hm
     exact hm y (List.mem_reverse.2 hy)
  exact h2 l.reverse (fun y hy => h y hy) x (by simpa using hx)
 ·intro h
  rw [List.all_eq_true] at h
  rw [dropWhile_nil]
  intro x hx
  have:x ∈ l := by
   have h3 := List.mem_reverse.1 hx
   have := (List.dropWhile_sublist (fun x => cs.contains x) (l := l.reverse)).subset h3
   simpa using this
  exact h x this
theorem byte_range (s:ByteArray) (i:Nat):0 ≤ byteAt s i ∧ byteAt s i < 256 := by
 unfold byteAt
 have := (s.data[i]?.getD 0).toNat_lt
 omega
theorem i_in_f (a b c:Int):g_Ai_in a b c = true ∧ g_Vi_in_0 a b c = decide (b ≤ a ∧ a ≤ c) := by
 constructor
 ·simp [g_Ai_in]
 ·unfold g_Vi_in_0
  by_cases h:a ≥ b
  ·simp [h]
  ·simp [h]
theorem s_l1In_f (a b c:Int):g_As_l1In a b c = true ∧ g_Vs_l1In_0 a b c = decide (b ≤ a ∧ a ≤ c) := by
 constructor
 ·simp [g_As_l1In]
 ·unfold g_Vs_l1In_0
  by_cases h:a ≥ b
  ·simp [h]
  ·simp [h]
def dig (b:UInt8):Bool := decide (48 ≤ b.toNat ∧ b.toNat ≤ 57)
def keyP (s:ByteArray):Bool := decide (2 ≤ s.size ∧ s.size ≤ 3)&&(decide (97 ≤ byteAt s 0 ∧ byteAt s 0 ≤ 122)&&(s.data.toList.drop 1).all dig)
def valP (l:List Int):Bool := decide (1 ≤ l.length ∧ l.length ≤ 3)&&l.all fun n => decide (0 ≤ n ∧ n ≤ 9999)
def wrtP (k:ByteArray) (d:Bool) (l:List Int):Bool := keyP k&&bif d then l.isEmpty else valP l
theorem dig_mem (b:UInt8):[48,49,50,51,52,53,54,55,56,57].contains b = dig b := by
 have h:∀ b:Fin 256,[48,49,50,51,52,53,54,55,56,57].contains (UInt8.ofNat b.val) = dig (UInt8.ofNat b.val) := by decide +kernel
 have := h ⟨b.toNat,b.toNat_lt⟩
 simpa using this
theorem i_keyOk_f (s:ByteArray):g_Ai_keyOk s = true ∧ g_Vi_keyOk_0 s = keyP s := by
 have hb := byte_range s 0
 have hw:IntKind.wrap .i64 (byteAt s 0) = byteAt s 0 := wrap64 (by omega)
 have e1:∀ n:Nat,decide ((2:Int) ≤ (n:Int) ∧ (n:Int) ≤ 3) = decide (2 ≤ n ∧ n ≤ 3) := fun n => decide_eq_decide.2 (by omega)
 constructor
 ·simp only [g_Ai_keyOk,(i_in_f _ _ _).1,(i_in_f _ _ _).2,hw,e1]
  by_cases h:2 ≤ s.size ∧ s.size ≤ 3
  ·have h1:(0:Int) < s.size := by omega
   have h2:(1:Int) ≤ s.size := by omega
   have h3:(s.extract 1 s.size).size ≤ 9223372036854775807 := by rw [ByteArray.size_extract]; omega
   have h4:g_ascii (lit [48,49,50,51,52,53,54,55,56,57]) = true := by decide +kernel
   simp only [h,h1,h2,h3,h4,and_self,decide_true,Bool.true_and,Bool.and_true,Bool.not_true,Bool.false_or,Int.le_refl,Bool.or_true,show (0:Int) ≤ 1 from by decide]
  ·simp [h]
 ·simp only [g_Vi_keyOk_0,(i_in_f _ _ _).2,hw,e1,keyP]
  have e2:(ByteArray.toList (g_trim (s.extract 1 s.size) (lit [48,49,50,51,52,53,54,55,56,57])) == []) = (s.data.toList.drop 1).all dig := by
   rw [ByteArray.toList_eq]
   show ((Lib.trimS (s.extract 1 s.size).data.toList [48,49,50,51,52,53,54,55,56,57]) == []) = _
   have e3:(s.extract 1 s.size).data.toList = s.data.toList.drop 1 := by
    simp only [ByteArray.data_extract,Array.toList_extract,List.extract_eq_take_drop]
    rw [List.take_of_length_le (by rw [List.length_drop,Array.length_toList]; exact Nat.le_refl _)]
   rw [e3,Bool.eq_iff_iff,beq_iff_eq]
   refine (trimS_nil (List.drop 1 s.data.toList) [48,49,50,51,52,53,54,55,56,57]).trans ?_
   simp only [dig_mem]
  rw [e2]
  cases decide (2 ≤ s.size ∧ s.size ≤ 3) <;> cases decide (97 ≤ byteAt s 0 ∧ byteAt s 0 ≤ 122) <;> rfl
theorem s_l1Key_loop (s:ByteArray) (hs:s.size < 1000) (h1:1 ≤ s.size):g_Ls_l1Key_0 s 1 = some (bif (s.data.toList.drop 1).all dig then .inr () else .inl false) := by
 have h := loop_all (step := g_Ss_l1Key_0 s) (fun i:Nat => ((i + 1:Nat):Int)) (fun i => dig ((s.data[i + 1]?).getD 0)) (Sum.inl false) (Sum.inr ()) (s.size - 1) (fun i hi => by
   have h1:((i + 1:Nat):Int) < s.size := by omega
   have h2:(0:Int) ≤ ((i + 1:Nat):Int) := by omega
   have hw:IntKind.wrap .i64 (((i + 1:Nat):Int) + 1) = ((i + 1 + 1:Nat):Int) := by rw [wrap64 (by omega)]; omega
   simp only [g_Ss_l1Key_0,RT.sel,cond_true,h1,h2,hw,decide_true,and_self,Int.toNat_natCast]
   have hb:byteAt s (i + 1) = (((s.data[i + 1]?).getD 0).toNat:Int) := rfl
   simp only [hb]
   generalize (s.data[i + 1]?).getD 0 = b
   unfold dig
   by_cases k1:b.toNat < 48
   ·have k2:¬ 48 ≤ b.toNat := by omega
    have k3:(b.toNat:Int) < 48 := by omega
    simp [k2,k3]
   ·have k2:48 ≤ b.toNat := by omega
    have k3:¬ (b.toNat:Int) < 48 := by omega
    by_cases k4:b.toNat ≤ 57
    ·have k5:¬ (b.toNat:Int) > 57 := by omega
     simp [k2,k3,k4,k5,RT.sel]
    ·have k5:(b.toNat:Int) > 57 := by omega
     simp [k2,k3,k4,k5,RT.sel]) (by
   have hn:((s.size - 1 + 1:Nat):Int) = (s.size:Int) := by omega
   simp only [g_Ss_l1Key_0,RT.sel,hn,cond_true,Int.lt_irrefl,decide_false,cond_false])
 unfold g_Ls_l1Key_0
 refine Eq.trans h ?_
 congr 2
 rw [Bool.eq_iff_iff,List.all_eq_true,List.all_eq_true]
 have hsz:s.size = s.data.toList.length := Array.length_toList.symm
 constructor
 ·intro h x hx
  obtain ⟨i,hi,rfl⟩ := List.getElem_of_mem hx
  have hi':i + 1 < s.data.toList.length := by simp at hi ⊢; omega
  have := h i (List.mem_range.2 (by omega))
  have e:(s.data[i + 1]?).getD 0 = s.data.toList[i + 1] := by rw [Array.getElem?_eq_getElem (by simpa using hi')]; simp
  rw [e] at this
  simpa [Nat.add_comm] using this
 ·intro h i hi
  have hi := List.mem_range.1 hi
  have hi':i + 1 < s.data.toList.length := by omega
  have e:(s.data[i + 1]?).getD 0 = s.data.toList[i + 1] := by rw [Array.getElem?_eq_getElem (by simpa using hi')]; simp
  rw [e]
  refine h _ ?_
  rw [List.mem_iff_getElem]
  exact ⟨i,by simp at hi' ⊢; omega,by simp [Nat.add_comm]⟩
theorem s_l1Key_f (s:ByteArray):g_As_l1Key s = true ∧ g_Vs_l1Key_0 s = keyP s := by
 have e1:∀ n:Nat,decide ((2:Int) ≤ (n:Int) ∧ (n:Int) ≤ 3) = decide (2 ≤ n ∧ n ≤ 3) := fun n => decide_eq_decide.2 (by omega)
 by_cases h:2 ≤ s.size ∧ s.size ≤ 3
 ·have h0:(0:Int) < s.size := by omega
  have hl := s_l1Key_loop s (by omega) (by omega)
  constructor
  ·simp only [g_As_l1Key,(s_l1In_f _ _ _).1,(s_l1In_f _ _ _).2,e1,hl,okO,h,h0,Option.isSome_some,and_self,decide_true,Bool.true_and,Bool.or_true,Int.le_refl]
  ·simp only [g_Vs_l1Key_0,(s_l1In_f _ _ _).2,e1,hl,okO,valO,keyP,Option.getD_some]
   by_cases k1:byteAt s 0 < 97
   ·simp [h,k1,show ¬ (97 ≤ byteAt s 0) by omega]
   ·by_cases k2:byteAt s 0 > 122
    ·simp [h,k1,k2,show ¬ (byteAt s 0 ≤ 122) by omega]
    ·simp only [h,k1,k2,show 97 ≤ byteAt s 0 by omega,show byteAt s 0 ≤ 122 by omega]
     cases (s.data.toList.drop 1).all dig <;> rfl
 ·constructor
  ·simp only [g_As_l1Key,(s_l1In_f _ _ _).1,(s_l1In_f _ _ _).2,e1]
   simp [h]
  ·simp only [g_Vs_l1Key_0,(s_l1In_f _ _ _).2,e1,keyP]
   simp [h]
theorem s_l1Val_loop (l:List Int) (hl:l.length ≤ 1048576):g_Ls_l1Val_0 l 0 = some (bif l.all (fun n => decide (0 ≤ n ∧ n ≤ 9999)) then .inr () else .inl false) := by
 refine loop_list (ρ := Bool ⊕ Unit) (e := .int .i64) l (fun i:Nat => (i:Int)) (fun n => decide (0 ≤ n ∧ n ≤ 9999)) (Sum.inl false) (Sum.inr ()) (fun i hi => ?_) ?_
 ·have h1:(i:Int) < l.length := by omega
  have h2:(0:Int) ≤ (i:Int) := by omega
  have hw:IntKind.wrap .i64 ((i:Int) + 1) = ((i + 1:Nat):Int) := by rw [wrap64 (by omega)]; omega
  simp only [g_Ss_l1Val_0,RT.sel,cond_true,h1,h2,hw,decide_true,and_self,Int.toNat_natCast,(s_l1In_f _ _ _).1,(s_l1In_f _ _ _).2]
  cases decide (0 ≤ at_ (.int .i64) l i ∧ at_ (.int .i64) l i ≤ 9999) <;> rfl
 ·simp [g_Ss_l1Val_0,RT.sel]
theorem s_l1Val_f (l:List Int) (hl:l.length ≤ 1048576):g_As_l1Val l = true ∧ g_Vs_l1Val_0 l = valP l := by
 have hk := s_l1Val_loop l hl
 have e1:decide ((1:Int) ≤ (l.length:Int) ∧ (l.length:Int) ≤ 3) = decide (1 ≤ l.length ∧ l.length ≤ 3) := decide_eq_decide.2 (by omega)
 constructor
 ·simp only [g_As_l1Val,hk,okO,valO,(s_l1In_f _ _ _).1]; simp
 ·simp only [g_Vs_l1Val_0,hk,valO,(s_l1In_f _ _ _).2,e1,valP,Option.getD_some]
  cases l.all (fun n => decide (0 ≤ n ∧ n ≤ 9999)) <;> cases decide (1 ≤ l.length ∧ l.length ≤ 3) <;> rfl
theorem i_valOk_1_f (n:Int):g_Ai_valOk_1 n = true ∧ g_Vi_valOk_1_0 n = !decide (0 ≤ n ∧ n ≤ 9999) := ⟨(i_in_f _ _ _).1,congrArg not (i_in_f _ _ _).2⟩
theorem i_valOk_f (l:List Int) (hl:l.length ≤ 1048576):g_Ai_valOk l = true ∧ g_Vi_valOk_0 l = valP l := by
 obtain ⟨r,h1,h2⟩ := loop_idx (e := .int .i64) l (step := g_Sslices_IndexFunc_int_int__i_valOk_1_0 l (l.length:Int)) (fun n => !decide (0 ≤ n ∧ n ≤ 9999)) (fun i hi => by
  have h1:(i:Int) < l.length := by omega
  have h2:(0:Int) ≤ (i:Int) := by omega
  have hw:IntKind.wrap .i64 ((i:Int) + 1) = ((i + 1:Nat):Int) := by rw [wrap64 (by omega)]; omega
  simp only [g_Sslices_IndexFunc_int_int__i_valOk_1_0,RT.sel,cond_true,h1,h2,hw,decide_true,and_self,Int.toNat_natCast,(i_valOk_1_f _).1,(i_valOk_1_f _).2]) (by simp [g_Sslices_IndexFunc_int_int__i_valOk_1_0,RT.sel])
 have h1:g_Lslices_IndexFunc_int_int__i_valOk_1_0 l (l.length:Int) 0 = some r := h1
 have e1:decide ((1:Int) ≤ (l.length:Int) ∧ (l.length:Int) ≤ 3) = decide (1 ≤ l.length ∧ l.length ≤ 3) := decide_eq_decide.2 (by omega)
 constructor
 ·simp [g_Ai_valOk,(i_in_f _ _ _).1,g_Aslices_ContainsFunc_int_int__i_valOk_1,g_Aslices_IndexFunc_int_int__i_valOk_1,h1,okO]
 ·simp only [g_Vi_valOk_0,(i_in_f _ _ _).2,e1,g_Vslices_ContainsFunc_int_int__i_valOk_1_0,g_Vslices_IndexFunc_int_int__i_valOk_1_0,h1,valO,Option.getD_some,h2,valP]
  rw [show (l.any fun n => !decide (0 ≤ n ∧ n ≤ 9999)) = !(l.all fun n => decide (0 ≤ n ∧ n ≤ 9999)) by rw [List.not_all_eq_any_not],Bool.not_not]
  cases decide (1 ≤ l.length ∧ l.length ≤ 3) <;> rfl
theorem s_WrtOk_f (k:ByteArray) (d:Bool) (l:List Int) (hl:l.length ≤ 1048576):g_As_WrtOk k d l = true ∧ g_Vs_WrtOk_0 k d l = wrtP k d l := by
 constructor
 ·simp [g_As_WrtOk,(s_l1Key_f _).1,(s_l1Val_f _ hl).1]
 ·simp only [g_Vs_WrtOk_0,(s_l1Key_f _).2,(s_l1Val_f _ hl).2,wrtP]
  cases d <;> cases keyP k <;> cases l <;> simp <;> omega
theorem wrapL {x:Int} (h:0 ≤ x ∧ x ≤ 100000):IntKind.wrap .i64 x = x := wrap64 (by omega)
theorem digit_size (n:Int):(g_Vs_l3Digit_0 n).size = 1 := rfl
theorem plain_f (a:Int) (h:0 ≤ a ∧ a ≤ 99):g_As_l3Plain a = true ∧ (g_Vs_l3Plain_0 a).size ≤ 2 := by
 have e0:(lit []).size = 0 := rfl
 have key:∃ r,g_Ls_l3Plain_0 (a,lit []) = some r ∧ r.2.size ≤ 1 := by
  by_cases h9:a > 9
  ·refine ⟨(Int.tdiv a 10,g_Vs_l3Digit_0 (Int.tmod a 10) ++ lit []),?_,?_⟩
   ·have d:Int.tdiv a 10 = a / 10 := Int.tdiv_eq_ediv_of_nonneg h.1
    have s1:(g_Ss_l3Plain_0 (a,lit [])).sel = .go (Int.tdiv a 10,g_Vs_l3Digit_0 (Int.tmod a 10) ++ lit []) := by
     rw [d]
     simp only [g_Ss_l3Plain_0,RT.sel,h9,decide_true,cond_true,digit_size,e0]
     rw [d,wrapL (by omega)]
     rfl
    unfold g_Ls_l3Plain_0
    rw [loopO_eq,s1]
    show loopO _ _ = _
    rw [loopO_eq]
    have s2:(g_Ss_l3Plain_0 (Int.tdiv a 10,g_Vs_l3Digit_0 (Int.tmod a 10) ++ lit [])).sel = .out (Int.tdiv a 10,g_Vs_l3Digit_0 (Int.tmod a 10) ++ lit []) := by
     rw [d]
     simp only [g_Ss_l3Plain_0,RT.sel,cond_true,decide_eq_false (by omega:¬ a / 10 > 9),cond_false]
    rw [s2]
   ·rw [ByteArray.size_append,digit_size,e0]; omega
  ·refine ⟨(a,lit []),?_,by rw [e0]; omega⟩
   unfold g_Ls_l3Plain_0
   rw [loopO_eq]
   have s2:(g_Ss_l3Plain_0 (a,lit [])).sel = .out (a,lit []) := by
    simp only [g_Ss_l3Plain_0,RT.sel,cond_true,decide_eq_false h9,cond_false]
   rw [s2]
 obtain ⟨r,h1,h2⟩ := key
 refine ⟨?_,?_⟩
 ·simp only [g_As_l3Plain,h1,okO,valO,Option.isSome_some,Option.getD_some,digit_size,Bool.true_and]
  exact decide_eq_true (by omega)
 ·simp only [g_Vs_l3Plain_0,h1,valO,Option.getD_some]
  rw [ByteArray.size_append,digit_size]
  omega
theorem loop_inv {σ ρ:Type} {step:σ → RT σ ρ} (I:σ → Prop) (R:ρ → Prop) (μ:σ → Nat) (h:∀ x,I x → (∃ y,(step x).sel = .go y ∧ I y ∧ μ y < μ x) ∨ ∃ r,(step x).sel = .out r ∧ R r):∀ x,I x → ∃ r,loopO step x = some r ∧ R r := by
 have key:∀ n x,μ x ≤ n → I x → ∃ r,loopO step x = some r ∧ R r := by
  intro n
  induction n with
  | zero =>
   intro x hx hI
   rcases h x hI with ⟨y,_,_,h3⟩ | ⟨r,h1,h2⟩
   ·omega
   ·exact ⟨r,by rw [loopO_eq,h1],h2⟩
  | succ n ih =>
   intro x hx hI
   rcases h x hI with ⟨y,h1,h2,h3⟩ | ⟨r,h1,h2⟩
   ·obtain ⟨r,e1,e2⟩ := ih y (by omega) h2
    exact ⟨r,by rw [loopO_eq,h1]; exact e1,e2⟩
   ·exact ⟨r,by rw [loopO_eq,h1],h2⟩
 exact fun x hI => key (μ x) x (Nat.le_refl _) hI
theorem cond_f' (a b:Bool):(bif a then b else false) = (a&&b) := by cases a <;> rfl
theorem wrapS {x:Int} (h:0 ≤ x ∧ x ≤ 100000):IntKind.wrap .i64 (x + 1) = x + 1 := wrap64 (by omega)
theorem pickA_f (r0:List Int) (r1 n:Int) (h:0 ≤ r1 ∧ r1 ≤ 100000) (hn:1 ≤ n) (hl:r0.length ≤ 1048576):g_pickA r0 r1 n = true := by
 have e1:IntKind.wrap .i64 (IntKind.wrap .i64 (r1 + 1) - 1) = r1 := by rw [wrapS h,wrap64 (by omega)]; omega
 have e2:IntKind.wrap .i64 (IntKind.wrap .i64 (r1 * 7) + 3) = r1 * 7 + 3 := by rw [wrap64 (x := r1 * 7) (by omega),wrap64 (by omega)]
 have e3:(n == 0) = false := by simpa using (by omega:n ≠ 0)
 unfold g_pickA
 simp only [g_As_l20Rd_pick0,e1,e2,e3]
 by_cases hz:r0.length = 0
 ·simp [hz]
 ·have hp:(0:Int) < (r0.length:Int) := by omega
  have t1:0 ≤ Int.tmod r1 r0.length := Int.tmod_nonneg _ h.1
  have t2:Int.tmod r1 r0.length < r0.length := Int.tmod_lt_of_pos _ hp
  have t3:0 ≤ Int.tmod (r1 * 7 + 3) r0.length := Int.tmod_nonneg _ (by omega)
  have t4:Int.tmod (r1 * 7 + 3) r0.length < r0.length := Int.tmod_lt_of_pos _ hp
  have z:((r0.length:Int) == 0) = false := by simpa using hz
  by_cases hlt:r1 < (r0.length:Int)
  ·simp [hlt,h.1]
  ·simp only [decide_eq_false hlt,cond_false,z,Bool.not_false,Bool.true_and,t1,t2,t3,t4,and_self,decide_true,Bool.or_true]
theorem oddA_f (r0:List Int) (r1 n:Int) (h:0 ≤ r1 ∧ r1 ≤ 100000) (hl:r0.length ≤ 1048576):g_As_l20Rd_odd r0 r1 n = true := by
 unfold g_As_l20Rd_odd
 by_cases hn:n > 0
 ·rw [pickA_f r0 r1 n h (by omega) hl]; simp
 ·simp [hn]
theorem open_f (a:List Int):g_As_l20Open a = true ∧ (g_Vs_l20Open_0 a).length ≤ 2000 ∧ g_Vs_l20Open_1 a = 0 := by
 refine ⟨?_,?_,?_⟩
 ·unfold g_As_l20Open
  by_cases h:(a.length:Int) > 2000
  ·have:(2000:Int) ≤ a.length := by omega
   simp [h,this]
  ·simp [h]
   cases decide ((2000:Int) ≤ a.length) <;> rfl
 ·unfold g_Vs_l20Open_0
  by_cases h:(a.length:Int) > 2000
  ·rw [decide_eq_true h,cond_true]; exact Nat.le_trans (by rw [List.length_drop]; exact Nat.sub_le _ _) (List.length_take_le 2000 a)
  ·rw [decide_eq_false h,cond_false]; omega
 ·unfold g_Vs_l20Open_1
  generalize decide ((a.length:Int) > 2000) = p
  cases p <;> rfl
def RdOk (r0:List Int):Prop := r0.length ≤ 1048576 ∧ ∀ n ∈ r0,0 ≤ n ∧ n < 256
theorem at_u8 {r0:List Int} (h:RdOk r0) (i:Nat):∃ x:Int,at_ (.int .u8) r0 i = x ∧ 0 ≤ x ∧ x < 256 := by
 by_cases hi:i < r0.length
 ·exact ⟨_,rfl,h.2 _ (at_mem (e := .int .u8) hi)⟩
 ·refine ⟨0,by simp [at_,List.getElem?_eq_none (by omega:r0.length ≤ i),Ty.zero],by omega,by omega⟩
theorem xor_small {x y:Int} (hx:0 ≤ x ∧ x < 16777216) (hy:0 ≤ y ∧ y < 16777216):((BitVec.toNat (BitVec.ofInt 64 x ^^^ BitVec.ofInt 64 y):Nat):Int) < 16777216 := by
 have key:∀ z:Int,0 ≤ z ∧ z < 16777216 → (BitVec.ofInt 64 z).toNat < 2 ^ 24 := by
  intro z hz
  rw [BitVec.toNat_ofInt]
  have:z % ((2 ^ 64:Nat):Int) = z := Int.emod_eq_of_lt hz.1 (by omega)
  rw [this]
  omega
 have := Nat.xor_lt_two_pow (key x hx) (key y hy)
 rw [BitVec.toNat_xor]
 omega
theorem pick_f (r0:List Int) (r1 n:Int) (h:0 ≤ r1 ∧ r1 ≤ 100000) (hn:1 ≤ n) (hr:RdOk r0):0 ≤ g_pick r0 r1 n ∧ g_pick r0 r1 n < n := by
 have e1:IntKind.wrap .i64 (IntKind.wrap .i64 (r1 + 1) - 1) = r1 := by rw [wrapS h,wrap64 (by omega)]; omega
 have e2:IntKind.wrap .i64 (IntKind.wrap .i64 (r1 * 7) + 3) = r1 * 7 + 3 := by rw [wrap64 (x := r1 * 7) (by omega),wrap64 (by omega)]
 have tm:∀ x:Int,0 ≤ x → 0 ≤ Int.tmod x n ∧ Int.tmod x n < n := fun x hx => ⟨Int.tmod_nonneg _ hx,Int.tmod_lt_of_pos _ (by omega)⟩
 unfold g_pick
 simp only [g_Vs_l20Rd_pick0_0,e1,e2]
 rw [decide_eq_false (by omega:¬ n < 1),cond_false]
 by_cases hz:r0.length = 0
 ·rw [show ((r0.length:Int) == 0) = true by simp [hz],cond_true]; omega
 ·have hp:(0:Int) < (r0.length:Int) := by omega
  rw [show ((r0.length:Int) == 0) = false by simpa using hz,cond_false]
  by_cases hlt:r1 < (r0.length:Int)
  ·rw [decide_eq_true hlt,cond_true]
   obtain ⟨x,e,b⟩ := at_u8 hr r1.toNat
   rw [e,wrap64 (by omega)]
   exact tm _ b.1
  ·rw [decide_eq_false hlt,cond_false]
   obtain ⟨x1,y1,b1⟩ := at_u8 hr (Int.tmod r1 r0.length).toNat
   obtain ⟨x2,y2,b2⟩ := at_u8 hr (Int.tmod (r1 * 7 + 3) r0.length).toNat
   have d0:0 ≤ Int.tdiv r1 r0.length := Int.tdiv_nonneg h.1 (by omega)
   have d1:Int.tdiv r1 r0.length ≤ r1 := by
    rw [Int.tdiv_eq_ediv_of_nonneg h.1]
    exact Int.ediv_le_self _ h.1
   rw [y1,y2]
   generalize Int.tdiv r1 r0.length = q at d0 d1 ⊢
   rw [wrap64 (x := x1) (by omega),wrap64 (x := x2) (by omega),wrap64 (x := x1 * 131) (by omega),wrap64 (x := x2 * 1117) (by omega),wrap64 (x := r1 * 29) (by omega),wrap64 (x := q) (by omega),wrap64 (x := q * 53) (by omega),wrap64 (x := x1 * 131 + x2 * 1117) (by omega),wrap64 (x := x1 * 131 + x2 * 1117 + r1 * 29) (by omega),wrap64 (x := x1 * 131 + x2 * 1117 + r1 * 29 + q * 53) (by omega)]
   generalize hX:x1 * 131 + x2 * 1117 + r1 * 29 + q * 53 = X
   have hX0:0 ≤ X ∧ X < 16777216 := by omega
   have hD:0 ≤ Int.tdiv X 64 ∧ Int.tdiv X 64 < 16777216 := by
    rw [Int.tdiv_eq_ediv_of_nonneg hX0.1]
    omega
   rw [wrap64 (x := Int.tdiv X 64) (by omega)]
   have hx := xor_small hX0 hD
   have hx:(((BitVec.ofInt (nat_lit 64) X ^^^ BitVec.ofInt (nat_lit 64) (Int.tdiv X 64)).toNat:Nat):Int) < 16777216 := hx
   generalize (BitVec.ofInt (nat_lit 64) X ^^^ BitVec.ofInt (nat_lit 64) (Int.tdiv X 64)).toNat = Y at hx ⊢
   rw [wrap64 (by omega)]
   exact tm _ (by omega)
theorem open_ok (a:List Int) (h:∀ n ∈ a,(Lit.int .u8 n).wf = true):RdOk (g_Vs_l20Open_0 a) := by
 have hb:∀ n ∈ a,0 ≤ n ∧ n < 256 := by
  intro n hn
  have := h n hn
  simp [Lit.wf,IntKind.min,IntKind.max,IntKind.bits,IntKind.signed] at this
  omega
 refine ⟨by have := (open_f a).2.1; omega,fun n hn => hb n ?_⟩
 unfold g_Vs_l20Open_0 at hn
 generalize decide ((a.length:Int) > 2000) = p at hn
 cases p
 ·exact hn
 ·exact List.mem_of_mem_take (List.mem_of_mem_drop hn)
theorem pickD_f (r0:List Int) (r1 n m:Int) (h:0 ≤ r1 ∧ r1 ≤ 100000) (hn:1 ≤ n ∧ n ≤ m) (hr:RdOk r0):decide (0 ≤ g_pick r0 r1 n ∧ g_pick r0 r1 n < m) = true := by
 have := pick_f r0 r1 n h hn.1 hr
 exact decide_eq_true ⟨this.1,by omega⟩
theorem pickN_f (r0:List Int) (r1 n:Int) (m:Nat) (h:0 ≤ r1 ∧ r1 ≤ 100000) (hn:1 ≤ n ∧ n ≤ m) (hr:RdOk r0):decide ((g_pick r0 r1 n).toNat < m) = true := by
 have := pick_f r0 r1 n h hn.1 hr
 exact decide_eq_true (by omega)
theorem pickA_f' (r0:List Int) (r1 n:Int) (h:0 ≤ r1 ∧ r1 ≤ 100000) (hn:1 ≤ n) (hr:RdOk r0):g_pickA r0 r1 n = true := pickA_f r0 r1 n h hn hr.1
theorem oddA_f' (r0:List Int) (r1 n:Int) (h:0 ≤ r1 ∧ r1 ≤ 100000) (hr:RdOk r0):g_As_l20Rd_odd r0 r1 n = true := oddA_f r0 r1 n h hr.1
def oddD (n:Int):Int := if n > 0 then 1 else 0
theorem oddP_f (r0:List Int) (r1 n:Int) (h:0 ≤ r1 ∧ r1 ≤ 99999):g_Vs_l20Rd_odd_2 r0 r1 n = r1 + oddD n % 2 := by
 unfold g_Vs_l20Rd_odd_2 oddD
 by_cases hn:n > 0
 ·simp only [hn,decide_true,cond_true,if_true]; rw [wrapL (by omega)]; omega
 ·simp only [hn,decide_false,cond_false,if_false]; omega
theorem at_all {e:Ty} {l:List e.den} {P:e.den → Prop} (hl:∀ x ∈ l,P x) {i:Nat} (hi:i < l.length):P (at_ e l i) := hl _ (at_mem hi)
theorem i_WrtOk_f (k:ByteArray) (d:Bool) (l:List Int) (hl:l.length ≤ 1048576):g_Ai_WrtOk k d l = true ∧ g_Vi_WrtOk_0 k d l = wrtP k d l := by
 constructor
 ·simp [g_Ai_WrtOk,(i_keyOk_f _).1,(i_valOk_f _ hl).1]
 ·simp only [g_Vi_WrtOk_0,(i_keyOk_f _).2,(i_valOk_f _ hl).2,wrtP]
  cases d <;> cases keyP k <;> cases l <;> simp <;> omega
theorem jaOk_f:g_Aw_jaOk = true ∧ g_Vw_jaOk_0 = true := by
 unfold g_Aw_jaOk g_Vw_jaOk_0
 obtain ⟨a,b⟩ := i_WrtOk_f (lit [97,49]) false [1] (by decide)
 rw [a,b]
 refine ⟨rfl,?_⟩
 decide +kernel
theorem leq_not:∀ a b:List UInt8,(Go.Op.bytesLess a b || a == b) = !(Go.Op.bytesLess b a)
 | [],[] => rfl
 | [],_ :: _ => rfl
 | _ :: _,[] => rfl
 | a :: x,b :: y => by
  have ih := leq_not x y
  simp only [Go.Op.bytesLess]
  rcases Nat.lt_trichotomy a.toNat b.toNat with h | h | h
  ·have h1:decide (a < b) = true := decide_eq_true (UInt8.lt_iff_toNat_lt.2 h)
   have h2:decide (b < a) = false := decide_eq_false (fun e => by have := UInt8.lt_iff_toNat_lt.1 e; omega)
   have h3:(b == a) = false := by rw [beq_eq_false_iff_ne]; rintro rfl; omega
   simp [h1,h2,h3]
  ·obtain rfl:a = b := UInt8.toNat_inj.1 h
   have h1:decide (a < a) = false := decide_eq_false (fun e => by have := UInt8.lt_iff_toNat_lt.1 e; omega)
   have h2:(a :: x == a :: y) = (x == y) := by simp
   rw [h2,h1]
   simpa using ih
  ·have h1:decide (a < b) = false := decide_eq_false (fun e => by have := UInt8.lt_iff_toNat_lt.1 e; omega)
   have h2:decide (b < a) = true := decide_eq_true (UInt8.lt_iff_toNat_lt.2 h)
   have h3:(a == b) = false := by rw [beq_eq_false_iff_ne]; rintro rfl; omega
   have h4:(a :: x == b :: y) = false := by rw [beq_eq_false_iff_ne]; intro e; injection e with e1 _; subst e1; omega
   rw [h1,h2,h3,h4]
   simp
abbrev TI_:Ty := .pair .str (.sl 3 (.int .i64))
def risesP (l:List (ByteArray×List Int)) (i:Nat):Bool := decide (i = 0) || Op.bytesLess (at_ TI_ l (i - 1)).1.toList (at_ TI_ l i).1.toList
def itemP (l:List (ByteArray×List Int)) (i:Nat):Bool := keyP (at_ TI_ l i).1&&(valP (at_ TI_ l i).2&&risesP l i)
def storeP (l:List (ByteArray×List Int)):Bool := decide (l.length ≤ 40)&&(List.range l.length).all (itemP l)
theorem s_StoOk_loop (l:List (ByteArray×List Int)) (hl:l.length ≤ 1048576) (hit:∀ x ∈ l,x.2.length ≤ 1048576):g_Ls_StoOk_0 l 0 = some (bif (List.range l.length).all (itemP l) then .inr () else .inl false) := by
 refine loop_all (ρ := Bool ⊕ Unit) (step := g_Ss_StoOk_0 l) (fun i:Nat => (i:Int)) (itemP l) (Sum.inl false) (Sum.inr ()) l.length (fun i hi => ?_) ?_
 ·have k1:(i:Int) < l.length := by omega
  have k2:(0:Int) ≤ (i:Int) := by omega
  have hw:IntKind.wrap .i64 ((i:Int) + 1) = ((i + 1:Nat):Int) := by rw [wrap64 (by omega)]; omega
  obtain ⟨q1,q2⟩ := s_l1Val_f (at_ TI_ l i).2 (hit _ (at_mem (e := TI_) hi))
  simp only [g_Ss_StoOk_0,RT.sel,cond_true,k1,k2,hw,decide_true,and_self,Int.toNat_natCast,(s_l1Key_f _).1,(s_l1Key_f _).2,q1,q2,itemP,risesP]
  generalize keyP (at_ TI_ l i).1 = p
  generalize valP (at_ TI_ l i).2 = q
  by_cases h0:i = 0
  ·subst h0
   cases p <;> cases q <;> simp [RT.sel]
  ·have h1:(i:Int) > 0 := by omega
   have h2:IntKind.wrap .i64 ((i:Int) - 1) = ((i - 1:Nat):Int) := by rw [wrap64 (by omega)]; omega
   have h3:(0:Int) ≤ ((i - 1:Nat):Int) ∧ ((i - 1:Nat):Int) < l.length := by omega
   simp only [h1,h2,h3,decide_true,cond_true,and_self,Int.toNat_natCast,RT.sel,h0,decide_false,Bool.false_or]
   generalize Op.bytesLess _ _ = r
   cases p <;> cases q <;> cases r <;> rfl
 ·simp [g_Ss_StoOk_0,RT.sel]
theorem i_StoOk_loop (l:List (ByteArray×List Int)) (hl:l.length ≤ 1048576) (hit:∀ x ∈ l,x.2.length ≤ 1048576):g_Li_StoOk_0 l (l.length:Int) l 0 = some (bif (List.range l.length).all (itemP l) then .inr () else .inl false) := by
 refine loop_all (ρ := Bool ⊕ Unit) (step := g_Si_StoOk_0 l (l.length:Int) l) (fun i:Nat => (i:Int)) (itemP l) (Sum.inl false) (Sum.inr ()) l.length (fun i hi => ?_) ?_
 ·have k1:(i:Int) < l.length := by omega
  have k2:(0:Int) ≤ (i:Int) := by omega
  have hw:IntKind.wrap .i64 ((i:Int) + 1) = ((i + 1:Nat):Int) := by rw [wrap64 (by omega)]; omega
  obtain ⟨q1,q2⟩ := i_valOk_f (at_ TI_ l i).2 (hit _ (at_mem (e := TI_) hi))
  simp only [g_Si_StoOk_0,RT.sel,cond_true,k1,k2,hw,decide_true,and_self,Int.toNat_natCast,(i_keyOk_f _).1,(i_keyOk_f _).2,q1,q2,itemP,risesP,leq_not]
  generalize keyP (at_ TI_ l i).1 = p
  generalize valP (at_ TI_ l i).2 = q
  by_cases h0:i = 0
  ·subst h0
   cases p <;> cases q <;> simp [RT.sel]
  ·have h1:(i:Int) > 0 := by omega
   have h2:IntKind.wrap .i64 ((i:Int) - 1) = ((i - 1:Nat):Int) := by rw [wrap64 (by omega)]; omega
   have h3:(0:Int) ≤ ((i - 1:Nat):Int) ∧ ((i - 1:Nat):Int) < l.length := by omega
   simp only [h1,h2,h3,decide_true,cond_true,and_self,Int.toNat_natCast,RT.sel,h0,decide_false,Bool.false_or]
   generalize Op.bytesLess _ _ = r
   cases p <;> cases q <;> cases r <;> rfl
 ·simp [g_Si_StoOk_0,RT.sel]
theorem s_StoOk_f (l:List (ByteArray×List Int)) (hl:l.length ≤ 1048576) (hit:∀ x ∈ l,x.2.length ≤ 1048576):g_As_StoOk l = true ∧ g_Vs_StoOk_0 l = storeP l := by
 have h := s_StoOk_loop l hl hit
 have e2:decide ((l.length:Int) > 40) = !decide (l.length ≤ 40) := by rw [Bool.eq_iff_iff]; simp; omega
 constructor
 ·simp [g_As_StoOk,h,okO]
 ·simp only [g_Vs_StoOk_0,h,valO,Option.getD_some,e2,storeP]
  cases (List.range l.length).all (itemP l) <;> cases decide (l.length ≤ 40) <;> rfl
theorem i_StoOk_f (l:List (ByteArray×List Int)) (hl:l.length ≤ 1048576) (hit:∀ x ∈ l,x.2.length ≤ 1048576):g_Ai_StoOk l = true ∧ g_Vi_StoOk_0 l = storeP l := by
 have h := i_StoOk_loop l hl hit
 have e2:decide ((l.length:Int) ≤ 40) = decide (l.length ≤ 40) := decide_eq_decide.2 (by omega)
 constructor
 ·simp [g_Ai_StoOk,h,okO]
 ·simp only [g_Vi_StoOk_0,h,valO,Option.getD_some,e2,storeP]
  cases (List.range l.length).all (itemP l) <;> cases decide (l.length ≤ 40) <;> rfl
def placeP (place:Int) (x:ByteArray×List Int):Bool :=
 let c := byteAt x.1 0
 let n := x.2.length
 let who := at_ (.int .i64) x.2 0
 bif decide (place = 1) then decide (c = 115)&&(decide (x.1.size = 2)&&(decide (n = 1)&&decide (who ≤ 9)))
 else bif decide (place = 2) then decide (x.1.size = 2)&&(decide (who ≤ 9)&&((decide (c = 99)&&decide (n = 2)) || (decide (c = 102)&&(decide (n = 3)&&(decide (1 ≤ at_ (.int .i64) x.2 1 ∧ at_ (.int .i64) x.2 1 ≤ 99)&&decide (at_ (.int .i64) x.2 2 ≤ 1))))))
 else bif decide (place = 3) then decide (c = 97)&&decide (n = 1) else false
structure ItemOk (x:ByteArray×List Int):Prop where
 size:2 ≤ x.1.size ∧ x.1.size ≤ 3
 len:1 ≤ x.2.length ∧ x.2.length ≤ 3
 pos:∀ i,i < x.2.length → 0 ≤ at_ (.int .i64) x.2 i
theorem itemOk_of {x:ByteArray×List Int} (h1:keyP x.1 = true) (h2:valP x.2 = true):ItemOk x := by
 simp only [keyP,valP,Bool.and_eq_true,decide_eq_true_eq,List.all_eq_true] at h1 h2
 exact ⟨h1.1,h2.1,fun i hi => (h2.2 _ (at_mem (e := .int .i64) hi)).1⟩
theorem i_itemOk_f (place:Int) (x:ByteArray×List Int) (h:ItemOk x):g_Ai_itemOk place x.1 x.2 = true ∧ g_Vi_itemOk_0 place x.1 x.2 = placeP place x := by
 obtain ⟨k,v⟩ := x
 obtain ⟨hs,hl,hp⟩ := h
 simp only at hs hl hp ⊢
 have k0:(0:Int) < (k.size:Int) := by omega
 have k1:(0:Int) < (v.length:Int) := by omega
 have p0 := hp 0 (by omega)
 have e0:decide ((0:Int) ≤ at_ (.int .i64) v 0 ∧ at_ (.int .i64) v 0 ≤ 9) = decide (at_ (.int .i64) v 0 ≤ 9) := decide_eq_decide.2 ⟨fun h => h.2,fun h => ⟨p0,h⟩⟩
 have es:((k.size:Int) == 2) = decide (k.size = 2) := by rw [Bool.eq_iff_iff]; simp; omega
 have e1:((v.length:Int) == 1) = decide (v.length = 1) := by rw [Bool.eq_iff_iff]; simp; omega
 have e2:((v.length:Int) == 2) = decide (v.length = 2) := by rw [Bool.eq_iff_iff]; simp; omega
 have e3:((v.length:Int) == 3) = decide (v.length = 3) := by rw [Bool.eq_iff_iff]; simp; omega
 have i1:∀ a b:Int,(a == b) = decide (a = b) := fun _ _ => rfl
 constructor
 ·simp only [g_Ai_itemOk,k0,k1,(i_in_f _ _ _).1,(i_in_f _ _ _).2,es,e1,e2,e3,Int.le_refl,decide_true,and_self,Bool.true_and,Bool.or_true,Bool.and_true]
  by_cases h3:v.length = 3
  ·have k2:(1:Int) < (v.length:Int) := by omega
   have k3:(2:Int) < (v.length:Int) := by omega
   simp [k2,k3]
  ·simp [h3]
 ·simp only [g_Vi_itemOk_0,(i_in_f _ _ _).2,es,e0,e1,e2,e3,placeP,i1]
  by_cases p1:place = 1
  ·subst p1
   simp only [decide_true,cond_true]
   generalize decide (byteAt k 0 = 115) = b1
   generalize decide (k.size = 2) = b2
   generalize decide (v.length = 1) = b3
   generalize decide (at_ (.int .i64) v 0 ≤ 9) = b4
   cases b1 <;> cases b2 <;> cases b3 <;> cases b4 <;> rfl
  ·by_cases p2:place = 2
   ·subst p2
    simp only [decide_true,cond_true,show ¬ ((2:Int) = 1) by decide,decide_false,cond_false]
    have c1:byteAt k 0 = 99 → decide (byteAt k 0 = 102) = false := fun h => by rw [h]; rfl
    have c2:v.length = 3 → decide (v.length = 2) = false := fun h => by rw [h]; rfl
    by_cases hc:byteAt k 0 = 99
    ·rw [c1 hc,decide_eq_true hc]
     generalize decide (k.size = 2) = b2
     generalize decide (v.length = 2) = b3
     generalize decide (at_ (.int .i64) v 0 ≤ 9) = b4
     cases b2 <;> cases b3 <;> cases b4 <;> simp
    ·rw [decide_eq_false hc]
     generalize decide (byteAt k 0 = 102) = b1
     by_cases h3:v.length = 3
     ·rw [c2 h3,decide_eq_true h3]
      generalize decide (k.size = 2) = b2
      generalize decide (at_ (.int .i64) v 0 ≤ 9) = b4
      generalize decide (1 ≤ at_ (.int .i64) v 1 ∧ at_ (.int .i64) v 1 ≤ 99) = b5
      generalize decide (at_ (.int .i64) v 2 ≤ 1) = b6
      cases b1 <;> cases b2 <;> cases b4 <;> cases b5 <;> cases b6 <;> rfl
     ·rw [decide_eq_false h3]
      generalize decide (v.length = 2) = b3
      generalize decide (k.size = 2) = b2
      generalize decide (at_ (.int .i64) v 0 ≤ 9) = b4
      cases b1 <;> cases b2 <;> cases b3 <;> cases b4 <;> rfl
   ·simp only [p1,p2,decide_false,cond_false]
    generalize decide (place = 3) = b0
    generalize decide (byteAt k 0 = 97) = b1
    generalize decide (v.length = 1) = b3
    cases b0 <;> cases b1 <;> cases b3 <;> rfl
theorem l3_step (place:Int) (hpl:place = 1 ∨ place = 2 ∨ place = 3) (l:List (ByteArray×List Int)) (hl:l.length ≤ 1048576) (i:Nat) (hi:i < l.length) (h:ItemOk (at_ TI_ l i)) :
  (g_Ss_l3Form_0 place l (i:Int)).sel = bif placeP place (at_ TI_ l i) then .go ((i + 1:Nat):Int) else .out (.inl false) := by
 have k1:(i:Int) < l.length := by omega
 have k2:(0:Int) ≤ (i:Int) := by omega
 have hw:IntKind.wrap .i64 ((i:Int) + 1) = ((i + 1:Nat):Int) := by rw [wrap64 (by omega)]; omega
 have hto:(i:Int).toNat = i := Int.toNat_natCast i
 unfold g_Ss_l3Form_0
 dsimp only
 have hit:itI l (i:Int) = at_ TI_ l i := by
  show at_ TI_ l ((i:Int).toNat) = _
  rw [hto]
 rw [hit]
 obtain ⟨hs,hn,hp⟩ := h
 unfold placeP
 generalize hX:at_ TI_ l i = X at hs hn hp ⊢
 obtain ⟨k,v⟩ := X
 simp only at hs hn hp ⊢
 have a1:(0:Int) < (k.size:Int) := by omega
 have a2:(0:Int) < (v.length:Int) := by omega
 have i1:∀ a b:Int,(a == b) = decide (a = b) := fun _ _ => rfl
 have i2:∀ a b:Int,(a != b) = !decide (a = b) := fun _ _ => rfl
 have es:decide ((k.size:Int) = 2) = decide (k.size = 2) := decide_eq_decide.2 (by omega)
 have e1:decide ((v.length:Int) = 1) = decide (v.length = 1) := decide_eq_decide.2 (by omega)
 have e2:decide ((v.length:Int) = 2) = decide (v.length = 2) := decide_eq_decide.2 (by omega)
 have e3:decide ((v.length:Int) = 3) = decide (v.length = 3) := decide_eq_decide.2 (by omega)
 have hc:byteAt k 0 = 115 ∨ byteAt k 0 = 97 ∨ byteAt k 0 = 99 ∨ byteAt k 0 = 102 ∨ (byteAt k 0 ≠ 115 ∧ byteAt k 0 ≠ 97 ∧ byteAt k 0 ≠ 99 ∧ byteAt k 0 ≠ 102) := by omega
 have hv:v.length = 1 ∨ v.length = 2 ∨ v.length = 3 := by omega
 generalize byteAt k 0 = c at hc ⊢
 generalize at_ (.int .i64) v 0 = w0
 generalize at_ (.int .i64) v 1 = w1
 generalize at_ (.int .i64) v 2 = w2
 rcases hpl with rfl | rfl | rfl
 ·simp only [RT.sel,cond_true,cond_false,k1,k2,hw,a1,a2,decide_true,and_self,Int.le_refl,i1,i2,es,e1,e2,e3,decide_false,Bool.not_true,Bool.not_false,show ¬ ((1:Int) = 2) by decide,show ¬ ((1:Int) = 3) by decide]
  rcases hc with rfl | rfl | rfl | rfl | ⟨c1,c2,c3,c4⟩
  all_goals simp only [*,RT.sel,cond_true,cond_false,decide_true,decide_false,Bool.not_true,Bool.not_false,Bool.false_and,Bool.true_and,show ¬ ((97:Int) = 115) by decide,show ¬ ((99:Int) = 115) by decide,show ¬ ((102:Int) = 115) by decide,show ¬ ((115:Int) = 97) by decide,show ¬ ((99:Int) = 97) by decide,show ¬ ((102:Int) = 97) by decide]
  all_goals (generalize decide (k.size = 2) = b2; generalize decide (v.length = 1) = b3; generalize decide (w0 ≤ 9) = b4; cases b2 <;> cases b3 <;> cases b4 <;> rfl)
 ·have hv':v.length = 1 ∨ v.length = 2 ∨ v.length = 3 := hv
  simp only [RT.sel,cond_true,cond_false,k1,k2,hw,a1,a2,decide_true,and_self,Int.le_refl,i1,i2,es,e1,e2,e3,decide_false,Bool.not_true,Bool.not_false,show ¬ ((2:Int) = 1) by decide,show ¬ ((2:Int) = 3) by decide,(s_l1In_f _ _ _).1,(s_l1In_f _ _ _).2,Bool.false_and,Bool.true_and]
  have x1:v.length = 1 → decide ((0:Int) ≤ 1 ∧ (1:Int) < (v.length:Int)) = false ∧ decide (v.length = 2) = false ∧ decide (v.length = 3) = false := fun h => by rw [h]; exact ⟨rfl,rfl,rfl⟩
  have x2:v.length = 2 → decide (v.length = 2) = true ∧ decide (v.length = 3) = false := fun h => by rw [h]; exact ⟨rfl,rfl⟩
  have x3:v.length = 3 → decide ((0:Int) ≤ 1 ∧ (1:Int) < (v.length:Int)) = true ∧ decide ((0:Int) ≤ 2 ∧ (2:Int) < (v.length:Int)) = true ∧ decide (v.length = 2) = false ∧ decide (v.length = 3) = true := fun h => by rw [h]; exact ⟨rfl,rfl,rfl,rfl⟩
  rcases hc with rfl | rfl | rfl | rfl | ⟨c1,c2,c3,c4⟩
  all_goals simp only [*,RT.sel,cond_true,cond_false,decide_true,decide_false,Bool.not_true,Bool.not_false,Bool.false_and,Bool.true_and,Bool.or_false,Bool.false_or,Bool.and_false,show ¬ ((97:Int) = 99) by decide,show ¬ ((97:Int) = 102) by decide,show ¬ ((99:Int) = 102) by decide,show ¬ ((102:Int) = 99) by decide,show ¬ ((115:Int) = 99) by decide,show ¬ ((115:Int) = 102) by decide,show ¬ ((115:Int) = 97) by decide,show ¬ ((99:Int) = 97) by decide,show ¬ ((102:Int) = 97) by decide]
  all_goals (
   rcases hv' with hn1 | hn1 | hn1
   ·have y := x1 hn1
    try simp only [y.1,y.2.1,y.2.2,RT.sel,cond_true,cond_false,Bool.false_and,Bool.and_false,Bool.or_false,Bool.false_or]
    generalize decide (k.size = 2) = b2; generalize decide (w0 ≤ 9) = b4; generalize decide (1 ≤ w1 ∧ w1 ≤ 99) = b5; generalize decide (w2 ≤ 1) = b6; cases b2 <;> cases b4 <;> cases b5 <;> cases b6 <;> rfl
   ·have y := x2 hn1
    try simp only [y.1,y.2,RT.sel,cond_true,cond_false,Bool.true_and,Bool.false_and,Bool.and_false,Bool.or_false,Bool.false_or]
    generalize decide (k.size = 2) = b2; generalize decide (w0 ≤ 9) = b4; generalize decide (1 ≤ w1 ∧ w1 ≤ 99) = b5; generalize decide (w2 ≤ 1) = b6; cases b2 <;> cases b4 <;> cases b5 <;> cases b6 <;> rfl
   ·have y := x3 hn1
    try simp only [y.1,y.2.1,y.2.2.1,y.2.2.2,RT.sel,cond_true,cond_false,Bool.true_and,Bool.false_and,Bool.and_false,Bool.or_false,Bool.false_or]
    generalize decide (k.size = 2) = b2; generalize decide (w0 ≤ 9) = b4; generalize decide (1 ≤ w1 ∧ w1 ≤ 99) = b5; generalize decide (w2 ≤ 1) = b6; cases b2 <;> cases b4 <;> cases b5 <;> cases b6 <;> rfl)
 ·simp only [RT.sel,cond_true,cond_false,k1,k2,hw,a1,a2,decide_true,and_self,Int.le_refl,i1,i2,es,e1,e2,e3,decide_false,Bool.not_true,Bool.not_false,show ¬ ((3:Int) = 1) by decide,show ¬ ((3:Int) = 2) by decide]
  rcases hc with rfl | rfl | rfl | rfl | ⟨c1,c2,c3,c4⟩
  all_goals simp only [*,RT.sel,cond_true,cond_false,decide_true,decide_false,Bool.not_true,Bool.not_false,Bool.false_and,Bool.true_and,show ¬ ((115:Int) = 97) by decide,show ¬ ((99:Int) = 97) by decide,show ¬ ((102:Int) = 97) by decide]
  all_goals (generalize decide (v.length = 1) = b3; generalize decide (k.size = 2) = b2; cases b2 <;> cases b3 <;> rfl)
def plcP (place:Int) (l:List (ByteArray×List Int)):Bool := decide (1 ≤ place ∧ place ≤ 3)&&(storeP l&&l.all (placeP place))
theorem storeP_item {l:List (ByteArray×List Int)} (h:storeP l = true):∀ x ∈ l,ItemOk x := by
 intro x hx
 simp only [storeP,Bool.and_eq_true,List.all_eq_true,itemP] at h
 obtain ⟨i,hi,rfl⟩ := List.getElem_of_mem hx
 have := h.2 i (List.mem_range.2 hi)
 rw [at_eq (e := TI_) hi] at this
 exact itemOk_of this.1 this.2.1
theorem storeP_len {l:List (ByteArray×List Int)} (h:storeP l = true):l.length ≤ 40 := by
 simp only [storeP,Bool.and_eq_true,decide_eq_true_eq] at h
 exact h.1
theorem l3Form_f (place:Int) (hpl:place = 1 ∨ place = 2 ∨ place = 3) (l:List (ByteArray×List Int)) (hl:l.length ≤ 1048576) (hit:∀ x ∈ l,ItemOk x):g_As_l3Form place l = true ∧ g_Vs_l3Form_0 place l = l.all (placeP place) := by
 have h:g_Ls_l3Form_0 place l 0 = some (bif l.all (placeP place) then .inr () else .inl false) :=
  loop_list (ρ := Bool ⊕ Unit) (e := TI_) l (step := g_Ss_l3Form_0 place l) (fun i:Nat => (i:Int)) (placeP place) (Sum.inl false) (Sum.inr ()) (fun i hi => l3_step place hpl l hl i hi (hit _ (at_mem (e := TI_) hi))) (by
   unfold g_Ss_l3Form_0
   dsimp only
   rw [show decide ((l.length:Int) < (l.length:Int)) = false by simp]
   rfl)
 constructor
 ·simp [g_As_l3Form,h,okO]
 ·simp only [g_Vs_l3Form_0,h,valO,Option.getD_some]
  cases l.all (placeP place) <;> rfl
theorem place_cases {place:Int} (h:1 ≤ place ∧ place ≤ 3):place = 1 ∨ place = 2 ∨ place = 3 := by omega
theorem s_PlcOk_f (place:Int) (l:List (ByteArray×List Int)) (hl:l.length ≤ 1048576) (hit:∀ x ∈ l,x.2.length ≤ 1048576):g_As_PlcOk place l = true ∧ g_Vs_PlcOk_0 place l = plcP place l := by
 obtain ⟨a1,a2⟩ := s_StoOk_f l hl hit
 by_cases hp:1 ≤ place ∧ place ≤ 3
 ·by_cases hs:storeP l = true
  ·obtain ⟨b1,b2⟩ := l3Form_f place (place_cases hp) l hl (storeP_item hs)
   simp [g_As_PlcOk,g_Vs_PlcOk_0,(s_l1In_f _ _ _).1,(s_l1In_f _ _ _).2,a1,a2,b1,b2,hp,hs,plcP]
  ·simp [g_As_PlcOk,g_Vs_PlcOk_0,(s_l1In_f _ _ _).1,(s_l1In_f _ _ _).2,a1,a2,hp,hs,plcP]
 ·simp [g_As_PlcOk,g_Vs_PlcOk_0,(s_l1In_f _ _ _).1,(s_l1In_f _ _ _).2,hp,plcP]
theorem anyItem_f (place:Int) (l:List (ByteArray×List Int)) (hl:l.length ≤ 1048576) (hit:∀ x ∈ l,ItemOk x):g_Aslices_ContainsFunc_i_StoItem_i_StoItem__i_PlcOk_1 l place = true ∧ g_Vslices_ContainsFunc_i_StoItem_i_StoItem__i_PlcOk_1_0 l place = !l.all (placeP place) := by
 obtain ⟨r,h1,h2⟩ := loop_idx (e := TI_) l (step := g_Sslices_IndexFunc_i_StoItem_i_StoItem__i_PlcOk_1_0 l place (l.length:Int)) (fun x => !placeP place x) (fun i hi => by
  have h1:(i:Int) < l.length := by omega
  have h2:(0:Int) ≤ (i:Int) := by omega
  have hw:IntKind.wrap .i64 ((i:Int) + 1) = ((i + 1:Nat):Int) := by rw [wrap64 (by omega)]; omega
  obtain ⟨q1,q2⟩ := i_itemOk_f place _ (hit _ (at_mem (e := TI_) hi))
  simp only [g_Sslices_IndexFunc_i_StoItem_i_StoItem__i_PlcOk_1_0,RT.sel,cond_true,h1,h2,hw,decide_true,and_self,Int.toNat_natCast,g_Ai_PlcOk_1,q1,q2]) (by simp [g_Sslices_IndexFunc_i_StoItem_i_StoItem__i_PlcOk_1_0,RT.sel])
 have h1:g_Lslices_IndexFunc_i_StoItem_i_StoItem__i_PlcOk_1_0 l place (l.length:Int) 0 = some r := h1
 constructor
 ·simp [g_Aslices_ContainsFunc_i_StoItem_i_StoItem__i_PlcOk_1,g_Aslices_IndexFunc_i_StoItem_i_StoItem__i_PlcOk_1,h1,okO]
 ·simp only [g_Vslices_ContainsFunc_i_StoItem_i_StoItem__i_PlcOk_1_0,g_Vslices_IndexFunc_i_StoItem_i_StoItem__i_PlcOk_1_0,h1,valO,Option.getD_some,h2,List.not_all_eq_any_not]
theorem i_PlcOk_f (place:Int) (l:List (ByteArray×List Int)) (hl:l.length ≤ 1048576) (hit:∀ x ∈ l,x.2.length ≤ 1048576):g_Ai_PlcOk place l = true ∧ g_Vi_PlcOk_0 place l = plcP place l := by
 obtain ⟨a1,a2⟩ := i_StoOk_f l hl hit
 by_cases hp:1 ≤ place ∧ place ≤ 3
 ·by_cases hs:storeP l = true
  ·obtain ⟨b1,b2⟩ := anyItem_f place l hl (storeP_item hs)
   simp [g_Ai_PlcOk,g_Vi_PlcOk_0,g_Ai_isService,g_Vi_isService_0,(i_in_f _ _ _).1,(i_in_f _ _ _).2,a1,a2,b1,b2,hp,hs,plcP]
  ·simp [g_Ai_PlcOk,g_Vi_PlcOk_0,g_Ai_isService,g_Vi_isService_0,(i_in_f _ _ _).1,(i_in_f _ _ _).2,a1,a2,hp,hs,plcP]
 ·simp [g_Ai_PlcOk,g_Vi_PlcOk_0,g_Ai_isService,g_Vi_isService_0,(i_in_f _ _ _).1,(i_in_f _ _ _).2,hp,plcP]
theorem less_irrefl:∀ a:List UInt8,Op.bytesLess a a = false
 | [] => rfl
 | x :: a => by simp [Op.bytesLess,less_irrefl a]
theorem less_trans:∀ a b c:List UInt8,Op.bytesLess a b = true → Op.bytesLess b c = true → Op.bytesLess a c = true
 | [],[],_,h,_ => by simp [Op.bytesLess] at h
 | [],_ :: _,[],_,h => by simp [Op.bytesLess] at h
 | [],_ :: _,_ :: _,_,_ => rfl
 | _ :: _,[],_,h,_ => by simp [Op.bytesLess] at h
 | _ :: _,_ :: _,[],_,h => by simp [Op.bytesLess] at h
 | x :: a,y :: b,z :: c,h1,h2 => by
  simp only [Op.bytesLess] at h1 h2 ⊢
  have t := less_trans a b c
  simp only [Bool.or_eq_true,Bool.and_eq_true,decide_eq_true_eq,beq_iff_eq] at h1 h2 ⊢
  simp only [UInt8.lt_iff_toNat_lt] at h1 h2 ⊢
  rcases h1 with h1 | ⟨rfl,h1⟩
  ·rcases h2 with h2 | ⟨rfl,h2⟩
   ·left; omega
   ·left; exact h1
  ·rcases h2 with h2 | ⟨rfl,h2⟩
   ·left; exact h2
   ·right; exact ⟨rfl,t h1 h2⟩
theorem compare_lt:∀ a b:List UInt8,decide (Lib.compareBytes a b < 0) = Op.bytesLess a b
 | [],[] => rfl
 | [],_ :: _ => rfl
 | _ :: _,[] => rfl
 | x :: a,y :: b => by
  simp only [Lib.compareBytes,Op.bytesLess]
  by_cases h:x < y
  ·simp [h]
  ·by_cases h2:y < x
   ·have:x ≠ y := fun e => by subst e; exact h h2
    simp [h,h2,this]
   ·have:x = y := by
     apply UInt8.toNat_inj.1
     rw [UInt8.lt_iff_toNat_lt] at h h2
     omega
    subst this
    simp [h,compare_lt a b]
theorem compare_eq:∀ a b:List UInt8,(Lib.compareBytes a b == 0) = (a == b)
 | [],[] => rfl
 | [],_ :: _ => rfl
 | _ :: _,[] => rfl
 | x :: a,y :: b => by
  simp only [Lib.compareBytes]
  by_cases h:x < y
  ·have:x ≠ y := fun e => by subst e; rw [UInt8.lt_iff_toNat_lt] at h; omega
   simp [h,this]
  ·by_cases h2:y < x
   ·have:x ≠ y := fun e => by subst e; exact h h2
    simp [h,h2,this]
   ·have:x = y := by
     apply UInt8.toNat_inj.1
     rw [UInt8.lt_iff_toNat_lt] at h h2
     omega
    subst this
    have := compare_eq a b
    simp [h]
    simpa using this
theorem rises_lt {l:List (ByteArray×List Int)} (h:storeP l = true):∀ (d i:Nat),i + (d + 1) < l.length → Op.bytesLess (at_ TI_ l i).1.toList (at_ TI_ l (i + (d + 1))).1.toList = true := by
 simp only [storeP,Bool.and_eq_true,List.all_eq_true,itemP] at h
 have one:∀ i,i + 1 < l.length → Op.bytesLess (at_ TI_ l i).1.toList (at_ TI_ l (i + 1)).1.toList = true := by
  intro i hi
  have := (h.2 (i + 1) (List.mem_range.2 hi)).2.2
  simpa [risesP] using this
 intro d
 induction d with
 | zero => intro i hi; exact one i hi
 | succ d ih =>
  intro i hi
  exact less_trans _ _ _ (ih i (by omega)) (one (i + (d + 1)) (by omega))
def posP (l:List (ByteArray×List Int)) (key:ByteArray):Nat := (l.takeWhile fun x => Op.bytesLess x.1.toList key.toList).length
theorem pos_le (l:List (ByteArray×List Int)) (key:ByteArray):posP l key ≤ l.length := (List.takeWhile_sublist _).length_le
theorem pos_lt {l:List (ByteArray×List Int)} (h:storeP l = true) (key:ByteArray) (i:Nat) (hi:i < l.length):Op.bytesLess (at_ TI_ l i).1.toList key.toList = decide (i < posP l key) := by
 have h1:∀ (l:List (ByteArray×List Int)) (i:Nat),i < posP l key → ∃ h:i < l.length,Op.bytesLess (l[i]'h).1.toList key.toList = true := by
  intro l
  induction l with
  | nil => intro i hi; simp [posP] at hi
  | cons x l ih =>
   intro i hi
   unfold posP at hi
   by_cases hx:Op.bytesLess x.1.toList key.toList = true
   ·rw [List.takeWhile_cons_of_pos (p := fun x:ByteArray×List Int => Op.bytesLess x.1.toList key.toList) hx] at hi
    cases i with
    | zero => exact ⟨by simp,hx⟩
    | succ i =>
     obtain ⟨a,b⟩ := ih i (by unfold posP; simpa using hi)
     exact ⟨by simp; omega,by simpa using b⟩
   ·rw [List.takeWhile_cons_of_neg (p := fun x:ByteArray×List Int => Op.bytesLess x.1.toList key.toList) hx] at hi
    simp at hi
 have h2:∀ (l:List (ByteArray×List Int)) (h:posP l key < l.length),Op.bytesLess (l[posP l key]'h).1.toList key.toList = false := by
  intro l
  induction l with
  | nil => intro h; simp at h
  | cons x l ih =>
   intro h
   by_cases hx:Op.bytesLess x.1.toList key.toList = true
   ·have e:posP (x :: l) key = posP l key + 1 := by unfold posP; rw [List.takeWhile_cons_of_pos (p := fun x:ByteArray×List Int => Op.bytesLess x.1.toList key.toList) hx]; rfl
    have := ih (by rw [e] at h; simpa using h)
    simp only [e,List.getElem_cons_succ]
    exact this
   ·have e:posP (x :: l) key = 0 := by unfold posP; rw [List.takeWhile_cons_of_neg (p := fun x:ByteArray×List Int => Op.bytesLess x.1.toList key.toList) hx]; rfl
    simp only [e,List.getElem_cons_zero]
    simpa using hx
 by_cases hp:i < posP l key
 ·obtain ⟨a,b⟩ := h1 l i hp
  rw [at_eq (e := TI_) hi,decide_eq_true hp]
  exact b
 ·rw [decide_eq_false hp]
  have hp2:posP l key < l.length := by omega
  have hb := h2 l hp2
  cases hl:Op.bytesLess (at_ TI_ l i).1.toList key.toList with
  | false => rfl
  | true =>
   exfalso
   by_cases e:i = posP l key
   ·subst e
    rw [at_eq (e := TI_) hi] at hl
    rw [hl] at hb
    cases hb
   ·have hr := rises_lt h (i - posP l key - 1) (posP l key) (by omega)
    rw [show posP l key + (i - posP l key - 1 + 1) = i by omega] at hr
    have := less_trans _ _ _ hr hl
    rw [at_eq (e := TI_) hp2] at this
    rw [this] at hb
    cases hb
def getP (l:List (ByteArray×List Int)) (key:ByteArray):Option (List Int) := (l.find? fun x => x.1.toList == key.toList).map (·.2)
theorem pos_of {l:List (ByteArray×List Int)} (h:storeP l = true) {key:ByteArray} {i:Nat} (hi:i < l.length) (he:(at_ TI_ l i).1.toList = key.toList):i = posP l key := by
 have h1 := pos_lt h key i hi
 rw [he,less_irrefl] at h1
 have h1:¬ i < posP l key := by simpa using h1.symm
 by_cases e:i = posP l key
 ·exact e
 ·exfalso
  have hp2:posP l key < l.length := by omega
  have hr := rises_lt h (i - posP l key - 1) (posP l key) (by omega)
  rw [show posP l key + (i - posP l key - 1 + 1) = i by omega,he] at hr
  have := pos_lt h key (posP l key) hp2
  rw [hr] at this
  simp at this
theorem get_pos {l:List (ByteArray×List Int)} (h:storeP l = true) (key:ByteArray):getP l key = if posP l key < l.length ∧ (at_ TI_ l (posP l key)).1.toList = key.toList then some (at_ TI_ l (posP l key)).2 else none := by
 unfold getP
 split
 ·rename_i hp
  have:l.find? (fun x => x.1.toList == key.toList) = some (at_ TI_ l (posP l key)) := by
   rw [List.find?_eq_some_iff_getElem]
   refine ⟨by simpa using hp.2,posP l key,hp.1,(at_eq (e := TI_) hp.1).symm,fun j hj => ?_⟩
   have hjl:j < l.length := by omega
   simp only [Bool.not_eq_true',beq_eq_false_iff_ne]
   intro e
   have := pos_of (key := key) h hjl (by rw [at_eq (e := TI_) hjl]; exact e)
   omega
  rw [this]
  rfl
 ·rename_i hp
  have:l.find? (fun x => x.1.toList == key.toList) = none := by
   rw [List.find?_eq_none]
   intro x hx e
   obtain ⟨i,hi,rfl⟩ := List.getElem_of_mem hx
   have e:l[i].1.toList = key.toList := by simpa using e
   have hi2 := pos_of h (key := key) hi (by rw [at_eq (e := TI_) hi]; exact e)
   apply hp
   rw [← hi2]
   exact ⟨hi,by rw [at_eq (e := TI_) hi]; exact e⟩
  rw [this]
  rfl
theorem capE_f (a b k:Nat) (h:a + b ≤ 1100000) (hk:k ≤ 1000):decide ((a + b) * k ≤ nat_lit 140737488355328 ∧ a + b ≤ nat_lit 9223372036854775807) = true := by
 refine decide_eq_true ⟨Nat.le_trans (Nat.mul_le_mul h hk) (by decide),by show a + b ≤ 9223372036854775807; omega⟩
theorem l1Copy_f (l:List (ByteArray×List Int)) (hl:l.length ≤ 1048576) (hit:∀ x ∈ l,x.2.length ≤ 1048576):g_As_l1Copy l = true ∧ g_Vs_l1Copy_0 l = l := by
 have L:g_Ls_l1Copy_0 l [] (0,[]) = some l := by
  obtain ⟨r,h1,h2⟩ := loop_inv (step := g_Ss_l1Copy_0 l []) (fun x => 0 ≤ x.1 ∧ x.1.toNat ≤ l.length ∧ x.2 = l.take x.1.toNat) (fun r => r = l) (fun x => l.length - x.1.toNat) (fun x hx => by
   obtain ⟨k,y⟩ := x
   obtain ⟨i1,i2,i3⟩ := hx
   simp only at i1 i2 i3
   by_cases hk:k < (l.length:Int)
   ·have hn:k.toNat < l.length := by omega
    have hy:y.length = k.toNat := by rw [i3,List.length_take]; omega
    have hv := hit _ (List.getElem_mem hn)
    refine .inl ⟨(k + 1,y ++ [l[k.toNat]]),?_,⟨by simp only; omega,by simp only; omega,?_⟩,by simp only; omega⟩
    ·simp only [g_Ss_l1Copy_0,RT.sel,hk,i1,and_self,decide_true,cond_true,at_eq (e := .pair .str (.sl 3 (.int .i64))) hn]
     rw [capE_f _ _ _ (by omega) (by decide),cond_true,capE_f _ _ _ (by simp only [List.length_cons,List.length_nil]; omega) (by decide),cond_true,wrap64 (by omega)]
     rfl
    ·simp only
     rw [i3,show (k + 1).toNat = k.toNat + 1 by omega,List.take_succ_eq_append_getElem hn]
   ·refine .inr ⟨y,?_,by rw [i3,List.take_of_length_le (by omega)]⟩
    simp only [g_Ss_l1Copy_0,RT.sel,hk,decide_false,cond_true,cond_false]) (0,[]) ⟨by simp,by simp,by simp⟩
  rw [h2] at h1
  exact h1
 unfold g_As_l1Copy g_Vs_l1Copy_0
 rw [L]
 exact ⟨rfl,rfl⟩
def wr (k:ByteArray) (d:Bool) (v:List Int):Bool → List (ByteArray×List Int) → List (ByteArray×List Int)×Bool
 | done,[] => ([],done)
 | done,it :: r =>
  let ins := !done&&Op.bytesLess k.toList it.1.toList
  let pre := bif ins then [(k,v)] else []
  bif it.1.toList == k.toList then
   bif !d then (pre ++ (k,v) :: (wr k d v true r).1,(wr k d v true r).2)
   else (pre ++ (wr k d v (done || ins) r).1,(wr k d v (done || ins) r).2)
  else (pre ++ it :: (wr k d v (done || ins) r).1,(wr k d v (done || ins) r).2)
def writeS (l:List (ByteArray×List Int)) (k:ByteArray) (d:Bool) (v:List Int):List (ByteArray×List Int) := bif (wr k d v d l).2 then (wr k d v d l).1 else (wr k d v d l).1 ++ [(k,v)]
theorem wr_len (k:ByteArray) (d:Bool) (v:List Int):∀ (l:List (ByteArray×List Int)) (done:Bool),(wr k d v done l).1.length ≤ 2 * l.length
 | [],_ => by simp [wr]
 | it :: r,done => by
  have h1 := wr_len k d v r true
  have h2 := wr_len k d v r
  simp only [wr]
  generalize (!done&&Op.bytesLess k.toList it.1.toList) = ins
  have h2 := h2 (done || ins)
  generalize (done || ins) = dn at h2 ⊢
  cases (it.1.toList == k.toList) <;> cases d <;> cases ins <;> simp only [cond_true,cond_false,Bool.not_true,Bool.not_false,List.nil_append,List.cons_append,List.length_cons] <;> omega
theorem wr_val (k:ByteArray) (d:Bool) (v:List Int) (B:Nat) (hv:v.length ≤ B):∀ (l:List (ByteArray×List Int)) (done:Bool),(∀ x ∈ l,x.2.length ≤ B) → ∀ x ∈ (wr k d v done l).1,x.2.length ≤ B
 | [],_,_ => by simp [wr]
 | it :: r,done,h => by
  have h0 := h it List.mem_cons_self
  have h1 := wr_val k d v B hv r true (fun x hx => h x (List.mem_cons_of_mem _ hx))
  have h2 := fun dn => wr_val k d v B hv r dn (fun x hx => h x (List.mem_cons_of_mem _ hx))
  simp only [wr]
  generalize (!done&&Op.bytesLess k.toList it.1.toList) = ins
  have h2 := h2 (done || ins)
  generalize (done || ins) = dn at h2 ⊢
  intro x hx
  cases hq:(it.1.toList == k.toList) <;> cases d <;> cases ins <;> simp only [hq,cond_true,cond_false,Bool.not_true,Bool.not_false,List.nil_append,List.cons_append,List.mem_cons] at hx <;> (try rcases hx with rfl | hx) <;> (try rcases hx with rfl | hx) <;> first | exact hv | exact h0 | exact h1 _ hx | exact h2 _ hx
theorem l1Write_f (l:List (ByteArray×List Int)) (k:ByteArray) (d:Bool) (v:List Int) (hl:l.length ≤ 100000) (hv:v.length ≤ 1048576):g_As_l1Write l k d v = true ∧ g_Vs_l1Write_0 l k d v = writeS l k d v := by
 have L:g_Ls_l1Write_0 l k d v [] (d,0,[]) = some ((wr k d v d l).2,(wr k d v d l).1) := by
  obtain ⟨r,h1,h2⟩ := loop_inv (step := g_Ss_l1Write_0 l k d v []) (fun x => 0 ≤ x.2.1 ∧ x.2.1.toNat ≤ l.length ∧ x.2.2.length ≤ 2 * x.2.1.toNat ∧ x.2.2 ++ (wr k d v x.1 (l.drop x.2.1.toNat)).1 = (wr k d v d l).1 ∧ (wr k d v x.1 (l.drop x.2.1.toNat)).2 = (wr k d v d l).2) (fun r => r = ((wr k d v d l).2,(wr k d v d l).1)) (fun x => l.length - x.2.1.toNat) (fun x hx => by
   obtain ⟨done,i,y⟩ := x
   obtain ⟨i1,i2,i3,i4,i5⟩ := hx
   simp only at i1 i2 i3 i4 i5
   by_cases hk:i < (l.length:Int)
   ·have hn:i.toNat < l.length := by omega
    rw [List.drop_eq_getElem_cons hn] at i4 i5
    have e1:(i + 1).toNat = i.toNat + 1 := by omega
    have c1:decide ((nat_lit 0 + List.length v) * nat_lit 8 ≤ nat_lit 140737488355328 ∧ nat_lit 0 + List.length v ≤ nat_lit 9223372036854775807) = true := capE_f _ _ _ (by show 0 + _ ≤ _; omega) (by decide)
    have c2:∀ a b:List (ByteArray×List Int),a.length ≤ 200002 → b.length = 1 → decide ((List.length a + List.length b) * nat_lit 40 ≤ nat_lit 140737488355328 ∧ List.length a + List.length b ≤ nat_lit 9223372036854775807) = true := fun a b ha hb => capE_f _ _ _ (by omega) (by decide)
    refine .inl ?_
    generalize hq:(l[i.toNat].1.toList == k.toList) = q at i4 i5
    generalize hb:Op.bytesLess k.toList l[i.toNat].1.toList = b at i4 i5
    have sel:∃ done' new,(g_Ss_l1Write_0 l k d v [] (done,i,y)).sel = .go (done',i + 1,y ++ new) ∧ new.length ≤ 2 ∧ wr k d v done (l[i.toNat] :: l.drop (i.toNat + 1)) = (new ++ (wr k d v done' (l.drop (i.toNat + 1))).1,(wr k d v done' (l.drop (i.toNat + 1))).2) := by
     refine ⟨done || b || (q&&!d),(bif !done&&b then [(k,v)] else []) ++ (bif q then (bif d then [] else [(k,v)]) else [l[i.toNat]]),?_,?_,?_⟩
     ·simp only [g_Ss_l1Write_0,RT.sel,hk,i1,and_self,decide_true,cond_true,at_eq (e := .pair .str (.sl 3 (.int .i64))) hn,hq,hb,c1,wrap64 (x := i + 1) (by omega)]
      cases done <;> cases b <;> cases q <;> cases d <;> simp only [Bool.not_true,Bool.not_false,cond_true,cond_false,Bool.or_true,Bool.or_false,Bool.true_or,Bool.and_true,Bool.and_false,Bool.false_and,Bool.true_and,List.nil_append,List.append_nil,List.append_assoc,List.cons_append,RT.sel] <;> (try rw [c2 _ _ (by (try simp only [List.length_append,List.length_cons,List.length_nil]); omega) (by simp)]) <;> (try simp only [cond_true,RT.sel,List.append_assoc,List.cons_append,List.nil_append]) <;> (try rw [c2 _ _ (by (try simp only [List.length_append,List.length_cons,List.length_nil]); omega) (by simp)]) <;> (try simp only [cond_true,RT.sel,List.append_assoc,List.cons_append,List.nil_append])
     ·cases done <;> cases b <;> cases q <;> cases d <;> simp
     ·simp only [wr,hq,hb]
      cases done <;> cases b <;> cases q <;> cases d <;> simp
    obtain ⟨done',new,s1,s2,s3⟩ := sel
    rw [s3] at i4 i5
    refine ⟨_,s1,⟨by simp only; omega,by simp only; omega,by simp only [List.length_append]; omega,?_,?_⟩,by simp only; omega⟩
    ·simp only [e1]
     rw [List.append_assoc]
     exact i4
    ·simp only [e1]
     exact i5
   ·refine .inr ⟨(done,y),?_,?_⟩
    ·simp only [g_Ss_l1Write_0,RT.sel,hk,decide_false,cond_true,cond_false]
    ·rw [List.drop_of_length_le (by omega)] at i4 i5
     simp only [wr,List.append_nil] at i4 i5
     rw [i4,← i5]) (d,0,[]) ⟨by simp,by simp,by simp,by simp,by simp⟩
  rw [h2] at h1
  exact h1
 have hw := wr_len k d v l d
 unfold g_As_l1Write g_Vs_l1Write_0
 rw [L]
 simp only [okO,valO,Option.isSome_some,Option.getD_some,Bool.true_and]
 refine ⟨?_,?_⟩
 ·have c1:decide ((nat_lit 0 + List.length v) * nat_lit 8 ≤ nat_lit 140737488355328 ∧ nat_lit 0 + List.length v ≤ nat_lit 9223372036854775807) = true := capE_f _ _ _ (by show 0 + _ ≤ _; omega) (by decide)
  have c2:decide ((List.length (wr k d v d l).1 + List.length [(k,[] ++ v)]) * nat_lit 40 ≤ nat_lit 140737488355328 ∧ List.length (wr k d v d l).1 + List.length [(k,[] ++ v)] ≤ nat_lit 9223372036854775807) = true := capE_f _ _ _ (by simp only [List.length_cons,List.length_nil]; omega) (by decide)
  simp only [Bool.or_eq_true,Bool.and_eq_true,decide_eq_true_eq]
  exact .inr ⟨of_decide_eq_true c1,decide_eq_true (of_decide_eq_true c2)⟩
 ·unfold writeS
  cases (wr k d v d l).2 <;> simp
def doL:List (ByteArray×List Int) → List (ByteArray×Bool×List Int) → Option (List (ByteArray×List Int))
 | l,[] => some l
 | l,w :: ws => bif wrtP w.1 w.2.1 w.2.2 then bif decide ((writeS l w.1 w.2.1 w.2.2).length ≤ 40) then doL (writeS l w.1 w.2.1 w.2.2) ws else none else none
def doS (l:List (ByteArray×List Int)) (ws:List (ByteArray×Bool×List Int)):List (ByteArray×List Int) := bif storeP l then (doL l ws).getD [] else []
theorem writeS_val (k:ByteArray) (d:Bool) (v:List Int) (B:Nat) (hv:v.length ≤ B) (l:List (ByteArray×List Int)) (h:∀ x ∈ l,x.2.length ≤ B):∀ x ∈ writeS l k d v,x.2.length ≤ B := by
 have := wr_val k d v B hv l d h
 unfold writeS
 cases (wr k d v d l).2
 ·intro x hx
  simp only [cond_false,List.mem_append,List.mem_cons,List.not_mem_nil,or_false] at hx
  rcases hx with hx | rfl
  ·exact this x hx
  ·exact hv
 ·exact this
theorem doL_small (B:Nat):∀ (ws:List (ByteArray×Bool×List Int)) (l r:List (ByteArray×List Int)),l.length ≤ 40 → (∀ x ∈ l,x.2.length ≤ B) → (∀ w ∈ ws,w.2.2.length ≤ B) → doL l ws = some r → r.length ≤ 40 ∧ ∀ x ∈ r,x.2.length ≤ B
 | [],l,r,h1,h2,_,h => by simp only [doL,Option.some.injEq] at h; subst h; exact ⟨h1,h2⟩
 | w :: ws,l,r,h1,h2,h3,h => by
  simp only [doL] at h
  cases hw:wrtP w.1 w.2.1 w.2.2
  ·rw [hw] at h; cases h
  ·rw [hw,cond_true] at h
   by_cases hl:(writeS l w.1 w.2.1 w.2.2).length ≤ 40
   ·rw [decide_eq_true hl,cond_true] at h
    exact doL_small B ws _ r hl (writeS_val _ _ _ B (h3 w List.mem_cons_self) l h2) (fun x hx => h3 x (List.mem_cons_of_mem _ hx)) h
   ·rw [decide_eq_false hl] at h; cases h
theorem doS_small (B:Nat) (l:List (ByteArray×List Int)) (ws:List (ByteArray×Bool×List Int)) (h2:∀ x ∈ l,x.2.length ≤ B) (h3:∀ w ∈ ws,w.2.2.length ≤ B):(doS l ws).length ≤ 40 ∧ ∀ x ∈ doS l ws,x.2.length ≤ B := by
 unfold doS
 cases hs:storeP l
 ·simp
 ·rw [cond_true]
  have h1:l.length ≤ 40 := by
   simp only [storeP,Bool.and_eq_true,decide_eq_true_eq] at hs
   exact hs.1
  cases hd:doL l ws with
  | none => simp
  | some r => exact doL_small B ws l r h1 h2 h3 hd
theorem s_StoDo_f (l:List (ByteArray×List Int)) (ws:List (ByteArray×Bool×List Int)) (hl:l.length ≤ 1048576) (hit:∀ x ∈ l,x.2.length ≤ 1048576) (hw:ws.length ≤ 1048576) (hws:∀ w ∈ ws,w.2.2.length ≤ 1048576):g_As_StoDo l ws = true ∧ g_Vs_StoDo_0 l ws = doS l ws := by
 obtain ⟨a1,a2⟩ := s_StoOk_f l hl hit
 obtain ⟨c1,c2⟩ := l1Copy_f l hl hit
 unfold g_As_StoDo g_Vs_StoDo_0 doS
 rw [a1,a2,c1,c2]
 cases hs:storeP l
 ·simp
 ·have h1:l.length ≤ 40 := by
   simp only [storeP,Bool.and_eq_true,decide_eq_true_eq] at hs
   exact hs.1
  have L:∃ r,g_Ls_StoDo_0 ws [] (0,l) = some r ∧ match r with
    | .inl p => p.1 = [] ∧ doL l ws = none
    | .inr p => doL l ws = some p := by
   refine loop_inv (step := g_Ss_StoDo_0 ws []) (fun x => 0 ≤ x.1 ∧ x.1.toNat ≤ ws.length ∧ x.2.length ≤ 40 ∧ (∀ y ∈ x.2,y.2.length ≤ 1048576) ∧ doL x.2 (ws.drop x.1.toNat) = doL l ws) _ (fun x => ws.length - x.1.toNat) ?_ _ ⟨by simp,by simp,h1,hit,by simp⟩
   rintro ⟨i,y⟩ ⟨i1,i2,i3,i4,i5⟩
   simp only at i1 i2 i3 i4 i5
   by_cases hk:i < (ws.length:Int)
   ·have hn:i.toNat < ws.length := by omega
    rw [List.drop_eq_getElem_cons hn] at i5
    have hv := hws _ (List.getElem_mem hn)
    have e1:(i + 1).toNat = i.toNat + 1 := by omega
    have hat:at_ (.pair .str (.pair .bool (.sl 3 (.int .i64)))) ws i.toNat = ws[i.toNat] := at_eq (e := .pair .str (.pair .bool (.sl 3 (.int .i64)))) hn
    generalize hw:ws[i.toNat] = w at hv i5 hat
    obtain ⟨q1,q2⟩ := s_WrtOk_f w.1 w.2.1 w.2.2 hv
    obtain ⟨p1,p2⟩ := l1Write_f y w.1 w.2.1 w.2.2 (by omega) hv
    have hl := fun h2 => writeS_val w.1 w.2.1 w.2.2 1048576 hv y h2
    have sel:(g_Ss_StoDo_0 ws [] (i,y)).sel = bif wrtP w.1 w.2.1 w.2.2 then bif decide ((writeS y w.1 w.2.1 w.2.2).length ≤ 40) then .go (i + 1,writeS y w.1 w.2.1 w.2.2) else .out (.inl ([],writeS y w.1 w.2.1 w.2.2)) else .out (.inl ([],y)) := by
     simp only [g_Ss_StoDo_0,RT.sel,hk,i1,and_self,decide_true,cond_true,hat,q1,q2,p1,p2,wrap64 (x := i + 1) (by omega)]
     cases wrtP w.1 w.2.1 w.2.2
     ·rfl
     ·by_cases hc:(writeS y w.1 w.2.1 w.2.2).length ≤ 40
      ·simp only [Bool.not_true,cond_false,cond_true,decide_eq_true hc,decide_eq_false (show ¬ ((writeS y w.1 w.2.1 w.2.2).length:Int) > 40 by omega)]
      ·simp only [Bool.not_true,cond_false,cond_true,decide_eq_false hc,decide_eq_true (show ((writeS y w.1 w.2.1 w.2.2).length:Int) > 40 by omega)]
    simp only [doL] at i5
    cases hp:wrtP w.1 w.2.1 w.2.2
    ·rw [hp,cond_false] at sel i5
     exact .inr ⟨_,sel,rfl,i5.symm⟩
    ·rw [hp,cond_true] at sel i5
     by_cases hc:(writeS y w.1 w.2.1 w.2.2).length ≤ 40
     ·rw [decide_eq_true hc,cond_true] at sel i5
      refine .inl ⟨_,sel,⟨by simp only; omega,by simp only; omega,hc,hl i4,?_⟩,by simp only; omega⟩
      simp only [e1]
      exact i5
     ·rw [decide_eq_false hc,cond_false] at sel i5
      exact .inr ⟨_,sel,rfl,i5.symm⟩
   ·refine .inr ⟨.inr y,?_,?_⟩
    ·simp only [g_Ss_StoDo_0,RT.sel,hk,decide_false,cond_true,cond_false]
    ·rw [List.drop_of_length_le (by omega)] at i5
     simp only [doL] at i5
     exact i5.symm
  obtain ⟨r,h2,h3⟩ := L
  rw [h2]
  match r,h3 with
  | .inl p,h3 => simp [okO,valO,isL,getL,h3.1,h3.2]
  | .inr p,h3 =>
   have hsm := doL_small 1048576 ws l p h1 hit hws h3
   obtain ⟨d1,d2⟩ := l1Copy_f p (by omega) hsm.2
   simp [okO,valO,isL,getR,h3,d1,d2]
abbrev Item:Type := ByteArray×List Int
abbrev Wrt:Type := ByteArray×Bool×List Int
def Lt (a b:ByteArray):Prop := Op.bytesLess a.toList b.toList = true
def Srt (l:List Item):Prop := l.Pairwise fun a b => Lt a.1 b.1
instance (a b:ByteArray):Decidable (Lt a b) := by unfold Lt; infer_instance
theorem toList_inj {a b:ByteArray} (h:a.toList = b.toList):a = b := by
 rw [ByteArray.toList_eq,ByteArray.toList_eq] at h
 cases a; cases b
 congr
 exact Array.toList_inj.1 h
theorem lt_irrefl (a:ByteArray):¬ Lt a a := by unfold Lt; rw [less_irrefl]; simp
theorem lt_trans {a b c:ByteArray} (h1:Lt a b) (h2:Lt b c):Lt a c := less_trans _ _ _ h1 h2
theorem lt_asymm {a b:ByteArray} (h1:Lt a b) (h2:Lt b a):False := lt_irrefl a (lt_trans h1 h2)
theorem lt_tri (a b:ByteArray):Lt a b ∨ a = b ∨ Lt b a := by
 have h := leq_not a.toList b.toList
 unfold Lt
 cases h1:Op.bytesLess a.toList b.toList
 ·rw [h1,Bool.false_or] at h
  cases h2:Op.bytesLess b.toList a.toList
  ·rw [h2] at h
   exact .inr (.inl (toList_inj (by simpa using h)))
  ·exact .inr (.inr rfl)
 ·exact .inl rfl
theorem lt_ne {a b:ByteArray} (h:Lt a b):a ≠ b := fun e => by subst e; exact lt_irrefl _ h
theorem beq_list (a b:ByteArray):(a.toList == b.toList) = decide (a = b) := by
 rw [Bool.eq_iff_iff,beq_iff_eq,decide_eq_true_eq]
 exact ⟨toList_inj,fun e => by rw [e]⟩
theorem less_not {a b:ByteArray} (h:¬ Lt a b):Op.bytesLess a.toList b.toList = false := by
 unfold Lt at h; simpa using h
def okI' (x:Item):Bool := keyP x.1&&valP x.2
theorem storeP_iff (l:List Item):storeP l = true ↔ l.length ≤ 40 ∧ (∀ x ∈ l,okI' x = true) ∧ Srt l := by
 constructor
 ·intro h
  have h' := h
  simp only [storeP,Bool.and_eq_true,decide_eq_true_eq,List.all_eq_true,itemP] at h
  refine ⟨h.1,fun x hx => ?_,?_⟩
  ·obtain ⟨i,hi,rfl⟩ := List.getElem_of_mem hx
   have := h.2 i (List.mem_range.2 hi)
   rw [at_eq (e := TI_) hi] at this
   simp [okI',this.1,this.2.1]
  ·unfold Srt
   rw [List.pairwise_iff_getElem]
   intro i j hi hj hij
   have := rises_lt h' (j - i - 1) i (by omega)
   rw [show i + (j - i - 1 + 1) = j by omega,at_eq (e := TI_) hi,at_eq (e := TI_) hj] at this
   exact this
 ·rintro ⟨h1,h2,h3⟩
  simp only [storeP,Bool.and_eq_true,decide_eq_true_eq,List.all_eq_true,itemP]
  refine ⟨h1,fun i hi => ?_⟩
  have hi := List.mem_range.1 hi
  have a := h2 _ (List.getElem_mem hi)
  rw [at_eq (e := TI_) hi]
  simp only [okI',Bool.and_eq_true] at a
  refine ⟨a.1,a.2,?_⟩
  unfold risesP
  by_cases e:i = 0
  ·simp [e]
  ·have := (List.pairwise_iff_getElem.1 h3) (i - 1) i (by omega) hi (by omega)
   rw [at_eq (e := TI_) hi,at_eq (e := TI_) (show i - 1 < l.length by omega)]
   unfold Lt at this
   simp only [this,Bool.or_true]
theorem srt_tail {x:Item} {l:List Item} (h:Srt (x :: l)):Srt l ∧ ∀ y ∈ l,Lt x.1 y.1 := by
 unfold Srt at h
 rw [List.pairwise_cons] at h
 exact ⟨h.2,h.1⟩
theorem wr_true (k:ByteArray) (d:Bool) (v:List Int):∀ r:List Item,(∀ x ∈ r,Lt k x.1) → wr k d v true r = (r,true)
 | [],_ => rfl
 | it :: r,h => by
  have h1 := h it List.mem_cons_self
  have ih := wr_true k d v r (fun x hx => h x (List.mem_cons_of_mem _ hx))
  have e:(it.1.toList == k.toList) = false := by rw [beq_list]; exact decide_eq_false fun e => lt_ne h1 e.symm
  simp only [wr,e,Bool.not_true,Bool.false_and,Bool.or_false,ih,cond_false,List.nil_append]
theorem writeS_nil (k:ByteArray) (d:Bool) (v:List Int):writeS [] k d v = bif d then [] else [(k,v)] := by
 cases d <;> rfl
theorem writeS_lt {k:ByteArray} {it:Item} (h:Lt it.1 k) (d:Bool) (v:List Int) (r:List Item):writeS (it :: r) k d v = it :: writeS r k d v := by
 have e:(it.1.toList == k.toList) = false := by rw [beq_list]; exact decide_eq_false (lt_ne h)
 have e2:Op.bytesLess k.toList it.1.toList = false := less_not fun h2 => lt_asymm h h2
 simp only [writeS,wr,e,e2,Bool.and_false,Bool.or_false,cond_false,List.nil_append]
 cases (wr k d v d r).2 <;> rfl
theorem writeS_eq {k:ByteArray} {it:Item} (h:it.1 = k) (d:Bool) (v:List Int) (r:List Item) (hr:∀ x ∈ r,Lt k x.1):writeS (it :: r) k d v = bif d then r else (k,v) :: r := by
 have e:(it.1.toList == k.toList) = true := by rw [h]; simp
 have e2:Op.bytesLess k.toList it.1.toList = false := by rw [h]; exact less_irrefl _
 cases d
 ·simp only [writeS,wr,e,e2,Bool.and_false,Bool.or_false,cond_false,cond_true,List.nil_append,Bool.not_false,wr_true k false v r hr]
 ·simp only [writeS,wr,e,e2,Bool.and_false,Bool.or_false,cond_false,cond_true,List.nil_append,Bool.not_true,wr_true k true v r hr]
theorem writeS_gt {k:ByteArray} {it:Item} (h:Lt k it.1) (d:Bool) (v:List Int) (r:List Item) (hr:∀ x ∈ r,Lt k x.1):writeS (it :: r) k d v = bif d then it :: r else (k,v) :: it :: r := by
 have e:(it.1.toList == k.toList) = false := by rw [beq_list]; exact decide_eq_false fun e => lt_ne h e.symm
 have e2:Op.bytesLess k.toList it.1.toList = true := h
 cases d
 ·simp only [writeS,wr,e,e2,Bool.not_false,Bool.and_true,Bool.or_true,Bool.true_and,cond_false,cond_true,List.cons_append,List.nil_append,wr_true k false v r hr]
 ·simp only [writeS,wr,e,e2,Bool.not_true,Bool.false_and,Bool.or_false,cond_false,cond_true,List.nil_append,wr_true k true v r hr]
theorem writeS_mem {k:ByteArray} (d:Bool) (v:List Int):∀ {l:List Item},Srt l → ∀ x ∈ writeS l k d v,x ∈ l ∨ (d = false ∧ x = (k,v))
 | [],_,x,hx => by
  rw [writeS_nil] at hx
  cases d
  ·exact .inr ⟨rfl,by simpa using hx⟩
  ·cases hx
 | it :: r,hs,x,hx => by
  obtain ⟨h1,h2⟩ := srt_tail hs
  rcases lt_tri it.1 k with h | h | h
  ·rw [writeS_lt h] at hx
   rcases List.mem_cons.1 hx with rfl | hx
   ·exact .inl List.mem_cons_self
   ·rcases writeS_mem d v h1 x hx with h | h
    ·exact .inl (List.mem_cons_of_mem _ h)
    ·exact .inr h
  ·rw [writeS_eq h d v r (fun y hy => h ▸ h2 y hy)] at hx
   cases d
   ·rcases List.mem_cons.1 hx with rfl | hx
    ·exact .inr ⟨rfl,rfl⟩
    ·exact .inl (List.mem_cons_of_mem _ hx)
   ·exact .inl (List.mem_cons_of_mem _ hx)
  ·rw [writeS_gt h d v r (fun y hy => lt_trans h (h2 y hy))] at hx
   cases d
   ·rcases List.mem_cons.1 hx with rfl | hx
    ·exact .inr ⟨rfl,rfl⟩
    ·exact .inl hx
   ·exact .inl hx
theorem writeS_srt {k:ByteArray} (d:Bool) (v:List Int):∀ {l:List Item},Srt l → Srt (writeS l k d v)
 | [],_ => by rw [writeS_nil]; cases d <;> simp [Srt]
 | it :: r,hs => by
  obtain ⟨h1,h2⟩ := srt_tail hs
  rcases lt_tri it.1 k with h | h | h
  ·rw [writeS_lt h]
   refine List.pairwise_cons.2 ⟨fun x hx => ?_,writeS_srt d v h1⟩
   rcases writeS_mem d v h1 x hx with hx | ⟨_,rfl⟩
   ·exact h2 x hx
   ·exact h
  ·rw [writeS_eq h d v r (fun y hy => h ▸ h2 y hy)]
   cases d
   ·exact List.pairwise_cons.2 ⟨fun x hx => h ▸ h2 x hx,h1⟩
   ·exact h1
  ·rw [writeS_gt h d v r (fun y hy => lt_trans h (h2 y hy))]
   cases d
   ·refine List.pairwise_cons.2 ⟨fun x hx => ?_,hs⟩
    rcases List.mem_cons.1 hx with rfl | hx
    ·exact h
    ·exact lt_trans h (h2 x hx)
   ·exact hs
theorem writeS_store {l:List Item} (h:storeP l = true) {k:ByteArray} {d:Bool} {v:List Int} (hw:wrtP k d v = true) (hl:(writeS l k d v).length ≤ 40):storeP (writeS l k d v) = true := by
 rw [storeP_iff] at h ⊢
 refine ⟨hl,fun x hx => ?_,writeS_srt d v h.2.2⟩
 rcases writeS_mem d v h.2.2 x hx with hx | ⟨rfl,rfl⟩
 ·exact h.2.1 x hx
 ·simpa [wrtP,okI'] using hw
theorem storeP_nil:storeP [] = true := by decide
theorem getP_cons (it:Item) (l:List Item) (key:ByteArray):getP (it :: l) key = bif decide (it.1 = key) then some it.2 else getP l key := by
 unfold getP
 rw [List.find?_cons,beq_list]
 cases decide (it.1 = key) <;> rfl
theorem getP_gt {key:ByteArray}:∀ {l:List Item},(∀ x ∈ l,Lt key x.1) → getP l key = none
 | [],_ => rfl
 | it :: l,h => by
  rw [getP_cons,decide_eq_false fun e => lt_ne (h it List.mem_cons_self) e.symm,cond_false]
  exact getP_gt fun x hx => h x (List.mem_cons_of_mem _ hx)
theorem posP_cons (it:Item) (l:List Item) (key:ByteArray):posP (it :: l) key = if Lt it.1 key then posP l key + 1 else 0 := by
 unfold posP
 by_cases h:Lt it.1 key
 ·rw [if_pos h,List.takeWhile_cons_of_pos (p := fun x:Item => Op.bytesLess x.1.toList key.toList) h]; rfl
 ·rw [if_neg h,List.takeWhile_cons_of_neg (p := fun x:Item => Op.bytesLess x.1.toList key.toList) (by simp only [less_not h]; simp)]; rfl
def putP (l:List Item) (k:ByteArray) (d:Bool) (v:List Int):List Item :=
 if (getP l k).isSome then (bif d then l.eraseIdx (posP l k) else l.set (posP l k) (k,v)) else bif d then l else l.take (posP l k) ++ (k,v) :: l.drop (posP l k)
theorem write_put (k:ByteArray) (d:Bool) (v:List Int):∀ {l:List Item},Srt l → writeS l k d v = putP l k d v
 | [],_ => by rw [writeS_nil]; cases d <;> rfl
 | it :: r,hs => by
  obtain ⟨h1,h2⟩ := srt_tail hs
  rcases lt_tri it.1 k with h | h | h
  ·rw [writeS_lt h,write_put k d v h1]
   unfold putP
   rw [getP_cons,decide_eq_false (lt_ne h),cond_false,posP_cons,if_pos h]
   split
   ·cases d <;> rfl
   ·cases d
    ·simp
    ·rfl
  ·rw [writeS_eq h d v r (fun y hy => h ▸ h2 y hy)]
   unfold putP
   rw [getP_cons,decide_eq_true h,cond_true,if_pos (show (some it.2).isSome = true from rfl),posP_cons,if_neg (by rw [h]; exact lt_irrefl k)]
   cases d <;> simp
  ·rw [writeS_gt h d v r (fun y hy => lt_trans h (h2 y hy))]
   unfold putP
   rw [getP_gt,posP_cons,if_neg (fun h2 => lt_asymm h h2)]
   ·cases d <;> simp
   ·intro x hx
    rcases List.mem_cons.1 hx with rfl | hx
    ·exact h
    ·exact lt_trans h (h2 x hx)
abbrev Plan:Type := Bool×List ByteArray×List Wrt
abbrev nth (v:List Int) (n:Nat):Int := at_ (.int .i64) v n
noncomputable abbrev nm (c:Nat) (n:Int):ByteArray := lit [c] ++ g_Vs_l3Digit_0 n
noncomputable abbrev nmA (n:Int):ByteArray := lit [97] ++ g_Vs_l3Plain_0 n
def noP (ls:List ByteArray):Plan := (false,ls,[])
noncomputable def inP (l:List Item) (k w i:Int):Plan :=
 match getP l (nm 115 i) with
 | none => bif k == 1 then (true,[nm 115 i],[(nm 115 i,false,[w])]) else noP [nm 115 i]
 | some v => bif k == 1 then noP [nm 115 i] else bif nth v 0 == w then (true,[nm 115 i],bif k == 5 then [(nm 115 i,true,[])] else []) else noP [nm 115 i]
noncomputable def tradeP (l:List Item) (c s f:Int):Plan :=
 match getP l (nm 99 c) with
 | none => noP [nm 99 c,nm 102 f]
 | some v => bif (getP l (nm 102 f)).isSome || !(nth v 1 == g_Vs_SecSum_0 s) then noP [nm 99 c,nm 102 f]
  else (true,[nm 99 c,nm 102 f,nm 117 (nth v 0)],[(nm 99 c,true,[]),(nm 102 f,false,[nth v 0,1,1])])
noncomputable def nextP (l:List Item) (f g:Int):Plan :=
 match getP l (nm 102 f) with
 | none => noP [nm 102 f]
 | some v => bif (nth v 2 == 0) || (decide (g > nth v 1) || ((g == 0) || (nth v 1 == 99))) then noP [nm 102 f]
  else (true,[nm 102 f,nm 117 (nth v 0)],[(nm 102 f,false,bif decide (g < nth v 1) then [nth v 0,nth v 1,0] else [nth v 0,nth v 1 + 1,1])])
def famP (w:Int) (x:Item):Bool := (byteAt x.1 0 == 102)&&((nth x.2 0 == w)&&(nth x.2 2 == 1))
noncomputable def outP (l:List Item) (w:Int):Plan := (true,nm 117 w :: (l.filter (famP w)).map (·.1),(l.filter (famP w)).map fun x => (x.1,false,[nth x.2 0,nth x.2 1,0]))
noncomputable def letP (l:List Item) (w c s:Int):Plan :=
 bif (getP l (nm 99 c)).isSome then noP [nm 99 c] else (true,[nm 99 c],[(nm 99 c,false,[w,g_Vs_SecSum_0 s])])
noncomputable def mayP (l:List Item) (k w c s f g:Int):Plan :=
 bif k == 2 then letP l w c s else bif k == 3 then tradeP l c s f else bif k == 4 then nextP l f g else outP l w
noncomputable def doneP (l:List Item) (tx k:Int):Plan :=
 bif (getP l (nmA tx)).isSome then noP [nmA tx] else (true,[nmA tx],[(nmA tx,false,[k])])
noncomputable def planL (place:Int) (l:List Item) (tx k w i c s f g:Int):Plan :=
 bif place == 1 then inP l k w i else bif place == 2 then mayP l k w c s f g else doneP l tx k
theorem get_item {l:List Item} {key:ByteArray} {v:List Int} (h:getP l key = some v):(key,v) ∈ l := by
 unfold getP at h
 cases hf:l.find? fun x => x.1.toList == key.toList with
 | none => rw [hf] at h; cases h
 | some x =>
  rw [hf] at h
  simp only [Option.map_some,Option.some.injEq] at h
  have h1 := List.find?_some hf
  have h2 := List.mem_of_find?_eq_some hf
  have h3:x.1 = key := toList_inj (by simpa using h1)
  rw [← h,← h3]
  exact h2
theorem byte_c (n:Int):byteAt (nm 99 n) 0 = 99 := rfl
theorem byte_f (n:Int):byteAt (nm 102 n) 0 = 102 := rfl
theorem byte_s (n:Int):byteAt (nm 115 n) 0 = 115 := rfl
theorem plc_store {p:Int} {l:List Item} (h:plcP p l = true):storeP l = true := by
 simp only [plcP,Bool.and_eq_true] at h
 exact h.2.1
theorem plc_item {p:Int} {l:List Item} (h:plcP p l = true) {x:Item} (hx:x ∈ l):placeP p x = true ∧ ItemOk x := by
 refine ⟨?_,storeP_item (plc_store h) x hx⟩
 simp only [plcP,Bool.and_eq_true,List.all_eq_true] at h
 exact h.2.2 x hx
theorem may_item {x:Item} (h:placeP 2 x = true):x.1.size = 2 ∧ nth x.2 0 ≤ 9 ∧ ((byteAt x.1 0 = 99 ∧ x.2.length = 2) ∨ (byteAt x.1 0 = 102 ∧ x.2.length = 3 ∧ (1 ≤ nth x.2 1 ∧ nth x.2 1 ≤ 99) ∧ nth x.2 2 ≤ 1)) := by
 unfold placeP at h
 simp only [show ¬ ((2:Int) = 1) by decide,decide_false,decide_true,cond_false,cond_true,Bool.and_eq_true,Bool.or_eq_true,decide_eq_true_eq] at h
 exact h
theorem code_get {l:List Item} (h:plcP 2 l = true) {c:Int} {v:List Int} (hv:getP l (nm 99 c) = some v):v.length = 2 := by
 have hx := plc_item h (get_item hv)
 have := may_item hx.1
 rw [byte_c] at this
 rcases this.2.2 with h1 | h1
 ·exact h1.2
 ·exact absurd h1.1 (by decide)
theorem fam_get {l:List Item} (h:plcP 2 l = true) {f:Int} {v:List Int} (hv:getP l (nm 102 f) = some v):v.length = 3 ∧ (1 ≤ nth v 1 ∧ nth v 1 ≤ 99) ∧ nth v 2 ≤ 1 := by
 have hx := plc_item h (get_item hv)
 have := may_item hx.1
 rw [byte_f] at this
 rcases this.2.2 with h1 | h1
 ·exact absurd h1.1 (by decide)
 ·exact h1.2
theorem l1Get_f (l:List (ByteArray×List Int)) (key:ByteArray) (hl:l.length ≤ 1048576) (hit:∀ x ∈ l,x.2.length ≤ 1048576):g_As_l1Get l key = true ∧ g_Vs_l1Get_0 l key = (getP l key).getD [] ∧ g_Vs_l1Get_1 l key = (getP l key).isSome := by
 have L:g_Ls_l1Get_0 key l 0 = some (match getP l key with | some v => .inl (v,true) | none => .inr ()) := by
  obtain ⟨r,h1,h2⟩ := loop_inv (step := g_Ss_l1Get_0 key l) (fun x => 0 ≤ x ∧ x ≤ l.length ∧ getP l key = getP (l.drop x.toNat) key) (fun r => r = (match getP l key with | some v => .inl (v,true) | none => .inr ())) (fun x => l.length - x.toNat) (fun x hx => by
   obtain ⟨i1,i2,i3⟩ := hx
   by_cases hk:x < (l.length:Int)
   ·have hn:x.toNat < l.length := by omega
    have hd:l.drop x.toNat = at_ TI_ l x.toNat :: l.drop (x.toNat + 1) := by rw [at_eq (e := TI_) hn]; exact List.drop_eq_getElem_cons hn
    cases hc:((at_ TI_ l x.toNat).1.toList == key.toList)
    ·refine .inl ⟨x + 1,?_,⟨by omega,by omega,?_⟩,by omega⟩
     ·have hc':(ByteArray.toList (at_ (Ty.pair Ty.str (Ty.sl (nat_lit 3) (Ty.int IntKind.i64))) l x.toNat).1 == key.toList) = false := hc
      simp only [g_Ss_l1Get_0,RT.sel,hk,i1,and_self,decide_true,cond_true,hc',cond_false]
      rw [wrap64 (by omega)]
     ·rw [i3,hd,show (x + 1).toNat = x.toNat + 1 by omega]
      simp only [getP,List.find?_cons,hc]
    ·have hg:getP l key = some (at_ TI_ l x.toNat).2 := by rw [i3,hd]; simp only [getP,List.find?_cons,hc,Option.map_some]
     refine .inr ⟨.inl ((at_ TI_ l x.toNat).2,true),?_,by rw [hg]⟩
     have hb:List.length (at_ (Ty.pair Ty.str (Ty.sl (nat_lit 3) (Ty.int IntKind.i64))) l x.toNat).2 ≤ 1048576 := hit _ (at_mem (e := TI_) hn)
     have hc':(ByteArray.toList (at_ (Ty.pair Ty.str (Ty.sl (nat_lit 3) (Ty.int IntKind.i64))) l x.toNat).1 == key.toList) = true := hc
     have hcap:decide ((nat_lit 0 + List.length (at_ (Ty.pair Ty.str (Ty.sl (nat_lit 3) (Ty.int IntKind.i64))) l x.toNat).2) * nat_lit 8 ≤ nat_lit 140737488355328 ∧ nat_lit 0 + List.length (at_ (Ty.pair Ty.str (Ty.sl (nat_lit 3) (Ty.int IntKind.i64))) l x.toNat).2 ≤ nat_lit 9223372036854775807) = true := decide_eq_true ⟨by show (0 + _) * 8 ≤ 140737488355328; omega,by show 0 + _ ≤ 9223372036854775807; omega⟩
     simp only [g_Ss_l1Get_0,RT.sel,hk,i1,and_self,decide_true,cond_true,hc',hcap]
     rfl
   ·refine .inr ⟨.inr (),?_,?_⟩
    ·simp only [g_Ss_l1Get_0,RT.sel,hk,decide_false,cond_true,cond_false]
    ·rw [i3,List.drop_of_length_le (by omega)]
     rfl) 0 ⟨by omega,by omega,by simp⟩
  rw [← h2]
  exact h1
 unfold g_As_l1Get g_Vs_l1Get_0 g_Vs_l1Get_1
 rw [L]
 cases getP l key <;> simp [okO,valO,isL,getL]
theorem capN (c:Nat) (n:Int):decide (nat_lit 1 + ByteArray.size (g_Vs_l3Digit_0 n) ≤ nat_lit 9223372036854775807) = true := rfl
theorem l3No_f (ls:List ByteArray) (h:ls.length ≤ 100):g_As_l3No ls = true := by
 unfold g_As_l3No
 have:(nat_lit 0 + List.length ls) * nat_lit 16 ≤ 100 * 16 := by
  have:nat_lit 0 + List.length ls = ls.length := Nat.zero_add _
  rw [this]
  exact Nat.mul_le_mul h (Nat.le_refl 16)
 refine decide_eq_true ⟨Nat.le_trans this (by decide),?_⟩
 have:nat_lit 0 + List.length ls = ls.length := Nat.zero_add _
 rw [this]
 exact Nat.le_trans h (by decide)
theorem idx_dec (v:List Int) (n:Nat) (h:n < v.length):decide ((0:Int) ≤ (n:Int) ∧ (n:Int) < (v.length:Int)) = true := decide_eq_true (by omega)
theorem lget (l:List Item) (key:ByteArray) (h:storeP l = true):g_As_l1Get l key = true ∧ g_Vs_l1Get_0 l key = (getP l key).getD [] ∧ g_Vs_l1Get_1 l key = (getP l key).isSome :=
 l1Get_f l key (by have := storeP_len h; omega) (fun x hx => by have := (storeP_item h x hx).len; omega)
theorem s_SecSum_A (s:Int):g_As_SecSum s = true := by
 simp [g_As_SecSum,(s_l1In_f _ _ _).1]
theorem s_in_f (l:List Item) (k w i c s f g:Int) (h:plcP 1 l = true):g_As_l3In l k w i c s f g = true ∧ g_Vs_l3In_0 l k w i c s f g = (inP l k w i).1 ∧ g_Vs_l3In_1 l k w i c s f g = (inP l k w i).2.1 ∧ g_Vs_l3In_2 l k w i c s f g = (inP l k w i).2.2 := by
 obtain ⟨a1,a2,a3⟩ := lget l (nm 115 i) (plc_store h)
 have no1 := l3No_f [nm 115 i] (by simp)
 unfold g_As_l3In g_Vs_l3In_0 g_Vs_l3In_1 g_Vs_l3In_2 inP
 rw [capN 0 i,a1,a2,a3,no1]
 cases hv:getP l (nm 115 i) with
 | none => cases (k == 1) <;> cases (k == 5) <;> exact ⟨rfl,rfl,rfl,rfl⟩
 | some v =>
  have hl := (storeP_item (plc_store h) _ (get_item hv)).len
  have d1 := idx_dec v 0 (by simp only at hl; omega)
  have d2:decide (nat_lit 0 < List.length v) = true := decide_eq_true (show 0 < v.length by simp only at hl; omega)
  have d1:decide ((0:Int) ≤ (0:Int) ∧ (0:Int) < (v.length:Int)) = true := d1
  simp only [Option.isSome_some,Option.getD_some,Bool.not_true,d1,d2,bne]
  cases (k == 1) <;> cases (k == 5) <;> cases (nth v 0 == w) <;> exact ⟨rfl,rfl,rfl,rfl⟩
theorem s_trade_f (l:List Item) (k w i c s f g:Int) (h:plcP 2 l = true):g_As_l3Trade l k w i c s f g = true ∧ g_Vs_l3Trade_0 l k w i c s f g = (tradeP l c s f).1 ∧ g_Vs_l3Trade_1 l k w i c s f g = (tradeP l c s f).2.1 ∧ g_Vs_l3Trade_2 l k w i c s f g = (tradeP l c s f).2.2 := by
 obtain ⟨a1,a2,a3⟩ := lget l (nm 99 c) (plc_store h)
 obtain ⟨b1,b2,b3⟩ := lget l (nm 102 f) (plc_store h)
 have no1 := l3No_f [nm 99 c,nm 102 f] (by simp)
 unfold g_As_l3Trade g_Vs_l3Trade_0 g_Vs_l3Trade_1 g_Vs_l3Trade_2 tradeP
 rw [capN 0 c,capN 0 f,a1,a2,a3,b1,b3,no1,s_SecSum_A]
 cases hv:getP l (nm 99 c) with
 | none => exact ⟨rfl,rfl,rfl,rfl⟩
 | some v =>
  have hl := code_get h hv
  have d0:decide ((0:Int) ≤ (0:Int) ∧ (0:Int) < (v.length:Int)) = true := decide_eq_true (by omega)
  have d1:decide ((0:Int) ≤ (1:Int) ∧ (1:Int) < (v.length:Int)) = true := decide_eq_true (by omega)
  have n0:decide (nat_lit 0 < List.length v) = true := decide_eq_true (show 0 < v.length by omega)
  have n1:decide (nat_lit 1 < List.length v) = true := decide_eq_true (show 1 < v.length by omega)
  simp only [Option.isSome_some,Option.getD_some,Bool.not_true,d0,d1,n0,n1,bne,capN 0]
  cases (getP l (nm 102 f)).isSome <;> cases (nth v 1 == g_Vs_SecSum_0 s) <;> exact ⟨rfl,rfl,rfl,rfl⟩
theorem s_next_f (l:List Item) (k w i c s f g:Int) (h:plcP 2 l = true):g_As_l3Next l k w i c s f g = true ∧ g_Vs_l3Next_0 l k w i c s f g = (nextP l f g).1 ∧ g_Vs_l3Next_1 l k w i c s f g = (nextP l f g).2.1 ∧ g_Vs_l3Next_2 l k w i c s f g = (nextP l f g).2.2 := by
 obtain ⟨b1,b2,b3⟩ := lget l (nm 102 f) (plc_store h)
 have no1 := l3No_f [nm 102 f] (by simp)
 unfold g_As_l3Next g_Vs_l3Next_0 g_Vs_l3Next_1 g_Vs_l3Next_2 nextP
 rw [capN 0 f,b1,b2,b3,no1]
 cases hv:getP l (nm 102 f) with
 | none => exact ⟨rfl,rfl,rfl,rfl⟩
 | some v =>
  obtain ⟨hl,h1,h2⟩ := fam_get h hv
  have d0:decide ((0:Int) ≤ (0:Int) ∧ (0:Int) < (v.length:Int)) = true := decide_eq_true (by omega)
  have d1:decide ((0:Int) ≤ (1:Int) ∧ (1:Int) < (v.length:Int)) = true := decide_eq_true (by omega)
  have d2:decide ((0:Int) ≤ (2:Int) ∧ (2:Int) < (v.length:Int)) = true := decide_eq_true (by omega)
  have n0:decide (nat_lit 0 < List.length v) = true := decide_eq_true (show 0 < v.length by omega)
  have n1:decide (nat_lit 1 < List.length v) = true := decide_eq_true (show 1 < v.length by omega)
  have n2:decide (nat_lit 2 < List.length v) = true := decide_eq_true (show 2 < v.length by omega)
  have w1:IntKind.wrap .i64 (nth v 1 + 1) = nth v 1 + 1 := wrap64 (by omega)
  have w1:IntKind.wrap .i64 (at_ (Ty.int IntKind.i64) v (nat_lit 1) + 1) = nth v 1 + 1 := w1
  simp only [Option.isSome_some,Option.getD_some,Bool.not_true,d0,d1,d2,n0,n1,n2,w1,capN 0]
  cases (nth v 2 == 0) <;> cases decide (g > nth v 1) <;> cases (g == 0) <;> cases (nth v 1 == 99) <;> cases decide (g < nth v 1) <;> exact ⟨rfl,rfl,rfl,rfl⟩
theorem capF_f (a b k:Nat) (h:a + b ≤ 2200000) (hk:k ≤ 1000):decide ((a + b) * k ≤ nat_lit 140737488355328 ∧ a + b ≤ nat_lit 9223372036854775807) = true := by
 have:(a + b) * k ≤ 2200000 * 1000 := Nat.mul_le_mul h hk
 exact decide_eq_true ⟨Nat.le_trans this (by decide),Nat.le_trans h (by decide)⟩
theorem cap0_f (b k:Nat) (h:b ≤ 1048576) (hk:k ≤ 1000):decide ((nat_lit 0 + b) * k ≤ nat_lit 140737488355328 ∧ nat_lit 0 + b ≤ nat_lit 9223372036854775807) = true := capF_f 0 b k (by omega) hk
theorem loop_app {e:Ty} {σ ρ β:Type} {step:σ → RT σ ρ} (l:List e.den) (mk:Int → List β → σ) (g:e.den → β) (out:List β → ρ)
  (h1:∀ (i:Nat) (r:List β),i < l.length → r.length = i → (step (mk (i:Int) r)).sel = .go (mk ((i + 1:Nat):Int) (r ++ [g (at_ e l i)])))
  (h2:∀ r:List β,r.length = l.length → (step (mk (l.length:Int) r)).sel = .out (out r)):loopO step (mk 0 []) = some (out (l.map g)) := by
 have key:∀ (k i:Nat) (r:List β),i + k = l.length → r = (l.take i).map g → loopO step (mk (i:Int) r) = some (out (l.map g)) := by
  intro k
  induction k with
  | zero =>
   intro i r hi hr
   have hi:i = l.length := by omega
   subst hi
   rw [List.take_length] at hr
   rw [loopO_eq,h2 r (by rw [hr,List.length_map]),hr]
  | succ k ih =>
   intro i r hi hr
   have hil:i < l.length := by omega
   rw [loopO_eq,h1 i r hil (by rw [hr,List.length_map,List.length_take]; omega)]
   simp only
   refine ih (i + 1) _ (by omega) ?_
   rw [hr,at_eq hil,List.take_succ_eq_append_getElem hil,List.map_append]
   rfl
 exact key l.length 0 [] (by omega) (by simp)
def foldS {α β:Type} (f:List β → α → α):List β → α → α
 | [],a => a
 | x :: r,a => foldS f r (f (x :: r) a)
theorem loop_foldS {e:Ty} {σ ρ α:Type} {step:σ → RT σ ρ} (l:List e.den) (mk:Int → α → σ) (f:List e.den → α → α) (out:α → ρ) (J:Nat → α → Prop)
  (h1:∀ (i:Nat) (a:α),i < l.length → J i a → (step (mk (i:Int) a)).sel = .go (mk ((i + 1:Nat):Int) (f (l.drop i) a)) ∧ J (i + 1) (f (l.drop i) a))
  (h2:∀ a:α,(step (mk (l.length:Int) a)).sel = .out (out a)) (a0:α) (h0:J 0 a0):loopO step (mk 0 a0) = some (out (foldS f l a0)) ∧ J l.length (foldS f l a0) := by
 have key:∀ (k i:Nat) (a:α),i + k = l.length → J i a → loopO step (mk (i:Int) a) = some (out (foldS f (l.drop i) a)) ∧ J l.length (foldS f (l.drop i) a) := by
  intro k
  induction k with
  | zero =>
   intro i a hi hJ
   have hi:i = l.length := by omega
   subst hi
   rw [loopO_eq,h2 a,List.drop_length]
   exact ⟨rfl,hJ⟩
  | succ k ih =>
   intro i a hi hJ
   have hil:i < l.length := by omega
   obtain ⟨e1,e2⟩ := h1 i a hil hJ
   rw [loopO_eq,e1]
   have := ih (i + 1) _ (by omega) e2
   rw [List.drop_eq_getElem_cons hil] at this ⊢
   exact this
 exact key l.length 0 a0 (by omega) h0
def famW (x:Item):Wrt := (x.1,false,[nth x.2 0,nth x.2 1,0])
def outF (w:Int) (r:List Item) (a:List ByteArray×List Wrt):List ByteArray×List Wrt :=
 match r with
 | [] => a
 | x :: _ => bif famP w x then (a.1 ++ [x.1],a.2 ++ [famW x]) else a
theorem outF_eq (w:Int):∀ (l:List Item) (a:List ByteArray×List Wrt),foldS (outF w) l a = (a.1 ++ (l.filter (famP w)).map (·.1),a.2 ++ (l.filter (famP w)).map famW)
 | [],a => by simp [foldS]
 | x :: l,a => by
  rw [foldS,outF_eq w l]
  simp only [outF]
  cases hf:famP w x
  ·simp [List.filter_cons,hf]
  ·simp [List.filter_cons,hf]
theorem s_out_f (l:List Item) (k w i c s f g:Int) (h:plcP 2 l = true):g_As_l3Out l k w i c s f g = true ∧ g_Vs_l3Out_0 l k w i c s f g = (outP l w).2.1 ∧ g_Vs_l3Out_1 l k w i c s f g = (outP l w).2.2 := by
 have hlen := storeP_len (plc_store h)
 obtain ⟨L,_⟩ := loop_foldS (e := TI_) (step := g_Ss_l3Out_0 l k w i c s f g false [] [] true) l (fun i a => (i,a.1,a.2)) (outF w) id (fun i a => a.1.length ≤ i + 1 ∧ a.2.length ≤ i) (fun j a hj ha => by
  have k1:(j:Int) < l.length := by omega
  have k2:(0:Int) ≤ (j:Int) := by omega
  obtain ⟨p1,p2⟩ := plc_item h (List.getElem_mem hj)
  have p3 := may_item p1
  have hat:at_ (Ty.pair Ty.str (Ty.sl (nat_lit 3) (Ty.int IntKind.i64))) l j = l[j] := at_eq (e := TI_) hj
  have e0:List.drop j l = l[j] :: l.drop (j + 1) := List.drop_eq_getElem_cons hj
  generalize l[j] = x at p1 p2 p3 hat e0
  have q1:decide ((0:Int) ≤ (0:Int) ∧ (0:Int) < (x.1.size:Int)) = true := decide_eq_true (by have := p2.size; omega)
  have q2:decide ((0:Int) ≤ (0:Int) ∧ (0:Int) < (x.2.length:Int)) = true := decide_eq_true (by have := p2.len; omega)
  have hw:IntKind.wrap .i64 ((j:Int) + 1) = ((j + 1:Nat):Int) := by rw [wrap64 (by omega)]; omega
  have f0:(byteAt x.1 (nat_lit 0) == (102:Int)) = (byteAt x.1 0 == 102) := rfl
  have f1:(at_ (Ty.int IntKind.i64) x.2 (nat_lit 0) == w) = (nth x.2 0 == w) := rfl
  have f2:(at_ (Ty.int IntKind.i64) x.2 (nat_lit 2) == (1:Int)) = (nth x.2 2 == 1) := rfl
  have c1:decide ((List.length a.1 + List.length [x.1]) * nat_lit 16 ≤ nat_lit 140737488355328 ∧ List.length a.1 + List.length [x.1] ≤ nat_lit 9223372036854775807) = true := capF_f _ _ _ (by show _ + 1 ≤ _; omega) (by decide)
  have c2:decide ((List.length a.2 + List.length [(x.1,false,[at_ (Ty.int IntKind.i64) x.2 (nat_lit 0),at_ (Ty.int IntKind.i64) x.2 (nat_lit 1),(0:Int)])]) * nat_lit 48 ≤ nat_lit 140737488355328 ∧ List.length a.2 + List.length [(x.1,false,[at_ (Ty.int IntKind.i64) x.2 (nat_lit 0),at_ (Ty.int IntKind.i64) x.2 (nat_lit 1),(0:Int)])] ≤ nat_lit 9223372036854775807) = true := capF_f _ _ _ (by show _ + 1 ≤ _; omega) (by decide)
  rw [e0]
  simp only [g_Ss_l3Out_0,RT.sel,cond_true,k1,k2,decide_true,and_self,Int.toNat_natCast,hat,q1,q2,hw,f0,f1,f2,c1,c2,outF,famP]
  by_cases hf:byteAt x.1 0 = 102
  ·have h3:x.2.length = 3 := by
    rcases p3.2.2 with h1 | h1
    ·rw [hf] at h1; exact absurd h1.1 (by decide)
    ·exact h1.2.1
   have d1:decide ((0:Int) ≤ (1:Int) ∧ (1:Int) < (x.2.length:Int)) = true := decide_eq_true (by omega)
   have d2:decide ((0:Int) ≤ (2:Int) ∧ (2:Int) < (x.2.length:Int)) = true := decide_eq_true (by omega)
   have hb:(byteAt x.1 0 == (102:Int)) = true := by rw [hf]; rfl
   simp only [hb,d1,d2,cond_true,Bool.true_and]
   cases (nth x.2 0 == w) <;> cases (nth x.2 2 == 1) <;> refine ⟨rfl,?_⟩
   all_goals first | exact ⟨by simp only [Bool.true_and,Bool.false_and,Bool.and_false,Bool.and_true,Bool.and_self,cond_false,cond_true,List.length_append,List.length_cons,List.length_nil]; omega,by simp only [Bool.true_and,Bool.false_and,Bool.and_false,Bool.and_true,Bool.and_self,cond_false,cond_true,List.length_append,List.length_cons,List.length_nil]; omega⟩
  ·have hb:(byteAt x.1 0 == (102:Int)) = false := by simpa using hf
   simp only [hb,cond_false,Bool.false_and]
   exact ⟨by trivial,by omega,by omega⟩) (fun a => by simp only [g_Ss_l3Out_0,RT.sel,cond_true,Int.lt_irrefl,decide_false,cond_false,id]) ([nm 117 w],[]) ⟨by simp,by simp⟩
 rw [outF_eq] at L
 have L:g_Ls_l3Out_0 l k w i c s f g false [] [] true (0,[lit [117] ++ g_Vs_l3Digit_0 w],[]) = some ((outP l w).2.1,(outP l w).2.2) := L
 unfold g_As_l3Out g_Vs_l3Out_0 g_Vs_l3Out_1
 rw [capN 0 w,L]
 exact ⟨rfl,rfl,rfl⟩
theorem s_may_f (l:List Item) (k w i c s f g:Int) (h:plcP 2 l = true):g_As_l3May l k w i c s f g = true ∧ g_Vs_l3May_0 l k w i c s f g = (mayP l k w c s f g).1 ∧ g_Vs_l3May_1 l k w i c s f g = (mayP l k w c s f g).2.1 ∧ g_Vs_l3May_2 l k w i c s f g = (mayP l k w c s f g).2.2 := by
 obtain ⟨a1,a2,a3⟩ := lget l (nm 99 c) (plc_store h)
 have no1 := l3No_f [nm 99 c] (by simp)
 obtain ⟨t1,t2,t3,t4⟩ := s_trade_f l k w i c s f g h
 obtain ⟨n1,n2,n3,n4⟩ := s_next_f l k w i c s f g h
 obtain ⟨o1,o2,o3⟩ := s_out_f l k w i c s f g h
 unfold g_As_l3May g_Vs_l3May_0 g_Vs_l3May_1 g_Vs_l3May_2 mayP letP
 rw [capN 0 c,a1,a3,no1,s_SecSum_A,t1,t2,t3,t4,n1,n2,n3,n4,o1,o2,o3]
 cases (k == 2) <;> cases (k == 3) <;> cases (k == 4) <;> cases (getP l (nm 99 c)).isSome <;> exact ⟨rfl,rfl,rfl,rfl⟩
theorem s_plan_f (place:Int) (l:List Item) (tx k w i c s f g:Int) (h:plcP place l = true) (ht:0 ≤ tx ∧ tx ≤ 99):g_As_l3Plan place l tx k w i c s f g = true ∧ g_Vs_l3Plan_0 place l tx k w i c s f g = (planL place l tx k w i c s f g).1 ∧ g_Vs_l3Plan_1 place l tx k w i c s f g = (planL place l tx k w i c s f g).2.1 ∧ g_Vs_l3Plan_2 place l tx k w i c s f g = (planL place l tx k w i c s f g).2.2 := by
 unfold g_As_l3Plan g_Vs_l3Plan_0 g_Vs_l3Plan_1 g_Vs_l3Plan_2 planL
 by_cases h1:place = 1
 ·subst h1
  obtain ⟨t1,t2,t3,t4⟩ := s_in_f l k w i c s f g h
  rw [t1,t2,t3,t4]
  exact ⟨rfl,rfl,rfl,rfl⟩
 ·have e1:(place == 1) = false := by simpa using h1
  rw [e1]
  by_cases h2:place = 2
  ·subst h2
   obtain ⟨t1,t2,t3,t4⟩ := s_may_f l k w i c s f g h
   rw [t1,t2,t3,t4]
   exact ⟨rfl,rfl,rfl,rfl⟩
  ·have e2:(place == 2) = false := by simpa using h2
   obtain ⟨a1,a2,a3⟩ := lget l (nmA tx) (plc_store h)
   have no1 := l3No_f [nmA tx] (by simp)
   obtain ⟨p1,p2⟩ := plain_f tx ht
   have cp:decide (nat_lit 1 + ByteArray.size (g_Vs_l3Plain_0 tx) ≤ nat_lit 9223372036854775807) = true := decide_eq_true (Nat.le_trans (show 1 + _ ≤ 3 by omega) (by decide))
   rw [e2,p1,cp,a1,a3,no1]
   unfold doneP
   cases (getP l (nmA tx)).isSome <;> exact ⟨rfl,rfl,rfl,rfl⟩
theorem plan_small (place:Int) (l:List Item) (tx k w i c s f g:Int) (h:plcP place l = true):(planL place l tx k w i c s f g).2.2.length ≤ 40 ∧ ∀ x ∈ (planL place l tx k w i c s f g).2.2,x.2.2.length ≤ 3 := by
  have hlen := storeP_len (plc_store h)
  unfold planL inP mayP letP tradeP nextP doneP outP noP
  simp only [Bool.cond_eq_ite]
  repeat' split
  all_goals first
    | (refine ⟨?_,?_⟩ <;> simp <;> done)
    | (refine ⟨?_,fun x hx => ?_⟩
       · have := List.length_filter_le (famP w) l
         simp only [List.length_map]
         omega
       · simp only [List.mem_map] at hx
         obtain ⟨y,_,rfl⟩ := hx
         simp)
theorem cond_nf8 (a b:Bool):(bif !a then false else b) = (a&&b) := by cases a <;> rfl
theorem cond_f8 (a b:Bool):(bif a then b else false) = (a&&b) := by cases a <;> rfl
def opK (k w i c s f g:Int):Bool :=
 bif decide (k = 1) || decide (k = 5) then decide (c = 0)&&(decide (s = 0)&&(decide (f = 0)&&decide (g = 0)))
 else bif decide (k = 2) then decide (f = 0)&&decide (g = 0)
 else bif decide (k = 3) then decide (w = 0)&&(decide (i = 0)&&decide (g = 0))
 else decide (k = 4)&&(decide (w = 0)&&(decide (i = 0)&&(decide (c = 0)&&decide (s = 0))))
def opP (k w i c s f g:Int):Bool := decide (0 ≤ w ∧ w ≤ 9)&&(decide (0 ≤ i ∧ i ≤ 9)&&(decide (0 ≤ c ∧ c ≤ 9)&&(decide (0 ≤ f ∧ f ≤ 9)&&(decide (0 ≤ s ∧ s ≤ 99)&&(decide (0 ≤ g ∧ g ≤ 99)&&opK k w i c s f g)))))
theorem s_OpOk_f (k w i c s f g:Int):g_As_OpOk k w i c s f g = true ∧ g_Vs_OpOk_0 k w i c s f g = opP k w i c s f g := by
 have i1:∀ a b:Int,(a == b) = decide (a = b) := fun _ _ => rfl
 constructor
 ·simp [g_As_OpOk,(s_l1In_f _ _ _).1]
 ·have e:opP k w i c s f g = (decide (0 ≤ w ∧ w ≤ 9)&&(decide (0 ≤ i ∧ i ≤ 9)&&(decide (0 ≤ c ∧ c ≤ 9)&&(decide (0 ≤ s ∧ s ≤ 99)&&(decide (0 ≤ f ∧ f ≤ 9)&&(decide (0 ≤ g ∧ g ≤ 99)&&opK k w i c s f g)))))) := by
   unfold opP
   congr 1; congr 1; congr 1
   rw [← Bool.and_assoc,← Bool.and_assoc (decide (0 ≤ s ∧ s ≤ 99)),Bool.and_comm (decide (0 ≤ f ∧ f ≤ 9))]
  rw [e]
  simp only [g_Vs_OpOk_0,(s_l1In_f _ _ _).2,i1,cond_nf8,cond_f8,opK]
  congr 1; congr 1; congr 1; congr 1; congr 1; congr 1
  by_cases h1:k = 1
  ·subst h1; simp
  ·by_cases h5:k = 5
   ·subst h5; simp
   ·by_cases h2:k = 2
    ·subst h2; simp
    ·by_cases h3:k = 3
     ·subst h3; simp
     ·simp [h1,h2,h3,h5]
def placesP (k w i c s f g:Int):List Int :=
 bif !opP k w i c s f g then [] else bif k == 1 then [1,3] else bif k == 2 then [1,2,3] else bif k == 5 then [1,2,3] else [2,3]
theorem placesP_len (k w i c s f g:Int):(placesP k w i c s f g).length ≤ 3 := by
 unfold placesP
 cases opP k w i c s f g <;> cases (k == 1) <;> cases (k == 2) <;> cases (k == 5) <;> simp
theorem s_OpPlaces_f (k w i c s f g:Int):g_As_OpPlaces k w i c s f g = true ∧ g_Vs_OpPlaces_0 k w i c s f g = placesP k w i c s f g := by
 unfold g_As_OpPlaces g_Vs_OpPlaces_0 placesP
 simp only [(s_OpOk_f _ _ _ _ _ _ _).1,(s_OpOk_f _ _ _ _ _ _ _).2]
 cases (k == 2) <;> simp
abbrev TB_:Ty := .sl 49 (.pair .str (.sl 3 (.int .i64)))
def gloP (l:List (List (ByteArray×List Int))):Bool := decide (l.length = 3)&&(List.range l.length).all fun i => plcP ((i + 1:Nat):Int) (at_ TB_ l i)
theorem s_GloOk_f (l:List (List (ByteArray×List Int))) (hl:l.length ≤ 1048576) (hit:∀ x ∈ l,x.length ≤ 1048576 ∧ ∀ y ∈ x,y.2.length ≤ 1048576):g_As_GloOk l = true ∧ g_Vs_GloOk_0 l = gloP l := by
 have h:g_Ls_GloOk_0 l 0 = some (bif (List.range l.length).all (fun i => plcP ((i + 1:Nat):Int) (at_ TB_ l i)) then .inr () else .inl false) := by
  refine loop_all (ρ := Bool ⊕ Unit) (step := g_Ss_GloOk_0 l) (fun i:Nat => (i:Int)) (fun i => plcP ((i + 1:Nat):Int) (at_ TB_ l i)) (Sum.inl false) (Sum.inr ()) l.length (fun i hi => ?_) ?_
  ·have k1:(i:Int) < l.length := by omega
   have k2:(0:Int) ≤ (i:Int) := by omega
   have hw:IntKind.wrap .i64 ((i:Int) + 1) = ((i + 1:Nat):Int) := by rw [wrap64 (by omega)]; omega
   have hh := hit _ (at_mem (e := TB_) hi)
   obtain ⟨q1,q2⟩ := s_PlcOk_f ((i + 1:Nat):Int) _ hh.1 hh.2
   simp only [g_Ss_GloOk_0,RT.sel,cond_true,k1,k2,hw,decide_true,and_self,Int.toNat_natCast,q1,q2]
   generalize plcP _ _ = p
   cases p <;> rfl
  ·simp [g_Ss_GloOk_0,RT.sel]
 have e3:((l.length:Int) != 3) = !decide (l.length = 3) := by rw [Bool.eq_iff_iff]; simp; omega
 constructor
 ·simp [g_As_GloOk,h,okO]
 ·simp only [g_Vs_GloOk_0,h,valO,Option.getD_some,e3,gloP]
  generalize (List.range l.length).all _ = p
  generalize decide (l.length = 3) = q
  cases p <;> cases q <;> rfl
abbrev Stos:Type := List (List Item)
def smallG (l:Stos):Prop := l.length ≤ 1000 ∧ ∀ s ∈ l,s.length ≤ 1048576 ∧ ∀ x ∈ s,x.2.length ≤ 1048576
theorem l4Copy_f (l:Stos) (h:smallG l):g_As_l4Copy l = true ∧ g_Vs_l4Copy_0 l = l := by
 have L:g_Ls_l4Copy_0 l ([],0) = some (l.map id) := by
  refine loop_app (e := TB_) (step := g_Ss_l4Copy_0 l) l (fun i r => (r,i)) id id (fun i r hi hr => ?_) (fun r hr => by simp only [g_Ss_l4Copy_0,RT.sel,cond_true,Int.lt_irrefl,decide_false,cond_false,id])
  have k1:(i:Int) < l.length := by omega
  have k2:(0:Int) ≤ (i:Int) := by omega
  have hx := h.2 _ (at_mem (e := TB_) hi)
  have h1 := h.1
  obtain ⟨c1,c2⟩ := l1Copy_f (at_ TB_ l i) hx.1 hx.2
  simp only [g_Ss_l4Copy_0,RT.sel,cond_true,k1,k2,decide_true,and_self,Int.toNat_natCast,c1,c2]
  rw [capF_f r.length _ 24 (by show _ + 1 ≤ _; omega) (by decide),cond_true,wrap64 (x := (i:Int) + 1) (by omega)]
  rfl
 rw [List.map_id] at L
 unfold g_As_l4Copy g_Vs_l4Copy_0
 rw [L]
 exact ⟨rfl,rfl⟩
section
variable (l:Stos) (tx k w i c s f g:Int)
noncomputable def doP:List Int → Stos → Option Stos
 | [],out => some out
 | p :: ps,out => bif (planL p (at_ TB_ l (p - 1).toNat) tx k w i c s f g).1 then doP ps (out.set (p - 1).toNat (doS (at_ TB_ out (p - 1).toNat) (planL p (at_ TB_ l (p - 1).toNat) tx k w i c s f g).2.2)) else none
noncomputable def gloDoP:Option Stos := doP l tx k w i c s f g (placesP k w i c s f g) l
end
theorem gloP_at {l:Stos} (h:gloP l = true) {p:Int} (hp:1 ≤ p ∧ p ≤ 3):l.length = 3 ∧ plcP p (at_ TB_ l (p - 1).toNat) = true := by
 simp only [gloP,Bool.and_eq_true,decide_eq_true_eq,List.all_eq_true,List.mem_range] at h
 refine ⟨h.1,?_⟩
 have := h.2 (p - 1).toNat (by omega)
 have e:(((p - 1).toNat + 1:Nat):Int) = p := by omega
 rwa [e] at this
theorem gloP_small {l:Stos} (h:gloP l = true):smallG l := by
 have h3 := (gloP_at h (p := 1) (by omega)).1
 refine ⟨by omega,fun s hs => ?_⟩
 obtain ⟨i,hi,rfl⟩ := List.getElem_of_mem hs
 have := (gloP_at h (p := ((i + 1:Nat):Int)) (by omega)).2
 have e:(((i + 1:Nat):Int) - 1).toNat = i := by omega
 rw [e,at_eq (e := TB_) hi] at this
 have hp := plc_store this
 have := storeP_len hp
 exact ⟨by omega,fun x hx => by have := (storeP_item hp x hx).len; omega⟩
def tinyG (l:Stos):Prop := l.length = 3 ∧ ∀ s ∈ l,s.length ≤ 40 ∧ ∀ x ∈ s,x.2.length ≤ 4
theorem tinyG_small {l:Stos} (h:tinyG l):smallG l := ⟨by have := h.1; omega,fun s hs => by have := h.2 s hs; exact ⟨by omega,fun x hx => by have := this.2 x hx; omega⟩⟩
theorem gloP_tiny {l:Stos} (h:gloP l = true):tinyG l := by
 have h3 := (gloP_at h (p := 1) (by omega)).1
 refine ⟨h3,fun s hs => ?_⟩
 obtain ⟨i,hi,rfl⟩ := List.getElem_of_mem hs
 have := (gloP_at h (p := ((i + 1:Nat):Int)) (by omega)).2
 have e:(((i + 1:Nat):Int) - 1).toNat = i := by omega
 rw [e,at_eq (e := TB_) hi] at this
 have hp := plc_store this
 exact ⟨storeP_len hp,fun x hx => by have := (storeP_item hp x hx).len; omega⟩
theorem doP_tiny {l:Stos} (h:gloP l = true) (tx k w i c s f g:Int):∀ (ps:List Int) (out r:Stos),(∀ p ∈ ps,1 ≤ p ∧ p ≤ 3) → tinyG out → doP l tx k w i c s f g ps out = some r → tinyG r
 | [],out,r,_,ho,hd => by simp only [doP,Option.some.injEq] at hd; subst hd; exact ho
 | p :: ps,out,r,hp,ho,hd => by
  simp only [doP] at hd
  cases hq:(planL p (at_ TB_ l (p - 1).toNat) tx k w i c s f g).1
  ·rw [hq] at hd; cases hd
  ·rw [hq,cond_true] at hd
   have hp1 := hp p List.mem_cons_self
   have hps := plan_small p (at_ TB_ l (p - 1).toNat) tx k w i c s f g (gloP_at h hp1).2
   refine doP_tiny h tx k w i c s f g ps _ r (fun q hq => hp q (List.mem_cons_of_mem _ hq)) ⟨by rw [List.length_set]; exact ho.1,fun x hx => ?_⟩ hd
   rcases List.mem_or_eq_of_mem_set hx with hx | rfl
   ·exact ho.2 x hx
   ·have hat := ho.2 _ (at_mem (e := TB_) (l := out) (i := (p - 1).toNat) (by have := ho.1; omega))
    exact doS_small 4 _ _ hat.2 (fun y hy => by have := hps.2 y hy; omega)
theorem l4Do_f {l:Stos} (h:gloP l = true) (tx k w i c s f g:Int) (ht:0 ≤ tx ∧ tx ≤ 29):g_As_l4Do l tx k w i c s f g = true ∧ g_Vs_l4Do_0 l tx k w i c s f g = (gloDoP l tx k w i c s f g).getD l ∧ g_Vs_l4Do_1 l tx k w i c s f g = (gloDoP l tx k w i c s f g).isSome := by
 obtain ⟨a1,a2⟩ := s_OpPlaces_f k w i c s f g
 obtain ⟨b1,b2⟩ := l4Copy_f l (gloP_small h)
 have hpl:∀ p ∈ placesP k w i c s f g,1 ≤ p ∧ p ≤ 3 := by
  unfold placesP
  cases opP k w i c s f g <;> cases (k == 1) <;> cases (k == 2) <;> cases (k == 5) <;> simp
 have hlen := placesP_len k w i c s f g
 have h3 := (gloP_at h (p := 1) (by omega)).1
 unfold g_As_l4Do g_Vs_l4Do_0 g_Vs_l4Do_1 gloDoP
 rw [a1,a2,b1,b2]
 generalize placesP k w i c s f g = ps at hpl hlen
 have L:∃ r,g_Ls_l4Do_0 l tx ps k w i c s f g (l,0) = some r ∧ match r with
   | .inl q => q.1 = false ∧ doP l tx k w i c s f g ps l = none
   | .inr q => doP l tx k w i c s f g ps l = some q := by
  refine loop_inv (step := g_Ss_l4Do_0 l tx ps k w i c s f g) (fun x => 0 ≤ x.2 ∧ x.2.toNat ≤ ps.length ∧ tinyG x.1 ∧ doP l tx k w i c s f g (ps.drop x.2.toNat) x.1 = doP l tx k w i c s f g ps l) _ (fun x => ps.length - x.2.toNat) ?_ _ ⟨by simp,by simp,gloP_tiny h,by simp⟩
  rintro ⟨out,j⟩ ⟨i1,i2,i3,i4⟩
  simp only at i1 i2 i3 i4
  by_cases hj:j < (ps.length:Int)
  ·have hn:j.toNat < ps.length := by omega
   rw [List.drop_eq_getElem_cons hn] at i4
   have hp := hpl _ (List.getElem_mem hn)
   have hat:at_ (.int .i64) ps j.toNat = ps[j.toNat] := at_eq (e := .int .i64) hn
   generalize ps[j.toNat] = p at hp i4 hat
   have hq := (gloP_at h hp).2
   have e1:(j + 1).toNat = j.toNat + 1 := by omega
   obtain ⟨p1,p2,p3,p4⟩ := s_plan_f p (at_ TB_ l (p - 1).toNat) tx k w i c s f g hq (by omega)
   have hps := plan_small p (at_ TB_ l (p - 1).toNat) tx k w i c s f g hq
   have hto := i3.2 _ (at_mem (e := TB_) (l := out) (i := (p - 1).toNat) (by have := i3.1; omega))
   obtain ⟨d1,d2⟩ := s_StoDo_f (at_ TB_ out (p - 1).toNat) (planL p (at_ TB_ l (p - 1).toNat) tx k w i c s f g).2.2 (by omega) (fun x hx => by have := hto.2 x hx; omega) (by omega) (fun x hx => by have := hps.2 x hx; omega)
   have u1:decide ((0:Int) ≤ j ∧ j < (ps.length:Int)) = true := decide_eq_true ⟨i1,hj⟩
   have u2:decide (Int.toNat j < List.length ps) = true := decide_eq_true hn
   have hw:IntKind.wrap .i64 (p - 1) = p - 1 := wrap64 (by omega)
   have u3:decide ((0:Int) ≤ p - 1 ∧ p - 1 < (l.length:Int)) = true := decide_eq_true (by omega)
   have ho := i3.1
   have u4:decide ((0:Int) ≤ p - 1 ∧ p - 1 < (out.length:Int)) = true := decide_eq_true (by omega)
   have u5:decide (Int.toNat (p - 1) < out.length) = true := decide_eq_true (by omega)
   have sel:(g_Ss_l4Do_0 l tx ps k w i c s f g (out,j)).sel = bif (planL p (at_ TB_ l (p - 1).toNat) tx k w i c s f g).1 then .go (out.set (p - 1).toNat (doS (at_ TB_ out (p - 1).toNat) (planL p (at_ TB_ l (p - 1).toNat) tx k w i c s f g).2.2),j + 1) else .out (.inl (false,out)) := by
    simp only [g_Ss_l4Do_0,RT.sel,decide_eq_true hj,u1,u2,u3,u4,u5,cond_true,hat,hw,p1,p2,p4,d1,d2,wrap64 (x := j + 1) (by omega)]
    generalize (planL p (at_ TB_ l (p - 1).toNat) tx k w i c s f g).1 = b
    cases b <;> rfl
   simp only [doP] at i4
   cases hb:(planL p (at_ TB_ l (p - 1).toNat) tx k w i c s f g).1
   ·rw [hb] at sel i4
    exact .inr ⟨_,sel,rfl,i4.symm⟩
   ·rw [hb,cond_true] at sel i4
    refine .inl ⟨_,sel,⟨by simp only; omega,by simp only; omega,⟨by rw [List.length_set]; exact ho,fun x hx => ?_⟩,?_⟩,by simp only; omega⟩
    ·rcases List.mem_or_eq_of_mem_set hx with hx | rfl
     ·exact i3.2 x hx
     ·exact doS_small 4 _ _ hto.2 (fun y hy => by have := hps.2 y hy; omega)
    ·simp only [e1]
     exact i4
  ·refine .inr ⟨.inr out,?_,?_⟩
   ·simp only [g_Ss_l4Do_0,RT.sel,hj,decide_false,cond_true,cond_false]
   ·rw [List.drop_of_length_le (by omega)] at i4
    simp only [doP] at i4
    exact i4.symm
 obtain ⟨r,e1,e2⟩ := L
 rw [e1]
 cases r with
 | inl q =>
  obtain ⟨e2,e3⟩ := e2
  rw [e3]
  simp only [okO,valO,isL,getL,Option.isSome_some,Option.getD_some,Option.getD_none,Option.isSome_none,cond_true,e2,Bool.and_self,and_self]
 | inr q =>
  rw [e2]
  simp only [okO,valO,isL,getR,Option.isSome_some,Option.getD_some,cond_false,Bool.and_self,and_self]
theorem s_GloDo_f (l:Stos) (tx k w i c s f g:Int) (hs:smallG l) :
  g_As_GloDo l tx k w i c s f g = true ∧ g_Vs_GloDo_0 l tx k w i c s f g = (bif gloP l&&(opP k w i c s f g&&decide (0 ≤ tx ∧ tx ≤ 29)) then (gloDoP l tx k w i c s f g).getD l else []) ∧ g_Vs_GloDo_1 l tx k w i c s f g = ((gloP l&&(opP k w i c s f g&&decide (0 ≤ tx ∧ tx ≤ 29)))&&(gloDoP l tx k w i c s f g).isSome) := by
 obtain ⟨a1,a2⟩ := s_GloOk_f l (by have := hs.1; omega) hs.2
 obtain ⟨b1,b2⟩ := s_OpOk_f k w i c s f g
 unfold g_As_GloDo g_Vs_GloDo_0 g_Vs_GloDo_1
 rw [a1,a2,b1,b2,(s_l1In_f _ _ _).1,(s_l1In_f _ _ _).2]
 cases hg:gloP l
 ·exact ⟨rfl,rfl,rfl⟩
 ·cases ho:opP k w i c s f g
  ·exact ⟨rfl,rfl,rfl⟩
  ·by_cases ht:0 ≤ tx ∧ tx ≤ 29
   ·obtain ⟨c1,c2,c3⟩ := l4Do_f hg tx k w i c s f g ht
    have hsm:smallG ((gloDoP l tx k w i c s f g).getD l) := by
     cases hd:gloDoP l tx k w i c s f g with
     | none => exact hs
     | some r =>
      refine tinyG_small (doP_tiny hg tx k w i c s f g _ l r ?_ (gloP_tiny hg) hd)
      unfold placesP
      cases opP k w i c s f g <;> cases (k == 1) <;> cases (k == 2) <;> cases (k == 5) <;> simp
    obtain ⟨d1,d2⟩ := l4Copy_f _ hsm
    rw [c1,c2,c3,d1,d2,decide_eq_true ht]
    exact ⟨rfl,rfl,rfl⟩
   ·rw [decide_eq_false ht]
    exact ⟨rfl,rfl,rfl⟩
noncomputable def keyD (r0:List Int) (r1 n:Int):Int := g_Vs_l20Key_2 r0 r1 n - r1
theorem two_at (a b c:Int) (i:Nat) (ha:0 ≤ a ∧ a ≤ c) (hb:0 ≤ b ∧ b ≤ c) (hi:i < 2):0 ≤ at_ (.int .i64) [a,b] i ∧ at_ (.int .i64) [a,b] i ≤ c := by
 have:i = 0 ∨ i = 1 := by omega
 rcases this with rfl | rfl
 ·exact ha
 ·exact hb
theorem key_f (r0:List Int) (r1 n:Int) (h:0 ≤ r1 ∧ r1 ≤ 99990) (hr:RdOk r0):g_As_l20Key r0 r1 n = true ∧ g_Vs_l20Key_2 r0 r1 n = r1 + keyD r0 r1 n % 8 ∧ (g_Vs_l20Key_0 r0 r1 n).size ≤ 4 := by
 have p4 := pick_f r0 (r1 + 1) 4 (by omega) (by omega) hr
 have p30 := pick_f r0 (r1 + 1 + 1) 30 (by omega) (by omega) hr
 have p2 := pick_f r0 (r1 + 1 + 1 + 1) 2 (by omega) (by omega) hr
 have pl := two_at (g_pick r0 (r1 + 1) 4) (g_pick r0 (r1 + 1 + 1) 30) 29 (g_pick r0 (r1 + 1 + 1 + 1) 2).toNat (by omega) (by omega) (by omega)
 obtain ⟨q1,q2⟩ := plain_f (at_ (.int .i64) [g_pick r0 (r1 + 1) 4,g_pick r0 (r1 + 1 + 1) 30] (g_pick r0 (r1 + 1 + 1 + 1) 2).toNat) ⟨pl.1,Int.le_trans pl.2 (by decide)⟩
 have s1:∀ i,i < 5 → (at_ .str [lit [115],lit [99],lit [102],lit [117],lit [97]] i).size = 1 := fun i hi => at_all (e := .str) (P := fun x:ByteArray => x.size = 1) (by intro x hx; simp at hx; rcases hx with rfl | rfl | rfl | rfl | rfl <;> rfl) hi
 have s2:∀ i,i < 6 → (at_ .str [lit [],lit [115],lit [83,49],lit [115,49,50,51],lit [49,115],lit [115,97]] i).size ≤ 4 := fun i hi => at_all (e := .str) (P := fun x:ByteArray => x.size ≤ 4) (by intro x hx; simp at hx; rcases hx with rfl | rfl | rfl | rfl | rfl | rfl <;> decide) hi
 have p5 := pick_f r0 r1 5 (by omega) (by omega) hr
 have s1 := s1 (g_pick r0 r1 5).toNat (by omega)
 refine ⟨?_,?_,?_⟩
 ·unfold g_As_l20Key
  simp (disch := first | omega | assumption) only [wrapL,pickA_f',oddA_f',oddP_f,pickD_f,pickN_f,List.length_cons,List.length_nil,Bool.true_and,q1,s1]
  rw [decide_eq_true (by omega)]
  simp (disch := first | omega | assumption) [pickA_f',pickD_f,pickN_f]
 ·unfold keyD g_Vs_l20Key_2
  simp (disch := first | omega | assumption) only [wrapL,oddP_f]
  generalize g_Vs_l20Rd_odd_0 r0 _ n = b
  cases b <;> simp only [cond_true,cond_false] <;> omega
 ·unfold g_Vs_l20Key_0
  simp (disch := first | omega | assumption) only [wrapL,oddP_f]
  generalize g_Vs_l20Rd_odd_0 r0 _ n = b
  cases b
  ·rw [cond_false,ByteArray.size_append]; omega
  ·rw [cond_true]
   have p6 := pick_f r0 (r1 + 1 + 1 + 1 + 1 + oddD n % 2) 6 (by omega) (by omega) hr
   exact s2 _ (by omega)
noncomputable def valD (r0:List Int) (r1 n:Int):Int := g_Vs_l20Val_2 r0 r1 n - r1
theorem val_f (r0:List Int) (r1 n:Int) (h:0 ≤ r1 ∧ r1 ≤ 99980) (hr:RdOk r0):g_As_l20Val r0 r1 n = true ∧ g_Vs_l20Val_2 r0 r1 n = r1 + valD r0 r1 n % 16 ∧ (g_Vs_l20Val_0 r0 r1 n).length ≤ 4 := by
 have p4 := pick_f r0 r1 4 (by omega) (by omega) hr
 have p3 := pick_f r0 (r1 + 1) 3 (by omega) (by omega) hr
 have L:∃ r,g_Ls_l20Val_0 n r0 ([g_pick r0 r1 4],g_pick r0 (r1 + 1) 3,r1 + 1 + 1) = some r ∧ r.1.length ≤ 4 ∧ 0 ≤ r.2 - r1 ∧ r.2 - r1 ≤ 6 := by
  refine loop_inv (step := g_Ss_l20Val_0 n r0) (fun x => x.1.length + x.2.1.toNat ≤ 3 ∧ 0 ≤ x.2.2 - r1 ∧ x.2.2 - r1 + x.2.1.toNat ≤ 6) (fun r => r.1.length ≤ 4 ∧ 0 ≤ r.2 - r1 ∧ r.2 - r1 ≤ 6) (fun x => x.2.1.toNat) ?_ _ ⟨by simp; omega,by simp; omega,by simp; omega⟩
  rintro ⟨l,k,p⟩ ⟨i1,i2,i3⟩
  simp only at i1 i2 i3
  by_cases hk:k > 0
  ·refine .inl ⟨(l ++ [g_pick r0 p 12],k - 1,p + 1),?_,?_,?_⟩
   ·simp only [g_Ss_l20Val_0,RT.sel,hk,decide_true,cond_true]
    rw [pickA_f' r0 p 12 (by omega) (by omega) hr,cond_true,decide_eq_true (by simp only [List.length_cons,List.length_nil]; omega),cond_true,wrap64 (by omega),wrapL (by omega)]
   ·simp only [List.length_append,List.length_cons,List.length_nil]
    omega
   ·simp only; omega
  ·refine .inr ⟨(l,p),?_,?_⟩
   ·simp only [g_Ss_l20Val_0,RT.sel,hk,decide_false,cond_true,cond_false]
   ·simp only; omega
 obtain ⟨⟨l,p⟩,e,b1,b2,b3⟩ := L
 simp only at b1 b2 b3
 have s2:∀ i,i < 4 → (at_ (.sl 3 (.int .i64)) [[],[-1],[10000],[1,2,3,4]] i).length ≤ 4 := fun i hi => at_all (e := .sl 3 (.int .i64)) (P := fun x:List Int => x.length ≤ 4) (by intro x hx; simp at hx; rcases hx with rfl | rfl | rfl | rfl <;> decide) hi
 refine ⟨?_,?_,?_⟩
 ·unfold g_As_l20Val
  simp (disch := first | omega | assumption) only [wrapL,e,okO,valO,Option.isSome_some,Option.getD_some,pickA_f',oddA_f',oddP_f,pickD_f,pickN_f,Bool.true_and,Bool.and_true,Bool.or_true]
 ·unfold valD g_Vs_l20Val_2
  simp (disch := first | omega | assumption) only [wrapL,e,valO,Option.getD_some,oddP_f]
  generalize g_Vs_l20Rd_odd_0 r0 _ n = b
  cases b <;> simp only [cond_true,cond_false] <;> omega
 ·unfold g_Vs_l20Val_0
  simp (disch := first | omega | assumption) only [wrapL,e,valO,Option.getD_some,oddP_f]
  generalize g_Vs_l20Rd_odd_0 r0 _ n = b
  cases b
  ·exact b1
  ·rw [cond_true]
   have p6 := pick_f r0 (p + oddD n % 2) 4 (by omega) (by omega) hr
   exact s2 _ (by omega)
noncomputable def writeD (r0:List Int) (r1 n:Int):Int := g_Vs_l20Write_4 r0 r1 n - r1
theorem write_f (r0:List Int) (r1 n:Int) (h:0 ≤ r1 ∧ r1 ≤ 99900) (hr:RdOk r0):g_As_l20Write r0 r1 n = true ∧ g_Vs_l20Write_4 r0 r1 n = r1 + writeD r0 r1 n % 32 ∧ (g_Vs_l20Write_0 r0 r1 n).size ≤ 4 ∧ (g_Vs_l20Write_2 r0 r1 n).length ≤ 4 := by
 obtain ⟨k1,k2,k3⟩ := key_f r0 r1 n (by omega) hr
 have p3 := pick_f r0 (r1 + keyD r0 r1 n % 8) 3 (by omega) (by omega) hr
 obtain ⟨v1,v2,v3⟩ := val_f r0 (r1 + keyD r0 r1 n % 8 + 1) n (by omega) hr
 refine ⟨?_,?_,?_,?_⟩
 ·unfold g_As_l20Write
  simp (disch := first | omega | assumption) only [k1,k2,v1,wrapL,pickA_f',oddA_f',Bool.true_and,Bool.cond_self]
 ·unfold writeD g_Vs_l20Write_4
  simp (disch := first | omega | assumption) only [k2,v2,wrapL,oddP_f,Bool.cond_self]
  cases (g_pick r0 (r1 + keyD r0 r1 n % 8) 3 == 0) <;> simp only [cond_true,cond_false] <;> omega
 ·unfold g_Vs_l20Write_0
  simp only [Bool.cond_self]
  exact k3
 ·unfold g_Vs_l20Write_2
  simp (disch := first | omega | assumption) only [k2,wrapL]
  cases (g_pick r0 (r1 + keyD r0 r1 n % 8) 3 == 0)
  ·exact v3
  ·rw [cond_true]
   generalize g_Vs_l20Rd_odd_0 r0 _ n = b
   cases b <;> decide
noncomputable def opD (r0:List Int) (r1 n:Int):Int := g_Vs_l20Op_8 r0 r1 n - r1
theorem opA_f (r0:List Int) (r1 n:Int) (h:0 ≤ r1 ∧ r1 ≤ 99900) (hr:RdOk r0):g_As_l20Op r0 r1 n = true := by
 unfold g_As_l20Op
 have o := oddP_f r0
 have d := fun n => (show 0 ≤ oddD n % 2 ∧ oddD n % 2 < 2 by omega)
 simp (disch := first | omega | assumption) only [wrapL,pickA_f',oddA_f',oddP_f,pickD_f,pickN_f,List.length_cons,List.length_nil,Bool.true_and,Bool.cond_self,Bool.or_true]
theorem opP_f (r0:List Int) (r1 n:Int) (h:0 ≤ r1 ∧ r1 ≤ 99900) (hr:RdOk r0):g_Vs_l20Op_8 r0 r1 n = r1 + opD r0 r1 n % 16 := by
 unfold opD g_Vs_l20Op_8
 simp (disch := first | omega | assumption) only [wrapL,oddP_f]
 simp only [Bool.cond_eq_ite]
 repeat' split
 all_goals omega
theorem places_in (k w i c s f g:Int):∀ p ∈ placesP k w i c s f g,1 ≤ p ∧ p ≤ 3 := by
 unfold placesP
 cases opP k w i c s f g <;> cases (k == 1) <;> cases (k == 2) <;> cases (k == 5) <;> simp
theorem gloDo_tiny (l:Stos) (tx k w i c s f g:Int) (hs:tinyG l) (h:g_Vs_GloDo_1 l tx k w i c s f g = true):tinyG (g_Vs_GloDo_0 l tx k w i c s f g) := by
 obtain ⟨_,a2,a3⟩ := s_GloDo_f l tx k w i c s f g (tinyG_small hs)
 rw [a3] at h
 simp only [Bool.and_eq_true] at h
 rw [a2,h.1.1,h.1.2.1,h.1.2.2]
 obtain ⟨r,hr⟩ := Option.isSome_iff_exists.1 h.2
 rw [hr]
 exact doP_tiny h.1.1 tx k w i c s f g _ l r (places_in k w i c s f g) hs hr
noncomputable def gloD (r0:List Int) (r1:Int):Int := g_Vs_l20Glo_1 r0 r1 - r1
theorem glo_f (r0:List Int) (r1:Int) (h:0 ≤ r1 ∧ r1 ≤ 99000) (hr:RdOk r0):g_As_l20Glo r0 r1 = true ∧ g_Vs_l20Glo_1 r0 r1 = r1 + gloD r0 r1 % 512 ∧ tinyG (g_Vs_l20Glo_0 r0 r1) := by
 have hp := pick_f r0 r1 14 (by omega) (by omega) hr
 have L:∃ r,g_Ls_l20Glo_0 r0 (g_Vs_GloNew_0,g_pick r0 r1 14,r1 + 1) = some r ∧ (r1 ≤ r.2 ∧ r.2 < r1 + 512 ∧ tinyG r.1) := by
  refine loop_inv (step := g_Ss_l20Glo_0 r0) (fun x => 0 ≤ x.2.1 ∧ x.2.1 ≤ 13 ∧ r1 ≤ x.2.2 ∧ x.2.2 ≤ r1 + 1 + 16 * (13 - x.2.1) ∧ tinyG x.1) _ (fun x => x.2.1.toNat) ?_ _ ⟨by simp only; omega,by simp only; omega,by simp only; omega,by simp only; omega,⟨rfl,by simp [g_Vs_GloNew_0]⟩⟩
  rintro ⟨l,k,p⟩ ⟨i1,i2,i3,i4,i5⟩
  simp only at i1 i2 i3 i4 i5
  by_cases hk:k > 0
  ·have o1 := opA_f r0 p 0 (by omega) hr
   have o2 := opP_f r0 p 0 (by omega) hr
   obtain ⟨a1,_,_⟩ := s_GloDo_f l k (g_Vs_l20Op_0 r0 p 0) (g_Vs_l20Op_1 r0 p 0) (g_Vs_l20Op_2 r0 p 0) (g_Vs_l20Op_3 r0 p 0) (g_Vs_l20Op_4 r0 p 0) (g_Vs_l20Op_5 r0 p 0) (g_Vs_l20Op_6 r0 p 0) (tinyG_small i5)
   have ht := gloDo_tiny l k (g_Vs_l20Op_0 r0 p 0) (g_Vs_l20Op_1 r0 p 0) (g_Vs_l20Op_2 r0 p 0) (g_Vs_l20Op_3 r0 p 0) (g_Vs_l20Op_4 r0 p 0) (g_Vs_l20Op_5 r0 p 0) (g_Vs_l20Op_6 r0 p 0) i5
   have hw:IntKind.wrap .i64 (k - 1) = k - 1 := wrap64 (by omega)
   have sel:(g_Ss_l20Glo_0 r0 (l,k,p)).sel = .go (bif g_Vs_GloDo_1 l k (g_Vs_l20Op_0 r0 p 0) (g_Vs_l20Op_1 r0 p 0) (g_Vs_l20Op_2 r0 p 0) (g_Vs_l20Op_3 r0 p 0) (g_Vs_l20Op_4 r0 p 0) (g_Vs_l20Op_5 r0 p 0) (g_Vs_l20Op_6 r0 p 0) then g_Vs_GloDo_0 l k (g_Vs_l20Op_0 r0 p 0) (g_Vs_l20Op_1 r0 p 0) (g_Vs_l20Op_2 r0 p 0) (g_Vs_l20Op_3 r0 p 0) (g_Vs_l20Op_4 r0 p 0) (g_Vs_l20Op_5 r0 p 0) (g_Vs_l20Op_6 r0 p 0) else l,k - 1,p + opD r0 p 0 % 16) := by
    simp only [g_Ss_l20Glo_0,RT.sel,decide_eq_true hk,cond_true,o1,a1,o2,hw]
    generalize g_Vs_GloDo_1 l k (g_Vs_l20Op_0 r0 p 0) (g_Vs_l20Op_1 r0 p 0) (g_Vs_l20Op_2 r0 p 0) (g_Vs_l20Op_3 r0 p 0) (g_Vs_l20Op_4 r0 p 0) (g_Vs_l20Op_5 r0 p 0) (g_Vs_l20Op_6 r0 p 0) = b
    cases b <;> rfl
   refine .inl ⟨_,sel,⟨by simp only; omega,by simp only; omega,by simp only; omega,by simp only; omega,?_⟩,by simp only; omega⟩
   revert ht
   generalize g_Vs_GloDo_1 l k (g_Vs_l20Op_0 r0 p 0) (g_Vs_l20Op_1 r0 p 0) (g_Vs_l20Op_2 r0 p 0) (g_Vs_l20Op_3 r0 p 0) (g_Vs_l20Op_4 r0 p 0) (g_Vs_l20Op_5 r0 p 0) (g_Vs_l20Op_6 r0 p 0) = b
   intro ht
   cases b
   ·exact i5
   ·exact ht rfl
  ·refine .inr ⟨(l,p),?_,by simp only; omega,by simp only; omega,i5⟩
   simp only [g_Ss_l20Glo_0,RT.sel,decide_eq_false hk,cond_true,cond_false]
 obtain ⟨r,e1,e2,e3,e4⟩ := L
 have hw:IntKind.wrap .i64 (r1 + 1) = r1 + 1 := wrapS (by omega)
 refine ⟨?_,?_,?_⟩
 ·unfold g_As_l20Glo
  rw [pickA_f' r0 r1 14 (by omega) (by omega) hr,hw,e1]
  rfl
 ·unfold gloD g_Vs_l20Glo_1
  rw [hw,e1]
  simp only [valO,Option.getD_some]
  omega
 ·unfold g_Vs_l20Glo_0
  rw [hw,e1]
  exact e4
theorem capD_f (a b k:Nat) (h:a + b ≤ 100000) (hk:k ≤ 1000):decide ((a + b) * k ≤ nat_lit 140737488355328 ∧ a + b ≤ nat_lit 9223372036854775807) = true := by
 refine decide_eq_true ⟨Nat.le_trans (Nat.mul_le_mul h hk) (by decide),by show a + b ≤ 9223372036854775807; omega⟩
def smallW (w:ByteArray×Bool×List Int):Prop := w.1.size ≤ 4 ∧ w.2.2.length ≤ 4
noncomputable def writesD (r0:List Int) (r1 n:Int):Int := g_Vs_l20Writes_2 r0 r1 n - r1
theorem writes_f (r0:List Int) (r1 n:Int) (h:0 ≤ r1 ∧ r1 ≤ 99000) (hr:RdOk r0):g_As_l20Writes r0 r1 n = true ∧ g_Vs_l20Writes_2 r0 r1 n = r1 + writesD r0 r1 n % 256 ∧ (g_Vs_l20Writes_0 r0 r1 n).length ≤ 6 ∧ ∀ w ∈ g_Vs_l20Writes_0 r0 r1 n,smallW w := by
 have p6 := pick_f r0 r1 6 (by omega) (by omega) hr
 have L:∃ r,g_Ls_l20Writes_0 n r0 ([],g_pick r0 r1 6,r1 + 1) = some r ∧ r.1.length ≤ 5 ∧ (∀ w ∈ r.1,smallW w) ∧ 0 ≤ r.2 - r1 ∧ r.2 - r1 ≤ 156 := by
  refine loop_inv (step := g_Ss_l20Writes_0 n r0) (fun x => x.1.length + x.2.1.toNat ≤ 5 ∧ (∀ w ∈ x.1,smallW w) ∧ 0 ≤ x.2.2 - r1 ∧ x.2.2 - r1 + 31 * x.2.1.toNat ≤ 156) (fun r => r.1.length ≤ 5 ∧ (∀ w ∈ r.1,smallW w) ∧ 0 ≤ r.2 - r1 ∧ r.2 - r1 ≤ 156) (fun x => x.2.1.toNat) ?_ _ ⟨by simp; omega,by simp,by simp; omega,by simp; omega⟩
  rintro ⟨l,k,p⟩ ⟨i1,i2,i3,i4⟩
  simp only at i1 i2 i3 i4
  by_cases hk:k > 0
  ·obtain ⟨w1,w2,w3,w4⟩ := write_f r0 p 0 (by omega) hr
   refine .inl ⟨(l ++ [(g_Vs_l20Write_0 r0 p 0,g_Vs_l20Write_1 r0 p 0,g_Vs_l20Write_2 r0 p 0)],k - 1,p + writeD r0 p 0 % 32),?_,?_,?_⟩
   ·simp only [g_Ss_l20Writes_0,RT.sel,hk,decide_true,cond_true,w1,w2]
    rw [capD_f _ _ _ (by simp only [List.length_cons,List.length_nil]; omega) (by decide),cond_true,wrap64 (by omega)]
   ·refine ⟨by simp only [List.length_append,List.length_cons,List.length_nil]; omega,?_,by simp only; omega,by simp only; omega⟩
    intro w hw
    simp only [List.mem_append,List.mem_cons,List.not_mem_nil,or_false] at hw
    rcases hw with hw | rfl
    ·exact i2 w hw
    ·exact ⟨w3,w4⟩
   ·simp only; omega
  ·refine .inr ⟨(l,p),?_,?_⟩
   ·simp only [g_Ss_l20Writes_0,RT.sel,hk,decide_false,cond_true,cond_false]
   ·exact ⟨by simp only; omega,i2,by simp only; omega,by simp only; omega⟩
 obtain ⟨⟨l,p⟩,e,b1,b2,b3,b4⟩ := L
 simp only at b1 b2 b3 b4
 obtain ⟨w1,w2,w3,w4⟩ := write_f r0 (p + oddD n % 2) 2 (by omega) hr
 refine ⟨?_,?_,?_,?_⟩
 ·unfold g_As_l20Writes
  simp (disch := first | omega | assumption) only [wrapL,e,okO,valO,Option.isSome_some,Option.getD_some,pickA_f',oddA_f',oddP_f,w1,Bool.true_and]
  rw [capD_f _ _ _ (by simp only [List.length_cons,List.length_nil]; omega) (by decide),Bool.or_true]
 ·unfold writesD g_Vs_l20Writes_2
  simp (disch := first | omega | assumption) only [wrapL,e,valO,Option.getD_some,oddP_f,w2]
  generalize g_Vs_l20Rd_odd_0 r0 _ n = b
  cases b <;> simp only [cond_true,cond_false] <;> omega
 ·unfold g_Vs_l20Writes_0
  simp (disch := first | omega | assumption) only [wrapL,e,valO,Option.getD_some,oddP_f]
  generalize g_Vs_l20Rd_odd_0 r0 _ n = b
  cases b
  ·rw [cond_false]; omega
  ·rw [cond_true,List.length_append,List.length_cons,List.length_nil]; omega
 ·unfold g_Vs_l20Writes_0
  simp (disch := first | omega | assumption) only [wrapL,e,valO,Option.getD_some,oddP_f]
  generalize g_Vs_l20Rd_odd_0 r0 _ n = b
  cases b
  ·exact b2
  ·rw [cond_true]
   intro w hw
   simp only [List.mem_append,List.mem_cons,List.not_mem_nil,or_false] at hw
   rcases hw with hw | rfl
   ·exact b2 w hw
   ·exact ⟨w3,w4⟩
noncomputable def stoD (r0:List Int) (r1 n:Int):Int := g_Vs_l20Sto_2 r0 r1 n - r1
def smallS (l:List (ByteArray×List Int)):Prop := l.length ≤ 100 ∧ ∀ x ∈ l,x.2.length ≤ 4
theorem smallS_one {l:List (ByteArray×List Int)} (h1:l.length ≤ 40) (h2:∀ x ∈ l,x.2.length ≤ 4) (k:ByteArray) (v:List Int) (hv:v.length ≤ 4):smallS (l ++ [(k,v)]) := by
 refine ⟨by rw [List.length_append,List.length_cons,List.length_nil]; omega,fun x hx => ?_⟩
 simp only [List.mem_append,List.mem_cons,List.not_mem_nil,or_false] at hx
 rcases hx with hx | rfl
 ·exact h2 x hx
 ·exact hv
theorem stoLoop_f (a:List (ByteArray×List Int)) (b:List Int) (c:Int) (l:List (ByteArray×List Int)) (h1:l.length ≤ 40) (h2:∀ x ∈ l,x.2.length ≤ 4):∃ r,g_Ls_l20Sto_1 a b c l = some r ∧ smallS r := by
 refine loop_inv (step := g_Ss_l20Sto_1 a b c) (fun y => y.length ≤ 41 ∧ ∀ x ∈ y,x.2.length ≤ 4) _ (fun y => 100 - y.length) ?_ _ ⟨by omega,h2⟩
 rintro y ⟨i1,i2⟩
 by_cases hk:(y.length:Int) ≤ 40
 ·refine .inl ⟨y ++ [(lit [122,57],[1])],?_,?_,?_⟩
  ·simp only [g_Ss_l20Sto_1,RT.sel,hk,decide_true,cond_true]
   rw [capD_f _ _ _ (by show _ + 1 ≤ _; omega) (by decide),cond_true]
  ·refine ⟨by rw [List.length_append,List.length_cons,List.length_nil]; omega,fun x hx => ?_⟩
   simp only [List.mem_append,List.mem_cons,List.not_mem_nil,or_false] at hx
   rcases hx with hx | rfl
   ·exact i2 x hx
   ·decide
  ·rw [List.length_append,List.length_cons,List.length_nil]; omega
 ·refine .inr ⟨y,?_,by omega,i2⟩
  simp only [g_Ss_l20Sto_1,RT.sel,hk,decide_false,cond_true,cond_false]
theorem sto_f (r0:List Int) (r1 n:Int) (h:0 ≤ r1 ∧ r1 ≤ 97000) (hr:RdOk r0):g_As_l20Sto r0 r1 n = true ∧ g_Vs_l20Sto_2 r0 r1 n = r1 + stoD r0 r1 n % 1024 ∧ smallS (g_Vs_l20Sto_0 r0 r1 n) := by
 obtain ⟨a1,a2,a3,a4⟩ := writes_f r0 r1 0 (by omega) hr
 obtain ⟨b1,b2,b3,b4⟩ := writes_f r0 (r1 + writesD r0 r1 0 % 256) 0 (by omega) hr
 have hw:∀ w ∈ g_Vs_l20Writes_0 r0 r1 0 ++ g_Vs_l20Writes_0 r0 (r1 + writesD r0 r1 0 % 256) 0,w.2.2.length ≤ 4 := by
  intro w hw
  rcases List.mem_append.1 hw with hw | hw
  ·exact (a4 w hw).2
  ·exact (b4 w hw).2
 obtain ⟨d1,d2⟩ := s_StoDo_f [] (g_Vs_l20Writes_0 r0 r1 0 ++ g_Vs_l20Writes_0 r0 (r1 + writesD r0 r1 0 % 256) 0) (by decide) (by simp) (by rw [List.length_append]; omega) (fun w h => by have := hw w h; omega)
 obtain ⟨e1,e2⟩ := doS_small 4 [] (g_Vs_l20Writes_0 r0 r1 0 ++ g_Vs_l20Writes_0 r0 (r1 + writesD r0 r1 0 % 256) 0) (by simp) hw
 obtain ⟨v1,v2,v3⟩ := val_f r0 (r1 + writesD r0 r1 0 % 256 + writesD r0 (r1 + writesD r0 r1 0 % 256) 0 % 256 + oddD n % 2 + 1) 1 (by omega) hr
 obtain ⟨r,l1,l2⟩ := stoLoop_f [] r0 (r1 + writesD r0 r1 0 % 256 + writesD r0 (r1 + writesD r0 r1 0 % 256) 0 % 256 + oddD n % 2 + 1) _ e1 e2
 refine ⟨?_,?_,?_⟩
 ·unfold g_As_l20Sto
  simp (disch := first | omega | assumption) only [wrapL,a1,a2,b1,b2,d1,d2,v1,l1,okO,Option.isSome_some,pickA_f',oddA_f',oddP_f,capD_f,List.length_cons,List.length_nil,Bool.true_and,Bool.cond_self,Bool.or_true]
 ·unfold stoD g_Vs_l20Sto_2
  simp (disch := first | omega | assumption) only [wrapL,a2,b2,v2,oddP_f]
  simp only [Bool.cond_eq_ite]
  repeat' split
  all_goals omega
 ·unfold g_Vs_l20Sto_0
  simp (disch := first | omega | assumption) only [wrapL,a2,b2,d2,v2,l1,valO,Option.getD_some,oddP_f]
  simp only [Bool.cond_eq_ite]
  repeat' split
  ·exact smallS_one e1 e2 _ _ (by decide)
  ·exact smallS_one e1 e2 _ _ v3
  ·exact l2
  ·exact ⟨by omega,e2⟩
theorem toNat_lt3 {x:Int} (h:0 ≤ x ∧ x < 3):x.toNat < 3 := by omega
theorem tab6 (i:Nat) (h:i < 6):0 ≤ at_ (.int .i64) [0,0,0,0,1,2] i ∧ at_ (.int .i64) [0,0,0,0,1,2] i < 3 := by
 match i,h with
 | 0,_ | 1,_ | 2,_ | 3,_ | 4,_ | 5,_ => exact ⟨by decide,by decide⟩
theorem tab6D (r0:List Int) (r1:Int) (a b c:Int) (h:0 ≤ r1 ∧ r1 ≤ 100000) (hr:RdOk r0):decide ((0:Int) ≤ at_ (Ty.int IntKind.i64) [(0:Int),(0:Int),(0:Int),(0:Int),(1:Int),(2:Int)] (Int.toNat (g_pick r0 r1 6)) ∧ at_ (Ty.int IntKind.i64) [(0:Int),(0:Int),(0:Int),(0:Int),(1:Int),(2:Int)] (Int.toNat (g_pick r0 r1 6)) < ((List.length [a,b,c]:Nat):Int)) = true := by
 have p := pick_f r0 r1 6 h (by decide) hr
 exact decide_eq_true (tab6 _ (by omega))
theorem tab6N (r0:List Int) (r1:Int) (a b c:Int) (h:0 ≤ r1 ∧ r1 ≤ 100000) (hr:RdOk r0):decide (Int.toNat (at_ (Ty.int IntKind.i64) [(0:Int),(0:Int),(0:Int),(0:Int),(1:Int),(2:Int)] (Int.toNat (g_pick r0 r1 6))) < List.length [a,b,c]) = true := by
 have p := pick_f r0 r1 6 h (by decide) hr
 exact decide_eq_true (toNat_lt3 (tab6 _ (by omega)))
theorem stoA_f (r0:List Int) (r1 n:Int) (h:0 ≤ r1 ∧ r1 ≤ 97000) (hr:RdOk r0):g_As_l20Sto r0 r1 n = true := (sto_f r0 r1 n h hr).1
theorem stoP_f (r0:List Int) (r1 n:Int) (h:0 ≤ r1 ∧ r1 ≤ 97000) (hr:RdOk r0):g_Vs_l20Sto_2 r0 r1 n = r1 + stoD r0 r1 n % 1024 := (sto_f r0 r1 n h hr).2.1
theorem drawGloDo_f (a:List Int) (h:∀ n ∈ a,(Lit.int .u8 n).wf = true):g_As_DrawGloDo a = true ∧ (g_Vs_DrawGloDo_0 a).length = 3 ∧ ∀ s ∈ g_Vs_DrawGloDo_0 a,smallS s := by
 obtain ⟨h1,h2,h3⟩ := open_f a
 have hr := open_ok a h
 unfold g_As_DrawGloDo g_Vs_DrawGloDo_0
 simp only [h1,h3]
 generalize g_Vs_l20Open_0 a = r0 at hr
 clear h1 h2 h3
 obtain ⟨g1,g2,g3⟩ := glo_f r0 0 (by omega) hr
 simp only [g1,g2]
 have hlen := g3.1
 have hsm:∀ s ∈ g_Vs_l20Glo_0 r0 0,smallS s := fun s hs => by have := g3.2 s hs; exact ⟨by omega,this.2⟩
 have hb:0 ≤ 0 + gloD r0 0 % 512 ∧ 0 + gloD r0 0 % 512 ≤ 600 := by omega
 generalize 0 + gloD r0 0 % 512 = p0 at hb
 have o2 := oddP_f r0 p0 16 (by omega)
 have od:0 ≤ oddD 16 % 2 ∧ oddD 16 % 2 < 2 := by omega
 rw [oddA_f' r0 p0 16 (by omega) hr]
 simp only [o2]
 have q := pick_f r0 (p0 + oddD 16 % 2) 3 (by omega) (by omega) hr
 have w1:IntKind.wrap .i64 (p0 + oddD 16 % 2 + 1) = p0 + oddD 16 % 2 + 1 := wrap64 (by omega)
 have u2:decide ((0:Int) ≤ g_pick r0 (p0 + oddD 16 % 2) 3 ∧ g_pick r0 (p0 + oddD 16 % 2) 3 < ((g_Vs_l20Glo_0 r0 0).length:Int)) = true := decide_eq_true (by omega)
 have u3:decide (Int.toNat (g_pick r0 (p0 + oddD 16 % 2) 3) < (g_Vs_l20Glo_0 r0 0).length) = true := decide_eq_true (by omega)
 obtain ⟨_,_,s3⟩ := sto_f r0 (p0 + oddD 16 % 2 + 1) 3 (by omega) hr
 simp only [w1,u2,u3]
 refine ⟨?_,?_⟩
 ·simp (disch := first | omega | assumption) only [wrapL,pickA_f',oddA_f',oddP_f,stoA_f,stoP_f,pickD_f,pickN_f,opA_f,Bool.true_and,Bool.and_true,Bool.cond_self]
  simp only [Bool.cond_eq_ite]
  repeat' split
  all_goals exact Bool.and_eq_true_iff.2 ⟨tab6D r0 _ _ _ _ (by omega) hr,tab6N r0 _ _ _ _ (by omega) hr⟩
 ·generalize g_Vs_l20Rd_odd_0 r0 p0 16 = b1
  cases b1
  ·exact ⟨hlen,hsm⟩
  ·refine ⟨by rw [cond_true,List.length_set]; exact hlen,fun s hs => ?_⟩
   rw [cond_true] at hs
   rcases List.mem_or_eq_of_mem_set hs with hs | rfl
   ·exact hsm s hs
   ·exact s3
theorem doL_bad:∀ {ws:List Wrt} {l:List Item},(∃ w ∈ ws,wrtP w.1 w.2.1 w.2.2 = false) → doL l ws = none
 | [],_,h => by obtain ⟨_,h,_⟩ := h; cases h
 | w :: ws,l,h => by
  simp only [doL]
  cases hw:wrtP w.1 w.2.1 w.2.2
  ·rfl
  ·have:∃ w ∈ ws,wrtP w.1 w.2.1 w.2.2 = false := by
    obtain ⟨x,hx,e⟩ := h
    rcases List.mem_cons.1 hx with rfl | hx
    ·rw [hw] at e; cases e
    ·exact ⟨x,hx,e⟩
   rw [doL_bad this]
   cases decide ((writeS l w.1 w.2.1 w.2.2).length ≤ 40) <;> rfl
theorem doS_of {l:List Item} {ws:List Wrt} (h:storeP l = true):doS l ws = (doL l ws).getD [] := by unfold doS; rw [h]; rfl
theorem doS_bad {l:List Item} {ws:List Wrt} (h:∃ w ∈ ws,wrtP w.1 w.2.1 w.2.2 = false):doS l ws = [] := by
 unfold doS
 rw [doL_bad h]
 cases storeP l <;> rfl
noncomputable def planP (place:Int) (l:List Item) (tx k w i c s f g:Int):Plan :=
 bif plcP place l&&(opP k w i c s f g&&(decide (0 ≤ tx ∧ tx ≤ 29)&&(placesP k w i c s f g).contains place)) then planL place l tx k w i c s f g else noP []
theorem upto9 {n:Int} (h:0 ≤ n ∧ n ≤ 9):n = 0 ∨ n = 1 ∨ n = 2 ∨ n = 3 ∨ n = 4 ∨ n = 5 ∨ n = 6 ∨ n = 7 ∨ n = 8 ∨ n = 9 := by omega
theorem itoa_one {n:Int} (h:0 ≤ n ∧ n ≤ 9):g_itoa n = g_Vs_l3Digit_0 n := by
 rcases upto9 h with rfl | rfl | rfl | rfl | rfl | rfl | rfl | rfl | rfl | rfl <;> decide +kernel
theorem named_A (c:Nat) (n:Int) (h:0 ≤ n ∧ n ≤ 99) (hs:(g_itoa n).size ≤ 2):g_Ai_named (lit [c]) n = true := by
 unfold g_Ai_named
 have e:(lit [c]).size = 1 := rfl
 rw [decide_eq_true (show (0:Int) ≤ n ∧ n < 100 by omega),e,decide_eq_true (show 1 + (g_itoa n).size ≤ nat_lit 9223372036854775807 from Nat.le_trans (show 1 + _ ≤ 3 by omega) (by decide))]
 rfl
theorem named_f (c:Nat) (n:Int) (h:0 ≤ n ∧ n ≤ 9):g_Ai_named (lit [c]) n = true ∧ g_Vi_named_0 (lit [c]) n = nm c n := by
 refine ⟨named_A c n (by omega) ?_,?_⟩
 ·rw [itoa_one h,digit_size]; omega
 ·unfold g_Vi_named_0
  rw [itoa_one h]
theorem plain_one (a:Int) (h:0 ≤ a ∧ a ≤ 9):g_Vs_l3Plain_0 a = g_Vs_l3Digit_0 a ++ lit [] := by
 have L:g_Ls_l3Plain_0 (a,lit []) = some (a,lit []) := by
  unfold g_Ls_l3Plain_0
  rw [loopO_eq]
  have s2:(g_Ss_l3Plain_0 (a,lit [])).sel = .out (a,lit []) := by
   simp only [g_Ss_l3Plain_0,RT.sel,cond_true,decide_eq_false (by omega:¬ a > 9),cond_false]
  rw [s2]
 unfold g_Vs_l3Plain_0
 rw [L]
 rfl
theorem plain_two (a:Int) (h:10 ≤ a ∧ a ≤ 99):g_Vs_l3Plain_0 a = g_Vs_l3Digit_0 (a / 10) ++ (g_Vs_l3Digit_0 (Int.tmod a 10) ++ lit []) := by
 have e0:(lit []).size = 0 := rfl
 have d:Int.tdiv a 10 = a / 10 := Int.tdiv_eq_ediv_of_nonneg (by omega)
 have L:g_Ls_l3Plain_0 (a,lit []) = some (a / 10,g_Vs_l3Digit_0 (Int.tmod a 10) ++ lit []) := by
  unfold g_Ls_l3Plain_0
  have s1:(g_Ss_l3Plain_0 (a,lit [])).sel = .go (a / 10,g_Vs_l3Digit_0 (Int.tmod a 10) ++ lit []) := by
   simp only [g_Ss_l3Plain_0,RT.sel,(by omega:a > 9),decide_true,cond_true,digit_size,e0]
   rw [d,wrapL (by omega)]
   rfl
  rw [loopO_eq,s1]
  show loopO _ _ = _
  rw [loopO_eq]
  have s2:(g_Ss_l3Plain_0 (a / 10,g_Vs_l3Digit_0 (Int.tmod a 10) ++ lit [])).sel = .out (a / 10,g_Vs_l3Digit_0 (Int.tmod a 10) ++ lit []) := by
   simp only [g_Ss_l3Plain_0,RT.sel,cond_true,decide_eq_false (by omega:¬ a / 10 > 9),cond_false]
  rw [s2]
 unfold g_Vs_l3Plain_0
 rw [L]
 rfl
theorem upto29 {n:Int} (h:10 ≤ n ∧ n ≤ 29):n = 10 ∨ n = 11 ∨ n = 12 ∨ n = 13 ∨ n = 14 ∨ n = 15 ∨ n = 16 ∨ n = 17 ∨ n = 18 ∨ n = 19 ∨ n = 20 ∨ n = 21 ∨ n = 22 ∨ n = 23 ∨ n = 24 ∨ n = 25 ∨ n = 26 ∨ n = 27 ∨ n = 28 ∨ n = 29 := by omega
theorem itoa_two {n:Int} (h:10 ≤ n ∧ n ≤ 29):g_itoa n = g_Vs_l3Digit_0 (n / 10) ++ (g_Vs_l3Digit_0 (Int.tmod n 10) ++ lit []) := by
 rcases upto29 h with rfl | rfl | rfl | rfl | rfl | rfl | rfl | rfl | rfl | rfl | rfl | rfl | rfl | rfl | rfl | rfl | rfl | rfl | rfl | rfl <;> decide +kernel
theorem empty_app (a:ByteArray):a ++ lit [] = a := by
 apply ByteArray.ext
 rw [ByteArray.data_append]
 show a.data ++ #[] = a.data
 simp
theorem namedA_f (n:Int) (h:0 ≤ n ∧ n ≤ 29):g_Ai_named (lit [97]) n = true ∧ g_Vi_named_0 (lit [97]) n = nmA n := by
 have e:g_itoa n = g_Vs_l3Plain_0 n := by
  by_cases h9:n ≤ 9
  ·rw [plain_one n (by omega),itoa_one (by omega),empty_app]
  ·rw [plain_two n (by omega),itoa_two (by omega)]
 refine ⟨named_A 97 n (by omega) (by rw [e]; exact (plain_f n (by omega)).2),?_⟩
 unfold g_Vi_named_0 nmA
 rw [e]
theorem cmp_lt (a b:ByteArray):decide (g_compare a b < 0) = Op.bytesLess a.toList b.toList := by
 rw [ByteArray.toList_eq,ByteArray.toList_eq]
 exact compare_lt _ _
theorem cmp_eq (a b:ByteArray):(g_compare a b == 0) = (a.toList == b.toList) := by
 rw [ByteArray.toList_eq,ByteArray.toList_eq]
 exact compare_eq _ _
theorem half_f (i j:Int) (h:0 ≤ i ∧ 0 ≤ j ∧ i ≤ 100000 ∧ j ≤ 100000):IntKind.wrap .i64 (Int.fdiv (IntKind.wrap .u64 (IntKind.wrap .i64 (i + j))) 2) = (i + j) / 2 := by
 have u:IntKind.wrap .u64 (i + j) = i + j := by
  simp only [IntKind.wrap,IntKind.bits,IntKind.signed]
  simp
  omega
 rw [wrap64 (x := i + j) (by omega),u,Int.fdiv_eq_ediv_of_nonneg _ (by decide),wrap64 (by omega)]
theorem search_f (l:List (ByteArray×List Int)) (key:ByteArray) (n:Int) (h:storeP l = true):g_Lslices_BinarySearchFunc_i_StoItem_i_StoItem_string__i_StoStore_find_1_0 l key n (0,(l.length:Int)) = some (posP l key:Int) := by
 have hl:l.length ≤ 40 := by
  simp only [storeP,Bool.and_eq_true,decide_eq_true_eq] at h
  exact h.1
 have hp := pos_le l key
 obtain ⟨r,h1,h2⟩ := loop_inv (step := g_Sslices_BinarySearchFunc_i_StoItem_i_StoItem_string__i_StoStore_find_1_0 l key n) (fun x => 0 ≤ x.1 ∧ x.1 ≤ posP l key ∧ (posP l key:Int) ≤ x.2 ∧ x.2 ≤ l.length) (fun r => r = (posP l key:Int)) (fun x => (x.2 - x.1).toNat) (fun x hx => by
  obtain ⟨i,j⟩ := x
  obtain ⟨i1,i2,i3,i4⟩ := hx
  simp only at i1 i2 i3 i4
  by_cases hij:i < j
  ·have hh:0 ≤ (i + j) / 2 ∧ (i + j) / 2 < l.length := by omega
   have hm:((i + j) / 2).toNat < l.length := by omega
   have hlt := pos_lt h key ((i + j) / 2).toNat hm
   have sel:(g_Sslices_BinarySearchFunc_i_StoItem_i_StoItem_string__i_StoStore_find_1_0 l key n (i,j)).sel = bif decide (((i + j) / 2).toNat < posP l key) then .go ((i + j) / 2 + 1,j) else .go (i,(i + j) / 2) := by
    simp only [g_Sslices_BinarySearchFunc_i_StoItem_i_StoItem_string__i_StoStore_find_1_0,RT.sel,cond_true,half_f i j (by omega),hij,hh,decide_true,and_self,cmp_lt]
    rw [hlt,wrap64 (x := (i + j) / 2 + 1) (by omega)]
   by_cases hc:((i + j) / 2).toNat < posP l key
   ·rw [decide_eq_true hc,cond_true] at sel
    refine .inl ⟨_,sel,⟨by simp only; omega,by simp only; omega,i3,i4⟩,by simp only; omega⟩
   ·rw [decide_eq_false hc,cond_false] at sel
    refine .inl ⟨_,sel,⟨i1,i2,by simp only; omega,by simp only; omega⟩,by simp only; omega⟩
  ·refine .inr ⟨i,?_,by omega⟩
   simp only [g_Sslices_BinarySearchFunc_i_StoItem_i_StoItem_string__i_StoStore_find_1_0,RT.sel,cond_true,hij,decide_false,cond_false]) (0,(l.length:Int)) ⟨by simp,by simp,by simp only; omega,by simp⟩
 rw [← h2]
 exact h1
def thereP (l:List (ByteArray×List Int)) (key:ByteArray):Bool := decide (posP l key < l.length)&&(at_ TI_ l (posP l key)).1.toList == key.toList
theorem find_f (l:List (ByteArray×List Int)) (key:ByteArray) (h:storeP l = true):g_Ai_StoStore_find l key = true ∧ g_Vslices_BinarySearchFunc_i_StoItem_i_StoItem_string__i_StoStore_find_1_0 l key = (posP l key:Int) ∧ g_Vslices_BinarySearchFunc_i_StoItem_i_StoItem_string__i_StoStore_find_1_1 l key = thereP l key := by
 have hs := search_f l key (l.length:Int) h
 refine ⟨?_,?_,?_⟩
 ·simp only [g_Ai_StoStore_find,g_Aslices_BinarySearchFunc_i_StoItem_i_StoItem_string__i_StoStore_find_1,hs,okO,valO,Option.isSome_some,Option.getD_some,Bool.true_and,Bool.and_true]
  by_cases hp:(posP l key:Int) < (l.length:Int)
  ·have h0:(0:Int) ≤ (posP l key:Int) := by omega
   simp [hp,h0]
  ·simp [hp]
 ·simp only [g_Vslices_BinarySearchFunc_i_StoItem_i_StoItem_string__i_StoStore_find_1_0,hs,valO,Option.getD_some,Bool.cond_self]
 ·simp only [g_Vslices_BinarySearchFunc_i_StoItem_i_StoItem_string__i_StoStore_find_1_1,hs,valO,Option.getD_some,cmp_eq,thereP,Int.toNat_natCast,cond_f']
  rw [show decide ((posP l key:Int) < (l.length:Int)) = decide (posP l key < l.length) from decide_eq_decide.2 (by omega)]
theorem get_there {l:List (ByteArray×List Int)} (h:storeP l = true) (key:ByteArray):getP l key = bif thereP l key then some (at_ TI_ l (posP l key)).2 else none := by
 rw [get_pos h key]
 unfold thereP
 by_cases h1:posP l key < l.length
 ·by_cases h2:(at_ TI_ l (posP l key)).1.toList = key.toList
  ·rw [if_pos ⟨h1,h2⟩,decide_eq_true h1,Bool.true_and,h2,BEq.rfl,cond_true]
  ·rw [if_neg (fun h => h2 h.2),decide_eq_true h1,Bool.true_and,beq_eq_false_iff_ne.2 h2,cond_false]
 ·rw [if_neg (fun h => h1 h.1),decide_eq_false h1,Bool.false_and,cond_false]
theorem get_val {l:List (ByteArray×List Int)} (h:storeP l = true) {key:ByteArray} {v:List Int} (hg:getP l key = some v):1 ≤ v.length ∧ v.length ≤ 3 := by
 unfold getP at hg
 simp only [storeP,Bool.and_eq_true,List.all_eq_true,itemP,valP,decide_eq_true_eq] at h
 obtain ⟨x,hx,rfl⟩ := Option.map_eq_some_iff.1 hg
 obtain ⟨i,hi,rfl⟩ := List.getElem_of_mem (List.mem_of_find?_eq_some hx)
 have := (h.2 i (List.mem_range.2 hi)).2.1.1
 rw [at_eq (e := TI_) hi] at this
 exact this
theorem sget_f (l:List (ByteArray×List Int)) (key:ByteArray) (h:storeP l = true):g_Ai_StoStore_get l key = true ∧ g_Vi_StoStore_get_0 l key = (getP l key).isNone ∧ g_Vi_StoStore_get_1 l key = (getP l key).getD [] := by
 obtain ⟨f1,f2,f3⟩ := find_f l key h
 have hg := get_there h key
 have hv := fun v hv => get_val h (key := key) (v := v) hv
 have hlt:thereP l key = true → posP l key < l.length := fun e => by
  unfold thereP at e
  simp only [Bool.and_eq_true,decide_eq_true_eq] at e
  exact e.1
 cases ht:thereP l key
 ·rw [ht,cond_false] at hg
  simp [g_Ai_StoStore_get,g_Vi_StoStore_get_0,g_Vi_StoStore_get_1,f1,f2,f3,ht,hg]
 ·rw [ht,cond_true] at hg
  have hb := hv _ hg
  have hl := hlt ht
  have h0:(0:Int) ≤ (posP l key:Int) ∧ (posP l key:Int) < (l.length:Int) := by omega
  have hc:g_Aslices_Clone_int_int_nz (at_ TI_ l (posP l key)).2 = true := by
   unfold g_Aslices_Clone_int_int_nz
   rw [decide_eq_true (show nat_lit 0 < (at_ TI_ l (posP l key)).2.length from hb.1),decide_eq_true ⟨by have := hb.2; show (0 + _) * 8 ≤ 140737488355328; omega,by have := hb.2; show 0 + _ ≤ 9223372036854775807; omega⟩]
   rfl
  refine ⟨?_,?_,?_⟩
  ·simp only [g_Ai_StoStore_get,f1,f2,f3,ht,Int.toNat_natCast,decide_eq_true h0,Bool.true_and,Bool.not_true,Bool.false_or]
   exact hc
  ·simp [g_Vi_StoStore_get_0,f3,ht,hg]
  ·simp only [g_Vi_StoStore_get_1,f2,f3,ht,hg,Int.toNat_natCast,Bool.not_true,cond_false,Option.getD_some]
   rfl
theorem i_OpOk_f (k w i c s f g:Int):g_Ai_OpOk k w i c s f g = true ∧ g_Vi_OpOk_0 k w i c s f g = opP k w i c s f g := by
 have i1:∀ a b:Int,(a == b) = decide (a = b) := fun _ _ => rfl
 constructor
 ·simp [g_Ai_OpOk,g_Ai_OpOk_1,g_Ai_OpOk_2,(i_in_f _ _ _).1]
 ·simp only [g_Vi_OpOk_0,g_Vi_OpOk_1_0,g_Vi_OpOk_2_0,(i_in_f _ _ _).2,i1,decide_true,Bool.true_and,Bool.and_true,cond_nf8,opP,opK]
  congr 1; congr 1; congr 1; congr 1; congr 1; congr 1
  by_cases h1:k = 1
  ·subst h1; simp
  ·by_cases h5:k = 5
   ·subst h5; simp
   ·by_cases h2:k = 2
    ·subst h2; simp
    ·by_cases h3:k = 3
     ·subst h3; simp
     ·simp [h1,h2,h3,h5]
theorem i_OpPlaces_f (k w i c s f g:Int):g_Ai_OpPlaces k w i c s f g = true ∧ g_Vi_OpPlaces_0 k w i c s f g = placesP k w i c s f g := by
 unfold g_Ai_OpPlaces g_Vi_OpPlaces_0 placesP
 simp [(i_OpOk_f _ _ _ _ _ _ _).1,(i_OpOk_f _ _ _ _ _ _ _).2]
theorem iget (l:List Item) (key:ByteArray) (h:storeP l = true):g_Ai_StoStore_get l key = true ∧ g_Vi_StoStore_get_0 l key = (getP l key).isNone ∧ g_Vi_StoStore_get_1 l key = (getP l key).getD [] := sget_f l key h
theorem secsum_eq (s:Int):g_Ai_SecSum s = true ∧ g_Vi_SecSum_0 s = g_Vs_SecSum_0 s := by
 constructor
 ·simp [g_Ai_SecSum,(i_in_f _ _ _).1]
 ·unfold g_Vi_SecSum_0 g_Vs_SecSum_0
  rw [(i_in_f _ _ _).2,(s_l1In_f _ _ _).2,Int.mul_comm]
theorem i_atIn_f (l:List Item) (k w i c s f g:Int) (h:plcP 1 l = true) (hi:0 ≤ i ∧ i ≤ 9):g_Ai_atIn l k w i c s f g = true ∧ g_Vi_atIn_0 l k w i c s f g = (inP l k w i).1 ∧ g_Vi_atIn_1 l k w i c s f g = (inP l k w i).2.1 ∧ g_Vi_atIn_2 l k w i c s f g = (inP l k w i).2.2 := by
 obtain ⟨n1,n2⟩ := named_f 115 i hi
 obtain ⟨a1,a2,a3⟩ := iget l (nm 115 i) (plc_store h)
 unfold g_Ai_atIn g_Vi_atIn_0 g_Vi_atIn_1 g_Vi_atIn_2 inP
 rw [n1,n2,a1,a2,a3]
 cases hv:getP l (nm 115 i) with
 | none => cases (k == 1) <;> cases (k == 5) <;> exact ⟨rfl,rfl,rfl,rfl⟩
 | some v =>
  have hl := (storeP_item (plc_store h) _ (get_item hv)).len
  have d1:decide ((0:Int) ≤ (0:Int) ∧ (0:Int) < (v.length:Int)) = true := decide_eq_true (by simp only at hl; omega)
  have d2:decide (nat_lit 0 < List.length v) = true := decide_eq_true (show 0 < v.length by simp only at hl; omega)
  simp only [Option.isNone_some,Option.getD_some,Bool.not_true,Bool.not_false,d1,d2,bne]
  cases (k == 1) <;> cases (k == 5) <;> cases (nth v 0 == w) <;> exact ⟨rfl,rfl,rfl,rfl⟩
theorem may_who {l:List Item} (h:plcP 2 l = true) {key:ByteArray} {v:List Int} (hv:getP l key = some v):0 ≤ nth v 0 ∧ nth v 0 ≤ 9 := by
 obtain ⟨p1,p2⟩ := plc_item h (get_item hv)
 exact ⟨p2.pos 0 (by have := p2.len; simp only at this ⊢; omega),(may_item p1).2.1⟩
theorem i_trade_f (l:List Item) (k w i c s f g:Int) (h:plcP 2 l = true) (hc:0 ≤ c ∧ c ≤ 9) (hf:0 ≤ f ∧ f ≤ 9):g_Ai_trade l k w i c s f g = true ∧ g_Vi_trade_0 l k w i c s f g = (tradeP l c s f).1 ∧ g_Vi_trade_1 l k w i c s f g = (tradeP l c s f).2.1 ∧ g_Vi_trade_2 l k w i c s f g = (tradeP l c s f).2.2 := by
 obtain ⟨n1,n2⟩ := named_f 99 c hc
 obtain ⟨n3,n4⟩ := named_f 102 f hf
 obtain ⟨a1,a2,a3⟩ := iget l (nm 99 c) (plc_store h)
 obtain ⟨b1,b2,_⟩ := iget l (nm 102 f) (plc_store h)
 unfold g_Ai_trade g_Vi_trade_0 g_Vi_trade_1 g_Vi_trade_2 tradeP
 rw [n1,n2,n3,n4,a1,a2,a3,b1,b2,(secsum_eq s).1,(secsum_eq s).2]
 cases hv:getP l (nm 99 c) with
 | none => exact ⟨rfl,rfl,rfl,rfl⟩
 | some v =>
  have hl := code_get h hv
  obtain ⟨m1,m2⟩ := named_f 117 (nth v 0) (may_who h hv)
  have m1:g_Ai_named (lit [117]) (at_ (Ty.int IntKind.i64) v (nat_lit 0)) = true := m1
  have m2:g_Vi_named_0 (lit [117]) (at_ (Ty.int IntKind.i64) v (nat_lit 0)) = nm 117 (nth v 0) := m2
  have d0:decide ((0:Int) ≤ (0:Int) ∧ (0:Int) < (v.length:Int)) = true := decide_eq_true (by omega)
  have d1:decide ((0:Int) ≤ (1:Int) ∧ (1:Int) < (v.length:Int)) = true := decide_eq_true (by omega)
  have n0:decide (nat_lit 0 < List.length v) = true := decide_eq_true (show 0 < v.length by omega)
  have n1:decide (nat_lit 1 < List.length v) = true := decide_eq_true (show 1 < v.length by omega)
  have eb:(g_Vs_SecSum_0 s == at_ (Ty.int IntKind.i64) v (nat_lit 1)) = (nth v 1 == g_Vs_SecSum_0 s) := by
   rw [Bool.eq_iff_iff,beq_iff_eq,beq_iff_eq]
   exact eq_comm
  simp only [Option.isNone_some,Option.getD_some,Bool.not_true,Bool.not_false,d0,d1,n0,n1,m1,m2,bne,eb,← Option.not_isSome]
  cases (getP l (nm 102 f)).isSome <;> cases (nth v 1 == g_Vs_SecSum_0 s) <;> exact ⟨rfl,rfl,rfl,rfl⟩
theorem i_next_f (l:List Item) (k w i c s f g:Int) (h:plcP 2 l = true) (hf:0 ≤ f ∧ f ≤ 9) (hg:0 ≤ g):g_Ai_next l k w i c s f g = true ∧ g_Vi_next_0 l k w i c s f g = (nextP l f g).1 ∧ g_Vi_next_1 l k w i c s f g = (nextP l f g).2.1 ∧ g_Vi_next_2 l k w i c s f g = (nextP l f g).2.2 := by
 obtain ⟨n3,n4⟩ := named_f 102 f hf
 obtain ⟨a1,a2,a3⟩ := iget l (nm 102 f) (plc_store h)
 unfold g_Ai_next g_Vi_next_0 g_Vi_next_1 g_Vi_next_2 nextP
 rw [n3,n4,a1,a2,a3]
 cases hv:getP l (nm 102 f) with
 | none => exact ⟨rfl,rfl,rfl,rfl⟩
 | some v =>
  obtain ⟨hl,h1,h2⟩ := fam_get h hv
  obtain ⟨m1,m2⟩ := named_f 117 (nth v 0) (may_who h hv)
  have m1:g_Ai_named (lit [117]) (at_ (Ty.int IntKind.i64) v (nat_lit 0)) = true := m1
  have m2:g_Vi_named_0 (lit [117]) (at_ (Ty.int IntKind.i64) v (nat_lit 0)) = nm 117 (nth v 0) := m2
  have d0:decide ((0:Int) ≤ (0:Int) ∧ (0:Int) < (v.length:Int)) = true := decide_eq_true (by omega)
  have d1:decide ((0:Int) ≤ (1:Int) ∧ (1:Int) < (v.length:Int)) = true := decide_eq_true (by omega)
  have d2:decide ((0:Int) ≤ (2:Int) ∧ (2:Int) < (v.length:Int)) = true := decide_eq_true (by omega)
  have n0:decide (nat_lit 0 < List.length v) = true := decide_eq_true (show 0 < v.length by omega)
  have n1:decide (nat_lit 1 < List.length v) = true := decide_eq_true (show 1 < v.length by omega)
  have n2:decide (nat_lit 2 < List.length v) = true := decide_eq_true (show 2 < v.length by omega)
  have w1:IntKind.wrap .i64 (at_ (Ty.int IntKind.i64) v (nat_lit 1) + 1) = nth v 1 + 1 := wrap64 (x := nth v 1 + 1) (by omega)
  have ein:g_Vi_in_0 g 1 (at_ (Ty.int IntKind.i64) v (nat_lit 1)) = !(decide (g > nth v 1) || (g == 0)) := by
   rw [(i_in_f _ _ _).2,Bool.eq_iff_iff]
   simp only [decide_eq_true_eq,Bool.not_eq_true',Bool.or_eq_false_iff,decide_eq_false_iff_not,beq_eq_false_iff_ne]
   show (1 ≤ g ∧ g ≤ nth v 1) ↔ _
   omega
  simp only [Option.isNone_some,Option.getD_some,Bool.not_true,Bool.not_false,d0,d1,d2,n0,n1,n2,w1,m1,m2,ein,(i_in_f _ _ _).1]
  cases (nth v 2 == 0) <;> cases decide (g > nth v 1) <;> cases (g == 0) <;> cases (nth v 1 == 99) <;> cases decide (g < nth v 1) <;> exact ⟨rfl,rfl,rfl,rfl⟩
theorem nmA_itoa {n:Int} (h:0 ≤ n ∧ n ≤ 29):nmA n = lit [97] ++ g_itoa n := by
 have e:g_itoa n = g_Vs_l3Plain_0 n := by
  by_cases h9:n ≤ 9
  ·rw [plain_one n (by omega),itoa_one (by omega),empty_app]
  ·rw [plain_two n (by omega),itoa_two (by omega)]
 unfold nmA
 rw [e]
def codeA (b:ByteArray):Int := bif b.size == 2 then byteAt b 1 - 48 else (byteAt b 1 - 48) * 10 + (byteAt b 2 - 48)
theorem codeA_all:∀ n:Fin 30,codeA (lit [97] ++ g_itoa (n.1:Int)) = (n.1:Int) ∧ keyP (lit [97] ++ g_itoa (n.1:Int)) = true ∧ byteAt (lit [97] ++ g_itoa (n.1:Int)) 0 = 97 := by decide +kernel
theorem nmA_f {n:Int} (h:0 ≤ n ∧ n ≤ 29):codeA (nmA n) = n ∧ keyP (nmA n) = true ∧ byteAt (nmA n) 0 = 97 := by
 have := codeA_all ⟨n.toNat,by omega⟩
 simp only [show ((n.toNat:Nat):Int) = n by omega] at this
 rwa [nmA_itoa h]
theorem nm_f {c:Nat} (hc:c = 99 ∨ c = 102 ∨ c = 115) {n:Int} (h:0 ≤ n ∧ n ≤ 9):byteAt (nm c n) 0 = c ∧ byteAt (nm c n) 1 = 48 + n ∧ keyP (nm c n) = true ∧ (nm c n).size = 2 := by
 rcases hc with rfl | rfl | rfl <;> rcases upto9 h with rfl | rfl | rfl | rfl | rfl | rfl | rfl | rfl | rfl | rfl <;> decide +kernel
theorem wrtP_val {k:ByteArray} {v:List Int} (hk:keyP k = true) (hv:valP v = true):wrtP k false v = true := by simp [wrtP,hk,hv]
theorem wrtP_del {k:ByteArray} (hk:keyP k = true):wrtP k true [] = true := by simp [wrtP,hk]
theorem valP1 {a:Int} (h:0 ≤ a ∧ a ≤ 9999):valP [a] = true := by simp [valP]; omega
theorem valP2 {a b:Int} (h:0 ≤ a ∧ a ≤ 9999) (h2:0 ≤ b ∧ b ≤ 9999):valP [a,b] = true := by simp [valP]; omega
theorem valP3 {a b c:Int} (h:0 ≤ a ∧ a ≤ 9999) (h2:0 ≤ b ∧ b ≤ 9999) (h3:0 ≤ c ∧ c ≤ 9999):valP [a,b,c] = true := by simp [valP]; omega
theorem nth_val {v:List Int} (h:valP v = true) {n:Nat} (hn:n < v.length):0 ≤ nth v n ∧ nth v n ≤ 9999 := by
 simp only [valP,Bool.and_eq_true,List.all_eq_true,decide_eq_true_eq] at h
 exact h.2 _ (at_mem (e := .int .i64) hn)
theorem plc_srt {p:Int} {l:List Item} (h:plcP p l = true):Srt l := ((storeP_iff l).1 (plc_store h)).2.2
theorem plc_val {p:Int} {l:List Item} (h:plcP p l = true) {x:Item} (hx:x ∈ l):keyP x.1 = true ∧ valP x.2 = true := by
 have := ((storeP_iff l).1 (plc_store h)).2.1 x hx
 simpa [okI'] using this
theorem plc_write {p:Int} {l:List Item} (h:plcP p l = true) {k:ByteArray} {d:Bool} {v:List Int} (hw:wrtP k d v = true) (hl:(writeS l k d v).length ≤ 40) (hp:d = false → placeP p (k,v) = true):plcP p (writeS l k d v) = true := by
 have hs := writeS_store (plc_store h) hw hl
 have hr := plc_srt h
 simp only [plcP,Bool.and_eq_true,List.all_eq_true] at h ⊢
 refine ⟨h.1,hs,fun x hx => ?_⟩
 rcases writeS_mem d v hr x hx with hx | ⟨hd,rfl⟩
 ·exact h.2.2 x hx
 ·exact hp hd
theorem fam_item {p:Int} {l:List Item} (hp:p = 2) (h:plcP p l = true) {x:Item} (hx:x ∈ l) {w:Int} (hf:famP w x = true):x.2.length = 3 ∧ nth x.2 0 = w ∧ nth x.2 2 = 1 ∧ (1 ≤ nth x.2 1 ∧ nth x.2 1 ≤ 99) ∧ byteAt x.1 0 = 102 ∧ x.1.size = 2 := by
 subst hp
 have := may_item (plc_item h hx).1
 simp only [famP,Bool.and_eq_true,beq_iff_eq] at hf
 rcases this.2.2 with h1 | h1
 ·rw [hf.1] at h1; exact absurd h1.1 (by decide)
 ·exact ⟨h1.2.1,hf.2.1,hf.2.2,h1.2.2.1,hf.1,this.1⟩
theorem out_wrt {l:List Item} (h:plcP 2 l = true) {x:Item} (hx:x ∈ l) {w:Int} (hf:famP w x = true):wrtP x.1 false [nth x.2 0,nth x.2 1,0] = true ∧ placeP 2 (x.1,[nth x.2 0,nth x.2 1,0]) = true := by
 obtain ⟨f1,f2,f3,f4,f5,f6⟩ := fam_item rfl h hx hf
 have hv := plc_val h hx
 have n0 := nth_val hv.2 (n := 0) (by omega)
 have hp := (may_item (plc_item h hx).1).2.1
 refine ⟨wrtP_val hv.1 (valP3 n0 (by omega) (by omega)),?_⟩
 unfold placeP
 simp only [show ¬ ((2:Int) = 1) by decide,decide_false,cond_false,decide_true,cond_true,f5,f6,Bool.true_and,Bool.and_eq_true,Bool.or_eq_true,decide_eq_true_eq]
 exact ⟨hp,.inr ⟨rfl,f4,(by decide:(0:Int) ≤ 1)⟩⟩
structure Inv (n:Nat) (a m d:List Item):Prop where
 pa:plcP 1 a = true
 pm:plcP 2 m = true
 pd:plcP 3 d = true
 la:a.length ≤ n
 lm:m.length ≤ n
 ld:d.length ≤ n
 fresh:∀ t:Int,(n:Int) ≤ t → t ≤ 29 → getP d (nmA t) = none
theorem opP_bd {k w i c s f g:Int} (h:opP k w i c s f g = true):(0 ≤ w ∧ w ≤ 9) ∧ (0 ≤ i ∧ i ≤ 9) ∧ (0 ≤ c ∧ c ≤ 9) ∧ (0 ≤ f ∧ f ≤ 9) ∧ (0 ≤ s ∧ s ≤ 99) ∧ (0 ≤ g ∧ g ≤ 99) ∧ (k = 1 ∨ k = 2 ∨ k = 3 ∨ k = 4 ∨ k = 5) := by
 simp only [opP,Bool.and_eq_true,decide_eq_true_eq] at h
 refine ⟨h.1,h.2.1,h.2.2.1,h.2.2.2.1,h.2.2.2.2.1,h.2.2.2.2.2.1,?_⟩
 have hk := h.2.2.2.2.2.2
 unfold opK at hk
 by_cases h1:k = 1
 ·exact .inl h1
 ·by_cases h2:k = 2
  ·exact .inr (.inl h2)
  ·by_cases h3:k = 3
   ·exact .inr (.inr (.inl h3))
   ·by_cases h5:k = 5
    ·exact .inr (.inr (.inr (.inr h5)))
    ·simp only [h1,h2,h3,h5,decide_false,Bool.or_self,cond_false,Bool.and_eq_true,decide_eq_true_eq] at hk
     exact .inr (.inr (.inr (.inl hk.1)))
theorem secsum_range {s:Int} (h:0 ≤ s ∧ s ≤ 99):g_Vs_SecSum_0 s = (s * 7919 + 104) % 9973 := by
 have w1:IntKind.wrap .i64 (s * 7919) = s * 7919 := wrap64 (by omega)
 have w2:IntKind.wrap .i64 (s * 7919 + 104) = s * 7919 + 104 := wrap64 (by omega)
 unfold g_Vs_SecSum_0
 rw [(s_l1In_f _ _ _).2,decide_eq_true h]
 simp only [Bool.not_true,cond_false,w1,w2]
 exact Int.tmod_eq_emod_of_nonneg (by omega)
theorem get_mem:∀ {l:List Item},Srt l → ∀ {x:Item},x ∈ l → getP l x.1 = some x.2
 | [],_,_,h => by cases h
 | y :: l,hs,x,h => by
  obtain ⟨h1,h2⟩ := srt_tail hs
  rw [getP_cons]
  rcases List.mem_cons.1 h with rfl | h
  ·rw [decide_eq_true rfl]; rfl
  ·rw [decide_eq_false (lt_ne (h2 x h)),cond_false]
   exact get_mem h1 h
theorem i_scopied_f (l:List Item) (hl:l.length ≤ 1048576) (hit:∀ x ∈ l,x.2.length ≤ 1048576):g_Ai_StoStore_copied l = true ∧ g_Vi_StoStore_copied_0 l = l := by
 have L:g_Li_StoStore_copied_0 l (l.length:Int) [] (0,[]) = some (l.map id) := by
  refine loop_app (e := TI_) (step := g_Si_StoStore_copied_0 l (l.length:Int) []) l (fun i r => (i,r)) id id (fun i r hi hr => ?_) (fun r hr => by simp only [g_Si_StoStore_copied_0,RT.sel,cond_true,Int.lt_irrefl,decide_false,cond_false,id])
  have k1:(i:Int) < l.length := by omega
  have k2:(0:Int) ≤ (i:Int) := by omega
  have hx := hit _ (at_mem (e := TI_) hi)
  simp only [g_Si_StoStore_copied_0,RT.sel,cond_true,k1,k2,decide_true,and_self,Int.toNat_natCast,g_Aslices_Clone_int_int_b,id]
  rw [cap0_f _ _ hx (by decide),capF_f _ _ _ (by simp only [List.length_cons,List.length_nil]; omega) (by decide),cond_true,cond_true,wrap64 (x := (i:Int) + 1) (by omega)]
  rfl
 rw [List.map_id] at L
 simp only [g_Ai_StoStore_copied,g_Vi_StoStore_copied_0,L,okO,valO,Option.isSome_some,Option.getD_some,and_self]
theorem i_write_f (l:List Item) (h:storeP l = true) (k:ByteArray) (d:Bool) (v:List Int) (hv:v.length ≤ 1048576):g_Ai_StoStore_write l k d v = true ∧ g_Vi_StoStore_write_0 l k d v = writeS l k d v := by
 have hl := ((storeP_iff l).1 h).1
 have hs := ((storeP_iff l).1 h).2.2
 obtain ⟨f1,f2,f3⟩ := find_f l k h
 have hp := pos_le l k
 have gt := get_there h k
 have w1:IntKind.wrap .i64 ((posP l k:Int) + 1) = ((posP l k + 1:Nat):Int) := by rw [wrap64 (by omega)]; omega
 have e0:decide ((0:Int) ≤ (posP l k:Int) ∧ (posP l k:Int) ≤ (l.length:Int)) = true := decide_eq_true (by omega)
 have cl:g_Aslices_Clone_int_int_b v = true := by
  rw [g_Aslices_Clone_int_int_b]
  exact cap0_f _ _ hv (by decide)
 have ins:g_Aslices_Insert_i_StoItem_i_StoItem l (posP l k:Int) [(k,v)] = true := by
  unfold g_Aslices_Insert_i_StoItem_i_StoItem
  refine decide_eq_true ⟨by omega,by simp,by simp only [List.length_cons,List.length_nil]; omega⟩
 have lt:thereP l k = true → posP l k < l.length := fun e => by
  unfold thereP at e
  simp only [Bool.and_eq_true,decide_eq_true_eq] at e
  exact e.1
 unfold g_Ai_StoStore_write g_Vi_StoStore_write_0
 rw [f1,f2,f3,w1,cl,ins,write_put k d v hs]
 unfold putP
 rw [gt]
 cases ht:thereP l k
 ·refine ⟨by cases d <;> rfl,?_⟩
  cases d
  ·simp only [cond_false,Option.isSome_none,if_false,Bool.false_eq_true]
   unfold g_Vslices_Insert_i_StoItem_i_StoItem_0
   rw [Int.toNat_natCast]
   rfl
  ·rfl
 ·have hlt := lt ht
  have del:g_Aslices_Delete_i_StoItem_i_StoItem l (posP l k:Int) ((posP l k + 1:Nat):Int) = true := by
   unfold g_Aslices_Delete_i_StoItem_i_StoItem
   exact decide_eq_true (by omega)
  have d1:decide ((0:Int) ≤ (posP l k:Int) ∧ (posP l k:Int) < (l.length:Int)) = true := decide_eq_true (by omega)
  have d2:decide (Int.toNat (posP l k:Int) < l.length) = true := decide_eq_true (by rw [Int.toNat_natCast]; exact hlt)
  rw [del,d1,d2]
  refine ⟨by cases d <;> rfl,?_⟩
  cases d
  ·simp only [cond_false,cond_true,Option.isSome_some,if_true]
   have hk:(at_ TI_ l (posP l k)).1 = k := by
    unfold thereP at ht
    simp only [Bool.and_eq_true,beq_iff_eq] at ht
    exact toList_inj ht.2
   show l.set (Int.toNat (posP l k:Int)) ((at_ TI_ l (Int.toNat (posP l k:Int))).1,v) = _
   rw [Int.toNat_natCast,hk]
  ·simp only [cond_true,Option.isSome_some,if_true]
   unfold g_Vslices_Delete_i_StoItem_i_StoItem_0
   rw [Int.toNat_natCast,Int.toNat_natCast,List.eraseIdx_eq_take_drop_succ]
theorem i_anyBad_f (ws:List Wrt) (hw:ws.length ≤ 1048576) (hws:∀ w ∈ ws,w.2.2.length ≤ 1048576):g_Aslices_ContainsFunc_i_StoWrite_i_StoWrite__i_StoDo_1 ws = true ∧ g_Vslices_ContainsFunc_i_StoWrite_i_StoWrite__i_StoDo_1_0 ws = ws.any fun w => !wrtP w.1 w.2.1 w.2.2 := by
 obtain ⟨r,h1,h2⟩ := loop_idx (e := .pair .str (.pair .bool (.sl 3 (.int .i64)))) ws (step := g_Sslices_IndexFunc_i_StoWrite_i_StoWrite__i_StoDo_1_0 ws (ws.length:Int)) (fun w => !wrtP w.1 w.2.1 w.2.2) (fun i hi => by
  have k1:(i:Int) < ws.length := by omega
  have k2:(0:Int) ≤ (i:Int) := by omega
  have hx := hws _ (at_mem (e := .pair .str (.pair .bool (.sl 3 (.int .i64)))) hi)
  obtain ⟨q1,q2⟩ := i_WrtOk_f (at_ (.pair .str (.pair .bool (.sl 3 (.int .i64)))) ws i).1 (at_ (.pair .str (.pair .bool (.sl 3 (.int .i64)))) ws i).2.1 (at_ (.pair .str (.pair .bool (.sl 3 (.int .i64)))) ws i).2.2 hx
  simp only [g_Sslices_IndexFunc_i_StoWrite_i_StoWrite__i_StoDo_1_0,RT.sel,cond_true,k1,k2,decide_true,and_self,Int.toNat_natCast,g_Ai_StoDo_1,q1,q2]
  rw [wrap64 (x := (i:Int) + 1) (by omega)]
  rfl) (by simp only [g_Sslices_IndexFunc_i_StoWrite_i_StoWrite__i_StoDo_1_0,RT.sel,cond_true,Int.lt_irrefl,decide_false,cond_false])
 have h1:g_Lslices_IndexFunc_i_StoWrite_i_StoWrite__i_StoDo_1_0 ws (ws.length:Int) 0 = some r := h1
 unfold g_Aslices_ContainsFunc_i_StoWrite_i_StoWrite__i_StoDo_1 g_Vslices_ContainsFunc_i_StoWrite_i_StoWrite__i_StoDo_1_0 g_Aslices_IndexFunc_i_StoWrite_i_StoWrite__i_StoDo_1 g_Vslices_IndexFunc_i_StoWrite_i_StoWrite__i_StoDo_1_0
 rw [h1]
 exact ⟨rfl,h2⟩
theorem i_StoDo_f (l:List Item) (ws:List Wrt) (hl:l.length ≤ 1048576) (hit:∀ x ∈ l,x.2.length ≤ 1048576) (hw:ws.length ≤ 1048576) (hws:∀ w ∈ ws,w.2.2.length ≤ 1048576):g_Ai_StoDo l ws = true ∧ g_Vi_StoDo_0 l ws = doS l ws := by
 obtain ⟨a1,a2⟩ := i_StoOk_f l hl hit
 obtain ⟨b1,b2⟩ := i_anyBad_f ws hw hws
 obtain ⟨c1,c2⟩ := i_scopied_f l hl hit
 unfold g_Ai_StoDo g_Vi_StoDo_0
 rw [a1,a2,b1,b2,c1,c2]
 cases hs:storeP l
 ·unfold doS; rw [hs]; exact ⟨rfl,rfl⟩
 ·cases hb:ws.any fun w => !wrtP w.1 w.2.1 w.2.2
  ·have hok:∀ w ∈ ws,wrtP w.1 w.2.1 w.2.2 = true := by
    intro w hw
    have := (List.any_eq_false.1 hb) w hw
    simpa using this
   rw [doS_of hs]
   have L:∃ r,g_Li_StoDo_0 ws (ws.length:Int) [] (0,l) = some r ∧ match r with
     | .inl p => p.1 = [] ∧ doL l ws = none
     | .inr p => doL l ws = some p := by
    refine loop_inv (step := g_Si_StoDo_0 ws (ws.length:Int) []) (fun x => 0 ≤ x.1 ∧ x.1.toNat ≤ ws.length ∧ storeP x.2 = true ∧ doL x.2 (ws.drop x.1.toNat) = doL l ws) _ (fun x => ws.length - x.1.toNat) ?_ _ ⟨by simp,by simp,hs,by simp⟩
    rintro ⟨i,y⟩ ⟨i1,i2,i3,i4⟩
    simp only at i1 i2 i3 i4
    by_cases hk:i < (ws.length:Int)
    ·have hn:i.toNat < ws.length := by omega
     rw [List.drop_eq_getElem_cons hn] at i4
     have hv := hws _ (List.getElem_mem hn)
     have ho := hok _ (List.getElem_mem hn)
     have e1:(i + 1).toNat = i.toNat + 1 := by omega
     have hat:at_ (.pair .str (.pair .bool (.sl 3 (.int .i64)))) ws i.toNat = ws[i.toNat] := at_eq (e := .pair .str (.pair .bool (.sl 3 (.int .i64)))) hn
     generalize hw:ws[i.toNat] = w at hv i4 hat ho
     obtain ⟨p1,p2⟩ := i_write_f y i3 w.1 w.2.1 w.2.2 hv
     have sel:(g_Si_StoDo_0 ws (ws.length:Int) [] (i,y)).sel = bif decide ((writeS y w.1 w.2.1 w.2.2).length ≤ 40) then .go (i + 1,writeS y w.1 w.2.1 w.2.2) else .out (.inl ([],writeS y w.1 w.2.1 w.2.2)) := by
      simp only [g_Si_StoDo_0,RT.sel,hk,i1,and_self,decide_true,cond_true,hat,p1,p2,wrap64 (x := i + 1) (by omega)]
      by_cases hc:(writeS y w.1 w.2.1 w.2.2).length ≤ 40
      ·simp only [cond_false,cond_true,decide_eq_true hc,decide_eq_false (show ¬ ((writeS y w.1 w.2.1 w.2.2).length:Int) > 40 by omega)]
      ·simp only [cond_false,cond_true,decide_eq_false hc,decide_eq_true (show ((writeS y w.1 w.2.1 w.2.2).length:Int) > 40 by omega)]
     simp only [doL,ho,cond_true] at i4
     by_cases hc:(writeS y w.1 w.2.1 w.2.2).length ≤ 40
     ·rw [decide_eq_true hc,cond_true] at sel i4
      refine .inl ⟨_,sel,⟨by simp only; omega,by simp only; omega,writeS_store i3 ho hc,?_⟩,by simp only; omega⟩
      simp only [e1]
      exact i4
     ·rw [decide_eq_false hc,cond_false] at sel i4
      exact .inr ⟨_,sel,rfl,i4.symm⟩
    ·refine .inr ⟨.inr y,?_,?_⟩
     ·simp only [g_Si_StoDo_0,RT.sel,hk,decide_false,cond_true,cond_false]
     ·rw [List.drop_of_length_le (by omega)] at i4
      simp only [doL] at i4
      exact i4.symm
   obtain ⟨r,h2,h3⟩ := L
   rw [h2]
   match r,h3 with
   | .inl p,h3 => simp [okO,valO,isL,getL,h3.1,h3.2]
   | .inr p,h3 => simp [okO,valO,isL,getR,h3]
  ·obtain ⟨w,hw,e⟩ := List.any_eq_true.1 hb
   rw [doS_bad ⟨w,hw,by simpa using e⟩]
   exact ⟨rfl,rfl⟩
theorem containsJ_f (ls:List Int) (s:Int) (hl:ls.length ≤ 1048576):g_Aslices_Contains_int_int ls s = true ∧ g_Vslices_Contains_int_int_0 ls s = ls.contains s := by
 obtain ⟨r,h1,h2⟩ := loop_idx (e := .int .i64) ls (step := g_Sslices_Index_int_int_0 ls s (ls.length:Int)) (fun x => x == s) (fun i hi => by
  have h1:(i:Int) < ls.length := by omega
  have h2:(0:Int) ≤ (i:Int) := by omega
  have hw:IntKind.wrap .i64 ((i:Int) + 1) = ((i + 1:Nat):Int) := by rw [wrap64 (by omega)]; omega
  have hc:(s == at_ (.int .i64) ls i) = (at_ (.int .i64) ls i == s) := by rw [Bool.eq_iff_iff,beq_iff_eq,beq_iff_eq]; exact eq_comm
  simp only [g_Sslices_Index_int_int_0,RT.sel,cond_true,h1,h2,hw,decide_true,and_self,Int.toNat_natCast,hc]) (by simp [g_Sslices_Index_int_int_0,RT.sel])
 have h1:g_Lslices_Index_int_int_0 ls s (ls.length:Int) 0 = some r := h1
 constructor
 ·simp [g_Aslices_Contains_int_int,g_Aslices_Index_int_int,h1,okO]
 ·simp only [g_Vslices_Contains_int_int_0,g_Vslices_Index_int_int_0,h1,valO,Option.getD_some,h2]
  rw [Bool.eq_iff_iff]
  simp
theorem i_out_f (l:List Item) (k w i c s f g:Int) (h:plcP 2 l = true) (hw:0 ≤ w ∧ w ≤ 9):g_Ai_out l k w i c s f g = true ∧ g_Vi_out_0 l k w i c s f g = (outP l w).2.1 ∧ g_Vi_out_1 l k w i c s f g = (outP l w).2.2 := by
 have hlen := storeP_len (plc_store h)
 obtain ⟨n1,n2⟩ := named_f 117 w hw
 obtain ⟨L,_⟩ := loop_foldS (e := TI_) (step := g_Si_out_0 l (l.length:Int) k w i c s f g false [] [] true) l (fun i a => (i,a.1,a.2)) (outF w) id (fun i a => a.1.length ≤ i + 1 ∧ a.2.length ≤ i) (fun j a hj ha => by
  have k1:(j:Int) < l.length := by omega
  have k2:(0:Int) ≤ (j:Int) := by omega
  obtain ⟨p1,p2⟩ := plc_item h (List.getElem_mem hj)
  have p3 := may_item p1
  have hat:at_ (Ty.pair Ty.str (Ty.sl (nat_lit 3) (Ty.int IntKind.i64))) l j = l[j] := at_eq (e := TI_) hj
  have e0:List.drop j l = l[j] :: l.drop (j + 1) := List.drop_eq_getElem_cons hj
  generalize l[j] = x at p1 p2 p3 hat e0
  have q1:decide ((0:Int) ≤ (0:Int) ∧ (0:Int) < (x.1.size:Int)) = true := decide_eq_true (by have := p2.size; omega)
  have q2:decide ((0:Int) ≤ (0:Int) ∧ (0:Int) < (x.2.length:Int)) = true := decide_eq_true (by have := p2.len; omega)
  have hwr:IntKind.wrap .i64 ((j:Int) + 1) = ((j + 1:Nat):Int) := by rw [wrap64 (by omega)]; omega
  have f0:(byteAt x.1 (nat_lit 0) == (102:Int)) = (byteAt x.1 0 == 102) := rfl
  have f1:(at_ (Ty.int IntKind.i64) x.2 (nat_lit 0) == w) = (nth x.2 0 == w) := rfl
  have f2:(at_ (Ty.int IntKind.i64) x.2 (nat_lit 2) == (1:Int)) = (nth x.2 2 == 1) := rfl
  have c1:decide ((List.length a.1 + List.length [x.1]) * nat_lit 16 ≤ nat_lit 140737488355328 ∧ List.length a.1 + List.length [x.1] ≤ nat_lit 9223372036854775807) = true := capF_f _ _ _ (by show _ + 1 ≤ _; omega) (by decide)
  have c2:decide ((List.length a.2 + List.length [(x.1,false,[w,at_ (Ty.int IntKind.i64) x.2 (nat_lit 1),(0:Int)])]) * nat_lit 48 ≤ nat_lit 140737488355328 ∧ List.length a.2 + List.length [(x.1,false,[w,at_ (Ty.int IntKind.i64) x.2 (nat_lit 1),(0:Int)])] ≤ nat_lit 9223372036854775807) = true := capF_f _ _ _ (by show _ + 1 ≤ _; omega) (by decide)
  rw [e0]
  simp only [g_Si_out_0,RT.sel,cond_true,k1,k2,decide_true,and_self,Int.toNat_natCast,hat,q1,q2,hwr,f0,f1,f2,c1,c2,outF,famP]
  by_cases hf:byteAt x.1 0 = 102
  ·have h3:x.2.length = 3 := by
    rcases p3.2.2 with h1 | h1
    ·rw [hf] at h1; exact absurd h1.1 (by decide)
    ·exact h1.2.1
   have d1:decide ((0:Int) ≤ (1:Int) ∧ (1:Int) < (x.2.length:Int)) = true := decide_eq_true (by omega)
   have d2:decide ((0:Int) ≤ (2:Int) ∧ (2:Int) < (x.2.length:Int)) = true := decide_eq_true (by omega)
   have hb:(byteAt x.1 0 == (102:Int)) = true := by rw [hf]; rfl
   simp only [hb,d1,d2,cond_true,Bool.true_and]
   by_cases hx:nth x.2 0 = w
   ·have hxb:(nth x.2 0 == w) = true := by rw [hx]; simp
    have ew:(x.1,false,[w,at_ (Ty.int IntKind.i64) x.2 (nat_lit 1),(0:Int)]) = famW x := by unfold famW; rw [hx]
    rw [hxb,ew]
    cases (nth x.2 2 == 1) <;> refine ⟨rfl,?_⟩
    ·exact ⟨by simp only [Bool.and_false,cond_false]; omega,by simp only [Bool.and_false,cond_false]; omega⟩
    ·exact ⟨by simp only [Bool.and_self,cond_true,List.length_append,List.length_cons,List.length_nil]; omega,by simp only [Bool.and_self,cond_true,List.length_append,List.length_cons,List.length_nil]; omega⟩
   ·have hxb:(nth x.2 0 == w) = false := by simpa using hx
    rw [hxb]
    exact ⟨rfl,by simp only [Bool.false_and,cond_false]; omega,by simp only [Bool.false_and,cond_false]; omega⟩
  ·have hb:(byteAt x.1 0 == (102:Int)) = false := by simpa using hf
   simp only [hb,cond_false,Bool.false_and]
   exact ⟨by trivial,by omega,by omega⟩) (fun a => by simp only [g_Si_out_0,RT.sel,cond_true,Int.lt_irrefl,decide_false,cond_false,id]) ([nm 117 w],[]) ⟨by simp,by simp⟩
 rw [outF_eq] at L
 have L:g_Li_out_0 l (l.length:Int) k w i c s f g false [] [] true (0,[nm 117 w],[]) = some ((outP l w).2.1,(outP l w).2.2) := L
 unfold g_Ai_out g_Vi_out_0 g_Vi_out_1
 rw [n1,n2,L]
 exact ⟨rfl,rfl,rfl⟩
theorem i_atMay_f (l:List Item) (k w i c s f g:Int) (h:plcP 2 l = true) (hk:k = 2 ∨ k = 3 ∨ k = 4 ∨ k = 5) (hw:0 ≤ w ∧ w ≤ 9) (hc:0 ≤ c ∧ c ≤ 9) (hf:0 ≤ f ∧ f ≤ 9) (hg:0 ≤ g):g_Ai_atMay l k w i c s f g = true ∧ g_Vi_atMay_0 l k w i c s f g = (mayP l k w c s f g).1 ∧ g_Vi_atMay_1 l k w i c s f g = (mayP l k w c s f g).2.1 ∧ g_Vi_atMay_2 l k w i c s f g = (mayP l k w c s f g).2.2 := by
 obtain ⟨m1,m2⟩ := named_f 99 c hc
 obtain ⟨a1,a2,a3⟩ := iget l (nm 99 c) (plc_store h)
 obtain ⟨t1,t2,t3,t4⟩ := i_trade_f l k w i c s f g h hc hf
 obtain ⟨n1,n2,n3,n4⟩ := i_next_f l k w i c s f g h hf hg
 obtain ⟨o1,o2,o3⟩ := i_out_f l k w i c s f g h hw
 unfold g_Ai_atMay g_Vi_atMay_0 g_Vi_atMay_1 g_Vi_atMay_2 mayP letP
 rw [m1,m2,a1,a2,(secsum_eq s).1,(secsum_eq s).2,t1,t2,t3,t4,n1,n2,n3,n4,o1,o2,o3]
 simp only [← Option.not_isSome]
 rcases hk with rfl | rfl | rfl | rfl <;> cases (getP l (nm 99 c)).isSome <;> exact ⟨rfl,rfl,rfl,rfl⟩
theorem i_isTx_f (tx:Int):g_Ai_isTx tx = true ∧ g_Vi_isTx_0 tx = decide (0 ≤ tx ∧ tx ≤ 29) := i_in_f tx 0 29
theorem i_PlcPlan_f (place:Int) (l:List Item) (tx k w i c s f g:Int) (hl:l.length ≤ 1048576) (hit:∀ x ∈ l,x.2.length ≤ 1048576) :
  g_Ai_PlcPlan place l tx k w i c s f g = true ∧ g_Vi_PlcPlan_0 place l tx k w i c s f g = (planP place l tx k w i c s f g).1 ∧ g_Vi_PlcPlan_1 place l tx k w i c s f g = (planP place l tx k w i c s f g).2.1 ∧ g_Vi_PlcPlan_2 place l tx k w i c s f g = (planP place l tx k w i c s f g).2.2 := by
 obtain ⟨a1,a2⟩ := i_PlcOk_f place l hl hit
 obtain ⟨c1,c2⟩ := i_OpPlaces_f k w i c s f g
 obtain ⟨d1,d2⟩ := containsJ_f (placesP k w i c s f g) place (by have := placesP_len k w i c s f g; omega)
 unfold g_Ai_PlcPlan g_Vi_PlcPlan_0 g_Vi_PlcPlan_1 g_Vi_PlcPlan_2 planP
 rw [a1,a2,c1,c2,d1,d2,(i_isTx_f _).1,(i_isTx_f _).2]
 cases hp:plcP place l
 ·exact ⟨rfl,rfl,rfl,rfl⟩
 ·by_cases ht:0 ≤ tx ∧ tx ≤ 29
  ·rw [decide_eq_true ht]
   cases ho:opP k w i c s f g
   ·have e:(placesP k w i c s f g).contains place = false := by unfold placesP; rw [ho]; rfl
    rw [e]
    exact ⟨rfl,rfl,rfl,rfl⟩
   ·have hop := ho
    simp only [opP,Bool.and_eq_true,decide_eq_true_eq] at hop
    obtain ⟨hw,hi,hc,hf,hs,hg,hk⟩ := hop
    cases hm:(placesP k w i c s f g).contains place
    ·exact ⟨rfl,rfl,rfl,rfl⟩
    ·unfold planL
     by_cases h1:place = 1
     ·subst h1
      obtain ⟨t1,t2,t3,t4⟩ := i_atIn_f l k w i c s f g hp hi
      rw [t1,t2,t3,t4]
      exact ⟨rfl,rfl,rfl,rfl⟩
     ·have e1:(place == 1) = false := by simpa using h1
      rw [e1]
      by_cases h2:place = 2
      ·subst h2
       have hk4:k = 2 ∨ k = 3 ∨ k = 4 ∨ k = 5 := by
        unfold opK at hk
        by_cases k1:k = 1
        ·subst k1
         unfold placesP at hm
         rw [ho] at hm
         cases hm
        ·simp only [k1,decide_false,Bool.false_or,Bool.cond_eq_ite,decide_eq_true_eq] at hk
         split at hk
         ·omega
         ·split at hk
          ·omega
          ·split at hk
           ·omega
           ·simp only [Bool.and_eq_true,decide_eq_true_eq] at hk; omega
       obtain ⟨t1,t2,t3,t4⟩ := i_atMay_f l k w i c s f g hp hk4 hw hc hf hg.1
       rw [t1,t2,t3,t4]
       exact ⟨rfl,rfl,rfl,rfl⟩
      ·have e2:(place == 2) = false := by simpa using h2
       obtain ⟨n1,n2⟩ := namedA_f tx ht
       obtain ⟨b1,b2,_⟩ := iget l (nmA tx) (plc_store hp)
       rw [e2,n1,n2,b1,b2]
       unfold doneP
       simp only [← Option.not_isSome]
       cases (getP l (nmA tx)).isSome <;> exact ⟨rfl,rfl,rfl,rfl⟩
  ·rw [decide_eq_false ht]
   cases opP k w i c s f g <;> exact ⟨rfl,rfl,rfl,rfl⟩
theorem i_GloOk_f (l:List (List (ByteArray×List Int))) (hl:l.length ≤ 1048576) (hit:∀ x ∈ l,x.length ≤ 1048576 ∧ ∀ y ∈ x,y.2.length ≤ 1048576):g_Ai_GloOk l = true ∧ g_Vi_GloOk_0 l = gloP l := by
 have h:g_Li_GloOk_0 l l (l.length:Int) 0 = some (bif (List.range l.length).all (fun i => plcP ((i + 1:Nat):Int) (at_ TB_ l i)) then .inr () else .inl false) := by
  refine loop_all (ρ := Bool ⊕ Unit) (step := g_Si_GloOk_0 l l (l.length:Int)) (fun i:Nat => (i:Int)) (fun i => plcP ((i + 1:Nat):Int) (at_ TB_ l i)) (Sum.inl false) (Sum.inr ()) l.length (fun i hi => ?_) ?_
  ·have k1:(i:Int) < l.length := by omega
   have k2:(0:Int) ≤ (i:Int) := by omega
   have hw:IntKind.wrap .i64 ((i:Int) + 1) = ((i + 1:Nat):Int) := by rw [wrap64 (by omega)]; omega
   have hh := hit _ (at_mem (e := TB_) hi)
   obtain ⟨q1,q2⟩ := i_PlcOk_f ((i + 1:Nat):Int) _ hh.1 hh.2
   simp only [g_Si_GloOk_0,RT.sel,cond_true,k1,k2,hw,decide_true,and_self,Int.toNat_natCast,q1,q2]
   generalize plcP _ _ = p
   cases p <;> rfl
  ·simp [g_Si_GloOk_0,RT.sel]
 have e3:((l.length:Int) == 3) = decide (l.length = 3) := by rw [Bool.eq_iff_iff]; simp; omega
 constructor
 ·simp [g_Ai_GloOk,h,okO]
 ·simp only [g_Vi_GloOk_0,h,valO,Option.getD_some,e3,gloP]
  generalize (List.range l.length).all _ = p
  generalize decide (l.length = 3) = q
  cases p <;> cases q <;> rfl
theorem at_setB (l:Stos) (i j:Nat) (x:List Item) (h:i ≠ j):at_ TB_ (l.set i x) j = at_ TB_ l j := by
 simp only [at_,List.getD_eq_getElem?_getD,List.getElem?_set]
 rw [if_neg h]
theorem places_nodup (k w i c s f g:Int):(placesP k w i c s f g).Nodup ∧ ∀ p ∈ placesP k w i c s f g,1 ≤ p ∧ p ≤ 3 := by
 unfold placesP
 cases opP k w i c s f g <;> cases (k == 1) <;> cases (k == 2) <;> cases (k == 5) <;> simp
theorem i_gdo {l:Stos} (h:gloP l = true) {tx k w i c s f g:Int} (ht:0 ≤ tx ∧ tx ≤ 29) (ho:opP k w i c s f g = true) :
  g_Ai_GloDo l tx k w i c s f g = true ∧ g_Vi_GloDo_0 l tx k w i c s f g = (gloDoP l tx k w i c s f g).getD l ∧ g_Vi_GloDo_1 l tx k w i c s f g = (gloDoP l tx k w i c s f g).isSome := by
 have h3 := (gloP_at h (p := 1) (by omega)).1
 have big:∀ x ∈ l,x.length ≤ 1048576 ∧ ∀ y ∈ x,y.2.length ≤ 1048576 := fun x hx => (gloP_small h).2 x hx
 obtain ⟨a1,a2⟩ := i_GloOk_f l (by omega) big
 obtain ⟨b1,b2⟩ := i_OpOk_f k w i c s f g
 obtain ⟨c1,c2⟩ := i_isTx_f tx
 obtain ⟨d1,d2⟩ := i_OpPlaces_f k w i c s f g
 obtain ⟨hnd,hpl⟩ := places_nodup k w i c s f g
 have hplan:∀ p ∈ placesP k w i c s f g,g_Ai_PlcPlan p (at_ TB_ l (p - 1).toNat) tx k w i c s f g = true ∧ g_Vi_PlcPlan_0 p (at_ TB_ l (p - 1).toNat) tx k w i c s f g = (planL p (at_ TB_ l (p - 1).toNat) tx k w i c s f g).1 ∧ g_Vi_PlcPlan_2 p (at_ TB_ l (p - 1).toNat) tx k w i c s f g = (planL p (at_ TB_ l (p - 1).toNat) tx k w i c s f g).2.2 := by
  intro p hp
  have hq := hpl p hp
  have hb := big _ (at_mem (e := TB_) (l := l) (i := (p - 1).toNat) (by omega))
  obtain ⟨e1,e2,e3,e4⟩ := i_PlcPlan_f p (at_ TB_ l (p - 1).toNat) tx k w i c s f g hb.1 hb.2
  have ep:planP p (at_ TB_ l (p - 1).toNat) tx k w i c s f g = planL p (at_ TB_ l (p - 1).toNat) tx k w i c s f g := by
   unfold planP
   rw [(gloP_at h hq).2,ho,decide_eq_true ht,List.contains_iff_mem.2 hp]
   rfl
  rw [ep] at e2 e4
  exact ⟨e1,e2,e4⟩
 have L0:g_Li_GloDo_0 l tx l (l.length:Int) k w i c s f g ([],[],0) = some (l.map id,l.map id) := by
  have := loop_app (e := TB_) (step := g_Si_GloDo_0 l tx l (l.length:Int) k w i c s f g) l (fun i r => (r,r,i)) id (fun r => (r,r)) (fun i r hi hr => by
   have k1:(i:Int) < l.length := by omega
   have k2:(0:Int) ≤ (i:Int) := by omega
   have hx := big _ (at_mem (e := TB_) hi)
   obtain ⟨q1,q2⟩ := i_scopied_f (at_ TB_ l i) hx.1 hx.2
   simp only [g_Si_GloDo_0,RT.sel,cond_true,k1,k2,decide_true,and_self,Int.toNat_natCast,q1,q2]
   rw [capF_f r.length _ 24 (by show _ + 1 ≤ _; omega) (by decide),cond_true,wrap64 (x := (i:Int) + 1) (by omega)]
   rfl) (fun r hr => by simp only [g_Si_GloDo_0,RT.sel,cond_true,Int.lt_irrefl,decide_false,cond_false])
  exact this
 rw [List.map_id] at L0
 unfold g_Ai_GloDo g_Vi_GloDo_0 g_Vi_GloDo_1
 rw [a1,a2,b1,b2,c1,c2,d1,d2,h,ho,decide_eq_true ht,L0]
 unfold gloDoP
 generalize hps:placesP k w i c s f g = ps at hnd hpl hplan
 have hlen:ps.length ≤ 3 := by rw [← hps]; exact placesP_len k w i c s f g
 have L:∃ r,g_Li_GloDo_2 l tx l ps (ps.length:Int) k w i c s f g (l,0) = some r ∧ (match r with
   | .inl q => q.1 = false ∧ doP l tx k w i c s f g ps l = none
   | .inr q => doP l tx k w i c s f g ps l = some q) := by
  refine loop_inv (step := g_Si_GloDo_2 l tx l ps (ps.length:Int) k w i c s f g) (fun x => 0 ≤ x.2 ∧ x.2.toNat ≤ ps.length ∧ x.1.length = 3 ∧ (∀ q ∈ ps.drop x.2.toNat,at_ TB_ x.1 (q - 1).toNat = at_ TB_ l (q - 1).toNat) ∧ doP l tx k w i c s f g (ps.drop x.2.toNat) x.1 = doP l tx k w i c s f g ps l) _ (fun x => ps.length - x.2.toNat) ?_ _ ⟨by simp,by simp,h3,fun _ _ => rfl,by simp⟩
  rintro ⟨out,j⟩ ⟨i1,i2,i3,i5,i4⟩
  simp only at i1 i2 i3 i4 i5
  by_cases hj:j < (ps.length:Int)
  ·have hn:j.toNat < ps.length := by omega
   have hnd':(ps.drop j.toNat).Nodup := hnd.sublist (List.drop_sublist _ _)
   rw [List.drop_eq_getElem_cons hn] at i4 i5 hnd'
   have hmem := List.getElem_mem hn
   have hp := hpl _ hmem
   have hat:at_ (.int .i64) ps j.toNat = ps[j.toNat] := at_eq (e := .int .i64) hn
   obtain ⟨p1,p2,p4⟩ := hplan _ hmem
   generalize ps[j.toNat] = p at hp i4 i5 hat hnd' p1 p2 p4
   have hq := (gloP_at h hp).2
   have e1:(j + 1).toNat = j.toNat + 1 := by omega
   have hps := plan_small p (at_ TB_ l (p - 1).toNat) tx k w i c s f g hq
   have hto := big _ (at_mem (e := TB_) (l := l) (i := (p - 1).toNat) (by omega))
   obtain ⟨d1,d2⟩ := i_StoDo_f (at_ TB_ l (p - 1).toNat) (planL p (at_ TB_ l (p - 1).toNat) tx k w i c s f g).2.2 hto.1 hto.2 (by omega) (fun x hx => by have := hps.2 x hx; omega)
   have u1:decide ((0:Int) ≤ j ∧ j < (ps.length:Int)) = true := decide_eq_true ⟨i1,hj⟩
   have u2:decide (Int.toNat j < List.length ps) = true := decide_eq_true hn
   have hw:IntKind.wrap .i64 (p - 1) = p - 1 := wrap64 (by omega)
   have u3:decide ((0:Int) ≤ p - 1 ∧ p - 1 < (l.length:Int)) = true := decide_eq_true (by omega)
   have u4:decide ((0:Int) ≤ p - 1 ∧ p - 1 < (out.length:Int)) = true := decide_eq_true (by omega)
   have u5:decide (Int.toNat (p - 1) < out.length) = true := decide_eq_true (by omega)
   have sel:(g_Si_GloDo_2 l tx l ps (ps.length:Int) k w i c s f g (out,j)).sel = bif (planL p (at_ TB_ l (p - 1).toNat) tx k w i c s f g).1 then .go (out.set (p - 1).toNat (doS (at_ TB_ l (p - 1).toNat) (planL p (at_ TB_ l (p - 1).toNat) tx k w i c s f g).2.2),j + 1) else .out (.inl (false,out)) := by
    simp only [g_Si_GloDo_2,RT.sel,decide_eq_true hj,u1,u2,u3,u4,u5,cond_true,hat,hw,p1,p2,p4,d1,d2,wrap64 (x := j + 1) (by omega)]
    generalize (planL p (at_ TB_ l (p - 1).toNat) tx k w i c s f g).1 = b
    cases b <;> rfl
   have i6 := i5 p List.mem_cons_self
   simp only [doP,i6] at i4
   cases hb:(planL p (at_ TB_ l (p - 1).toNat) tx k w i c s f g).1
   ·rw [hb] at sel i4
    exact .inr ⟨_,sel,rfl,i4.symm⟩
   ·rw [hb,cond_true] at sel i4
    refine .inl ⟨_,sel,⟨by simp only; omega,by simp only; omega,by simp only [List.length_set]; exact i3,fun q hq => ?_,?_⟩,by simp only; omega⟩
    ·simp only [e1] at hq
     have hne:q ≠ p := fun e => (List.nodup_cons.1 hnd').1 (e ▸ hq)
     have hqb := hpl q (List.mem_of_mem_drop hq)
     rw [at_setB _ _ _ _ (by omega)]
     exact i5 q (List.mem_cons_of_mem _ hq)
    ·simp only [e1]
     exact i4
  ·refine .inr ⟨.inr out,?_,?_⟩
   ·simp only [g_Si_GloDo_2,RT.sel,hj,decide_false,cond_true,cond_false]
   ·rw [List.drop_of_length_le (by omega)] at i4
    simp only [doP] at i4
    exact i4.symm
 obtain ⟨r,e1,e2⟩ := L
 simp only [okO,valO,Option.isSome_some,Option.getD_some]
 rw [e1]
 cases r with
 | inl q =>
  obtain ⟨e2,e3⟩ := e2
  rw [e3]
  simp only [isL,getL,Option.isSome_some,Option.getD_some,Option.getD_none,Option.isSome_none,cond_true,cond_false,e2,Bool.not_true,Bool.and_self,Bool.false_or,and_self]
 | inr q =>
  rw [e2]
  simp only [isL,getR,Option.isSome_some,Option.getD_some,cond_false,cond_true,Bool.not_true,Bool.and_self,Bool.false_or,and_self]
theorem i_GloDo_f (l:Stos) (tx k w i c s f g:Int) (hs:smallG l) :
  g_Ai_GloDo l tx k w i c s f g = true ∧ g_Vi_GloDo_1 l tx k w i c s f g = ((gloP l&&(opP k w i c s f g&&decide (0 ≤ tx ∧ tx ≤ 29)))&&(gloDoP l tx k w i c s f g).isSome) ∧ (gloP l = true → opP k w i c s f g = true → 0 ≤ tx ∧ tx ≤ 29 → g_Vi_GloDo_0 l tx k w i c s f g = (gloDoP l tx k w i c s f g).getD l) := by
 obtain ⟨a1,a2⟩ := i_GloOk_f l (by have := hs.1; omega) hs.2
 obtain ⟨b1,b2⟩ := i_OpOk_f k w i c s f g
 obtain ⟨c1,c2⟩ := i_isTx_f tx
 cases hg:gloP l
 ·unfold g_Ai_GloDo g_Vi_GloDo_1
  rw [a1,a2,hg]
  exact ⟨rfl,rfl,fun e => by cases e⟩
 ·cases ho:opP k w i c s f g
  ·unfold g_Ai_GloDo g_Vi_GloDo_1
   rw [a1,a2,b1,b2,hg,ho]
   exact ⟨rfl,rfl,fun _ e => by cases e⟩
  ·by_cases ht:0 ≤ tx ∧ tx ≤ 29
   ·obtain ⟨h1,h2,h3⟩ := i_gdo hg ht ho
    exact ⟨h1,by rw [h3,decide_eq_true ht]; rfl,fun _ _ _ => h2⟩
   ·unfold g_Ai_GloDo g_Vi_GloDo_1
    rw [a1,a2,b1,b2,c1,c2,hg,ho,decide_eq_false ht]
    exact ⟨rfl,rfl,fun _ _ e => absurd e ht⟩
abbrev okW2 (p:Int) (x:Wrt):Prop := wrtP x.1 x.2.1 x.2.2 = true ∧ (x.2.1 = false → placeP p (x.1,x.2.2) = true)
theorem doL_plc {p:Int}:∀ (ws:List Wrt) (l r:List Item),plcP p l = true → (∀ x ∈ ws,okW2 p x) → doL l ws = some r → plcP p r = true
 | [],l,r,h,_,e => by simp only [doL,Option.some.injEq] at e; subst e; exact h
 | x :: ws,l,r,h,hw,e => by
  have hx := hw x List.mem_cons_self
  simp only [doL,hx.1,cond_true] at e
  by_cases hl:(writeS l x.1 x.2.1 x.2.2).length ≤ 40
  ·rw [decide_eq_true hl,cond_true] at e
   exact doL_plc ws _ r (plc_write h hx.1 hl hx.2) (fun y hy => hw y (List.mem_cons_of_mem _ hy)) e
  ·rw [decide_eq_false hl,cond_false] at e
   cases e
theorem plcP_nil {p:Int} (h:1 ≤ p ∧ p ≤ 3):plcP p [] = true := by
 unfold plcP
 rw [decide_eq_true h,storeP_nil]
 rfl
theorem doS_plc {p:Int} {l:List Item} {ws:List Wrt} (hp:1 ≤ p ∧ p ≤ 3) (h:plcP p l = true) (hw:∀ x ∈ ws,okW2 p x):plcP p (doS l ws) = true := by
 rw [doS_of (plc_store h)]
 cases e:doL l ws with
 | none => exact plcP_nil hp
 | some r => exact doL_plc ws l r h hw e
theorem ok_one {p:Int} {k:ByteArray} {d:Bool} {v:List Int} (h1:wrtP k d v = true) (h2:d = false → placeP p (k,v) = true):∀ x ∈ [((k,d,v):Wrt)],okW2 p x := by
 intro x hx
 rw [List.mem_singleton] at hx
 subst hx
 exact ⟨h1,h2⟩
theorem plan_ok {p:Int} {l:List Item} (h:plcP p l = true) {tx k w i c s f g:Int} (ho:opP k w i c s f g = true) (ht:0 ≤ tx ∧ tx ≤ 29) (hp:p ∈ placesP k w i c s f g):∀ x ∈ (planL p l tx k w i c s f g).2.2,okW2 p x := by
 obtain ⟨bw,bi,bc,bf,bs,bg,hk⟩ := opP_bd ho
 have hpl := (places_nodup k w i c s f g).2 p hp
 have hp3:p = 1 ∨ p = 2 ∨ p = 3 := by omega
 have none_:∀ x ∈ ([]:List Wrt),okW2 p x := fun x hx => by cases hx
 rcases hp3 with rfl | rfl | rfl
 ·show ∀ x ∈ (inP l k w i).2.2,okW2 1 x
  have kf := nm_f (c := 115) (by simp) bi
  have w1 := wrtP_val kf.2.2.1 (valP1 (a := w) (by omega))
  have w2 := wrtP_del kf.2.2.1
  have p1:placeP 1 (nm 115 i,[w]) = true := by
   unfold placeP
   simp only [decide_true,cond_true,byte_s,kf.2.2.2,List.length_cons,List.length_nil,Nat.zero_add,Bool.true_and,decide_eq_true_eq]
   exact bw.2
  unfold inP noP
  cases getP l (nm 115 i) with
  | none =>
   cases (k == 1)
   ·exact none_
   ·exact ok_one w1 (fun _ => p1)
  | some v =>
   simp only
   cases (k == 1)
   ·cases (nth v 0 == w)
    ·exact none_
    ·cases (k == 5)
     ·exact none_
     ·exact ok_one w2 (fun e => by cases e)
   ·exact none_
 ·show ∀ x ∈ (mayP l k w c s f g).2.2,okW2 2 x
  have kc := nm_f (c := 99) (by simp) bc
  have kf := nm_f (c := 102) (by simp) bf
  have pf:∀ a0 a1 a2:Int,a0 ≤ 9 → (1 ≤ a1 ∧ a1 ≤ 99) → a2 ≤ 1 → placeP 2 (nm 102 f,[a0,a1,a2]) = true := by
   intro a0 a1 a2 h0 h1 h2
   unfold placeP
   simp only [show ¬ ((2:Int) = 1) by decide,decide_false,cond_false,decide_true,cond_true,byte_f,kf.2.2.2,Bool.true_and,Bool.and_eq_true,Bool.or_eq_true,decide_eq_true_eq]
   exact ⟨h0,.inr ⟨rfl,h1,h2⟩⟩
  unfold mayP
  cases (k == 2)
  ·cases (k == 3)
   ·cases (k == 4)
    ·show ∀ x ∈ (outP l w).2.2,okW2 2 x
     unfold outP
     intro x hx
     obtain ⟨y,hy,rfl⟩ := List.mem_map.1 hx
     obtain ⟨h1,h2⟩ := List.mem_filter.1 hy
     have := out_wrt h h1 h2
     exact ⟨this.1,fun _ => this.2⟩
    ·show ∀ x ∈ (nextP l f g).2.2,okW2 2 x
     unfold nextP noP
     cases hg:getP l (nm 102 f) with
     | none => exact none_
     | some v =>
      simp only
      have hv := may_who h hg
      have fg := fam_get h hg
      cases hq:(nth v 2 == 0) || (decide (g > nth v 1) || ((g == 0) || (nth v 1 == 99)))
      ·have n99:nth v 1 ≠ 99 := by
        intro e
        rw [e] at hq
        simp at hq
       cases decide (g < nth v 1)
       ·exact ok_one (wrtP_val kf.2.2.1 (valP3 (by omega) (by omega) (by omega))) (fun _ => pf _ _ _ hv.2 (by omega) (by omega))
       ·exact ok_one (wrtP_val kf.2.2.1 (valP3 (by omega) (by omega) (by omega))) (fun _ => pf _ _ _ hv.2 (by omega) (by omega))
      ·exact none_
   ·show ∀ x ∈ (tradeP l c s f).2.2,okW2 2 x
    unfold tradeP noP
    cases hg:getP l (nm 99 c) with
    | none => exact none_
    | some v =>
     simp only
     have hv := may_who h hg
     cases (getP l (nm 102 f)).isSome || !(nth v 1 == g_Vs_SecSum_0 s)
     ·intro x hx
      have hx:x ∈ ([(nm 99 c,true,[]),(nm 102 f,false,[nth v 0,1,1])]:List Wrt) := hx
      rcases List.mem_cons.1 hx with rfl | hx
      ·exact ⟨wrtP_del kc.2.2.1,fun e => by cases e⟩
      ·exact ok_one (wrtP_val kf.2.2.1 (valP3 (by omega) (by omega) (by omega))) (fun _ => pf _ _ _ hv.2 (by omega) (by omega)) x hx
     ·exact none_
  ·show ∀ x ∈ (letP l w c s).2.2,okW2 2 x
   unfold letP noP
   cases (getP l (nm 99 c)).isSome
   ·refine ok_one (wrtP_val kc.2.2.1 (valP2 (by omega) (by rw [secsum_range bs]; omega))) (fun _ => ?_)
    unfold placeP
    simp only [show ¬ ((2:Int) = 1) by decide,decide_false,cond_false,decide_true,cond_true,byte_c,kc.2.2.2,Bool.true_and,Bool.and_eq_true,Bool.or_eq_true,decide_eq_true_eq]
    exact ⟨bw.2,.inl (by first | rfl | exact ⟨rfl,rfl⟩)⟩
   ·exact none_
 ·show ∀ x ∈ (doneP l tx k).2.2,okW2 3 x
  have f2 := nmA_f ht
  unfold doneP noP
  cases (getP l (nmA tx)).isSome
  ·refine ok_one (wrtP_val f2.2.1 (valP1 (a := k) (by omega))) (fun _ => ?_)
   unfold placeP
   simp only [show ¬ ((3:Int) = 1) by decide,show ¬ ((3:Int) = 2) by decide,decide_false,cond_false,decide_true,cond_true,f2.2.2,List.length_cons,List.length_nil,Nat.zero_add,Bool.true_and]
  ·exact none_
theorem gloP_set {l:Stos} (h:gloP l = true) {p:Int} (hp:1 ≤ p ∧ p ≤ 3) {x:List Item} (hx:plcP p x = true):gloP (l.set (p - 1).toNat x) = true := by
 have h3 := (gloP_at h hp).1
 simp only [gloP,Bool.and_eq_true,decide_eq_true_eq,List.all_eq_true,List.mem_range,List.length_set]
 refine ⟨h3,fun j hj => ?_⟩
 by_cases e:j = (p - 1).toNat
 ·have e2:((j + 1:Nat):Int) = p := by omega
  rw [e2]
  have:at_ TB_ (l.set (p - 1).toNat x) j = x := by
   simp only [at_,List.getD_eq_getElem?_getD,List.getElem?_set,e]
   rw [if_pos trivial,if_pos (by omega)]
   rfl
  rw [this]
  exact hx
 ·rw [at_setB _ _ _ _ (fun e' => e e'.symm)]
  have := (gloP_at h (p := ((j + 1:Nat):Int)) (by omega)).2
  rwa [show (((j + 1:Nat):Int) - 1).toNat = j by omega] at this
theorem doP_glo {l:Stos} (h:gloP l = true) {tx k w i c s f g:Int} (ht:0 ≤ tx ∧ tx ≤ 29) (ho:opP k w i c s f g = true):∀ (ps:List Int) (out r:Stos),(∀ p ∈ ps,p ∈ placesP k w i c s f g) → gloP out = true → doP l tx k w i c s f g ps out = some r → gloP r = true
 | [],out,r,_,hg,e => by simp only [doP,Option.some.injEq] at e; subst e; exact hg
 | p :: ps,out,r,hps,hg,e => by
  have hm := hps p List.mem_cons_self
  have hp := (places_nodup k w i c s f g).2 p hm
  simp only [doP] at e
  cases hb:(planL p (at_ TB_ l (p - 1).toNat) tx k w i c s f g).1
  ·rw [hb] at e; cases e
  ·rw [hb,cond_true] at e
   exact doP_glo h ht ho ps _ r (fun q hq => hps q (List.mem_cons_of_mem _ hq)) (gloP_set hg hp (doS_plc hp (gloP_at hg hp).2 (plan_ok (gloP_at h hp).2 ho ht hm))) e
theorem gloDo_glo {l:Stos} (h:gloP l = true) {tx k w i c s f g:Int} (ht:0 ≤ tx ∧ tx ≤ 29) (ho:opP k w i c s f g = true) {r:Stos} (e:gloDoP l tx k w i c s f g = some r):gloP r = true :=
 doP_glo h ht ho _ l r (fun _ hp => hp) h e
def heldV (l:List Item) (x:Wrt):List Int := (getP l x.1).getD x.2.2
theorem may_mine {l:List Item} (h:plcP 2 l = true) {k w i c s f g:Int} (ho:opP k w i c s f g = true):∃ who:Int,0 ≤ who ∧ (k ≠ 3 → k ≠ 4 → who = w) ∧ ∀ x ∈ (mayP l k w c s f g).2.2,heldV l x ≠ [] ∧ nth (heldV l x) 0 = who := by
 obtain ⟨bw,bi,bc,bf,bs,bg,hk⟩ := opP_bd ho
 have none_:∀ (z:Int),∀ x ∈ ([]:List Wrt),heldV l x ≠ [] ∧ nth (heldV l x) 0 = z := fun _ x hx => by cases hx
 have one_:∀ (z:Int) (y:Wrt),(heldV l y ≠ [] ∧ nth (heldV l y) 0 = z) → ∀ x ∈ [y],heldV l x ≠ [] ∧ nth (heldV l x) 0 = z := fun z y hy x hx => by
  rw [List.mem_singleton] at hx
  rw [hx]; exact hy
 have full:∀ {key:ByteArray} {v:List Int},getP l key = some v → v ≠ [] := fun {key v} hg e => by
  have := (plc_item h (get_item hg)).2.len.1
  rw [e] at this
  simp at this
 unfold mayP
 cases e2:(k == 2)
 ·cases e3:(k == 3)
  ·cases e4:(k == 4)
   ·refine ⟨w,bw.1,fun _ _ => rfl,?_⟩
    show ∀ x ∈ (outP l w).2.2,heldV l x ≠ [] ∧ nth (heldV l x) 0 = w
    unfold outP
    intro x hx
    obtain ⟨y,hy,rfl⟩ := List.mem_map.1 hx
    obtain ⟨h1,h2⟩ := List.mem_filter.1 hy
    have hg:getP l y.1 = some y.2 := get_mem (plc_srt h) h1
    unfold heldV
    rw [hg]
    refine ⟨full hg,?_⟩
    unfold famP at h2
    simp only [Bool.and_eq_true,beq_iff_eq] at h2
    exact h2.2.1
   ·show ∃ who:Int,0 ≤ who ∧ (k ≠ 3 → k ≠ 4 → who = w) ∧ ∀ x ∈ (nextP l f g).2.2,heldV l x ≠ [] ∧ nth (heldV l x) 0 = who
    have hk4:k = 4 := by simpa using e4
    unfold nextP noP
    cases hg:getP l (nm 102 f) with
    | none => exact ⟨0,by omega,fun _ e => absurd hk4 e,none_ 0⟩
    | some v =>
     simp only
     have hv := may_who h hg
     refine ⟨nth v 0,hv.1,fun _ e => absurd hk4 e,?_⟩
     cases (nth v 2 == 0) || (decide (g > nth v 1) || ((g == 0) || (nth v 1 == 99)))
     ·refine one_ _ _ ?_
      unfold heldV
      rw [hg]
      exact ⟨full hg,rfl⟩
     ·exact none_ _
  ·show ∃ who:Int,0 ≤ who ∧ (k ≠ 3 → k ≠ 4 → who = w) ∧ ∀ x ∈ (tradeP l c s f).2.2,heldV l x ≠ [] ∧ nth (heldV l x) 0 = who
   have hk3:k = 3 := by simpa using e3
   unfold tradeP noP
   cases hg:getP l (nm 99 c) with
   | none => exact ⟨0,by omega,fun e => absurd hk3 e,none_ 0⟩
   | some v =>
    simp only
    have hv := may_who h hg
    refine ⟨nth v 0,hv.1,fun e => absurd hk3 e,?_⟩
    cases hf:getP l (nm 102 f) with
    | some u => exact none_ _
    | none =>
     cases hq:(nth v 1 == g_Vs_SecSum_0 s)
     ·exact none_ _
     ·intro x hx
      have hx:x ∈ ([(nm 99 c,true,[]),(nm 102 f,false,[nth v 0,1,1])]:List Wrt) := hx
      rcases List.mem_cons.1 hx with rfl | hx
      ·unfold heldV
       rw [hg]
       exact ⟨full hg,rfl⟩
      ·refine one_ _ _ ?_ x hx
       unfold heldV
       rw [hf]
       exact ⟨by simp,rfl⟩
 ·refine ⟨w,bw.1,fun _ _ => rfl,?_⟩
  show ∀ x ∈ (letP l w c s).2.2,heldV l x ≠ [] ∧ nth (heldV l x) 0 = w
  unfold letP noP
  cases hf:getP l (nm 99 c) with
  | some u => exact none_ _
  | none =>
   refine one_ _ _ ?_
   unfold heldV
   rw [hf]
   exact ⟨by simp,rfl⟩
theorem i_StoGet_f (l:List (ByteArray×List Int)) (key:ByteArray) (hl:l.length ≤ 1048576) (hit:∀ x ∈ l,x.2.length ≤ 1048576):g_Ai_StoGet l key = true ∧ g_Vi_StoGet_0 l key = (bif storeP l then (getP l key).getD [] else []) ∧ g_Vi_StoGet_1 l key = (storeP l&&(getP l key).isSome) := by
 obtain ⟨a1,a2⟩ := i_StoOk_f l hl hit
 unfold g_Ai_StoGet g_Vi_StoGet_0 g_Vi_StoGet_1
 rw [a1,a2]
 cases h:storeP l
 ·simp
 ·obtain ⟨b1,b2,b3⟩ := sget_f l key h
  rw [b1,b2,b3]
  cases getP l key <;> simp
theorem mine_loop (l x:Stos) (k w i c s f g:Int) (b:Bool) (ls:List ByteArray) (ws:List Wrt) (who:Int) (hh:0 ≤ who) (h3:l.length = 3) (hs:storeP (at_ TB_ l 1) = true) (h1:(at_ TB_ l 1).length ≤ 1048576) (h2:∀ y ∈ at_ TB_ l 1,y.2.length ≤ 1048576) (hws:ws.length ≤ 1000) (hm:∀ y ∈ ws,heldV (at_ TB_ l 1) y ≠ [] ∧ nth (heldV (at_ TB_ l 1) y) 0 = who) :
  ∃ r:Int,g_Lw_FnPlanMine_0 l x k w i c s f g b ls ws (-1,0) = some (.inr r) ∧ (r = -1 ∨ r = who) := by
 have L:∃ r,g_Lw_FnPlanMine_0 l x k w i c s f g b ls ws (-1,0) = some r ∧ (∃ q:Int,r = .inr q ∧ (q = -1 ∨ q = who)) := by
  refine loop_inv (step := g_Sw_FnPlanMine_0 l x k w i c s f g b ls ws) (fun y => 0 ≤ y.2 ∧ y.2 ≤ ws.length ∧ (y.1 = -1 ∨ y.1 = who)) _ (fun y => (ws.length - y.2).toNat) ?_ _ ⟨by simp,by simp,.inl rfl⟩
  rintro ⟨q,n⟩ ⟨i1,i2,i3⟩
  simp only at i1 i2 i3
  by_cases hx:n < (ws.length:Int)
  ·have hn:n.toNat < ws.length := by omega
   have hat:at_ (.pair .str (.pair .bool (.sl 3 (.int .i64)))) ws n.toNat = ws[n.toNat] := at_eq (e := .pair .str (.pair .bool (.sl 3 (.int .i64)))) hn
   have hy := hm _ (List.getElem_mem hn)
   generalize ws[n.toNat] = y at hat hy
   have v0:decide ((0:Int) ≤ n ∧ n < (ws.length:Int)) = true := decide_eq_true ⟨i1,hx⟩
   have v1:decide (Int.toNat n < ws.length) = true := decide_eq_true hn
   have v2:decide ((0:Int) ≤ (1:Int) ∧ (1:Int) < (l.length:Int)) = true := decide_eq_true (by omega)
   have hw:IntKind.wrap .i64 (n + 1) = n + 1 := wrap64 (by omega)
   obtain ⟨s1,s2,s3⟩ := i_StoGet_f (at_ TB_ l 1) y.1 h1 h2
   rw [hs,cond_true] at s2
   rw [hs,Bool.true_and] at s3
   have s1:g_Ai_StoGet (at_ (Ty.sl (nat_lit 49) (Ty.pair Ty.str (Ty.sl (nat_lit 3) (Ty.int IntKind.i64)))) l (nat_lit 1)) y.1 = true := s1
   have s2:g_Vi_StoGet_0 (at_ (Ty.sl (nat_lit 49) (Ty.pair Ty.str (Ty.sl (nat_lit 3) (Ty.int IntKind.i64)))) l (nat_lit 1)) y.1 = (getP (at_ TB_ l 1) y.1).getD [] := s2
   have s3:g_Vi_StoGet_1 (at_ (Ty.sl (nat_lit 49) (Ty.pair Ty.str (Ty.sl (nat_lit 3) (Ty.int IntKind.i64)))) l (nat_lit 1)) y.1 = (getP (at_ TB_ l 1) y.1).isSome := s3
   have go:∀ v:List Int,v ≠ [] → nth v 0 = who → ((v.length:Int) == 0) = false ∧ decide ((0:Int) ≤ (0:Int) ∧ (0:Int) < (v.length:Int)) = true ∧ decide (nat_lit 0 < v.length) = true ∧ at_ (Ty.int IntKind.i64) v (nat_lit 0) = who := by
    intro v hv e
    have hl:0 < v.length := List.length_pos_iff.2 hv
    exact ⟨by simpa using hv,decide_eq_true (by omega),decide_eq_true hl,e⟩
   have hne:(who != who) = false := by simp
   have hge:decide (who ≥ (0:Int)) = true := decide_eq_true hh
   have hng:decide ((-1:Int) ≥ (0:Int)) = false := rfl
   refine .inl ⟨(who,n + 1),?_,⟨by simp only; omega,by simp only; omega,.inr rfl⟩,by simp only; omega⟩
   unfold heldV at hy
   cases hg:getP (at_ TB_ l 1) y.1 with
   | none =>
    rw [hg] at s3 hy
    simp only [Option.isSome_none] at s3
    simp only [Option.getD_none] at hy
    obtain ⟨g1,g2,g3,g4⟩ := go _ hy.1 hy.2
    rcases i3 with rfl | rfl
    ·simp only [g_Sw_FnPlanMine_0,RT.sel,decide_eq_true hx,cond_true,cond_false,v0,v1,v2,hat,s1,s3,Bool.not_false,g1,g2,g4,hng,hw]
    ·simp only [g_Sw_FnPlanMine_0,RT.sel,decide_eq_true hx,cond_true,cond_false,v0,v1,v2,hat,s1,s3,Bool.not_false,g1,g2,g4,hge,hne,hw]
   | some v =>
    rw [hg] at s2 s3 hy
    simp only [Option.isSome_some] at s3
    simp only [Option.getD_some] at hy s2
    obtain ⟨g1,g2,g3,g4⟩ := go _ hy.1 hy.2
    rcases i3 with rfl | rfl
    ·simp only [g_Sw_FnPlanMine_0,RT.sel,decide_eq_true hx,cond_true,cond_false,v0,v1,v2,hat,s1,s2,s3,Bool.not_true,g1,g2,g3,g4,hng,hw]
    ·simp only [g_Sw_FnPlanMine_0,RT.sel,decide_eq_true hx,cond_true,cond_false,v0,v1,v2,hat,s1,s2,s3,Bool.not_true,g1,g2,g3,g4,hge,hne,hw]
  ·refine .inr ⟨.inr q,?_,q,rfl,i3⟩
   simp only [g_Sw_FnPlanMine_0,RT.sel,decide_eq_false hx,cond_true,cond_false]
 obtain ⟨r,r1,q,rfl,r2⟩ := L
 exact ⟨q,r1,r2⟩
theorem pure_FnPlanMine (a:List Int) (ok:a.length ≤ maxLen ∧ ∀ n ∈ a,(Lit.int .u8 n).wf = true):Fw_FnPlanMine [argRV false (.sl 5 (.int .u8)) a] = some (true,.val false [.bool true],[]) := by
 show some (g_Aw_FnPlanMine a,RV.val false [Cell.bool (g_Vw_FnPlanMine_0 a)],[]) = _
 have key:g_Aw_FnPlanMine a = true ∧ g_Vw_FnPlanMine_0 a = true := by
  by_cases hl:(a.length:Int) > 1048576
  ·unfold g_Aw_FnPlanMine g_Vw_FnPlanMine_0
   rw [decide_eq_true hl]; exact ⟨rfl,rfl⟩
  ·obtain ⟨d1,d2,d3⟩ := drawGloDo_f a ok.2
   unfold g_Aw_FnPlanMine g_Vw_FnPlanMine_0
   rw [decide_eq_false hl,d1]
   generalize g_Vs_DrawGloDo_0 a = l at d2 d3
   generalize g_Vs_DrawGloDo_1 a = tx
   generalize g_Vs_DrawGloDo_2 a = k
   generalize g_Vs_DrawGloDo_3 a = w
   generalize g_Vs_DrawGloDo_4 a = i
   generalize g_Vs_DrawGloDo_5 a = c
   generalize g_Vs_DrawGloDo_6 a = s
   generalize g_Vs_DrawGloDo_7 a = f
   generalize g_Vs_DrawGloDo_8 a = g
   have big:∀ s ∈ l,s.length ≤ 1048576 ∧ ∀ x ∈ s,x.2.length ≤ 1048576 := fun s hs => by
    have := d3 s hs
    exact ⟨by have := this.1; omega,fun x hx => by have := this.2 x hx; omega⟩
   have hsm:smallG l := ⟨by omega,big⟩
   obtain ⟨a1,a2,a3⟩ := i_GloDo_f l tx k w i c s f g hsm
   obtain ⟨b1,_,b3⟩ := s_GloDo_f l tx k w i c s f g hsm
   rw [a1,a2,b1,b3,jaOk_f.1,jaOk_f.2]
   have hself:∀ b:Bool,(!b == b) = false := fun b => by cases b <;> rfl
   rw [hself]
   cases hg:gloP l
   ·exact ⟨rfl,rfl⟩
   ·cases ho:opP k w i c s f g
    ·exact ⟨rfl,rfl⟩
    ·by_cases ht:0 ≤ tx ∧ tx ≤ 29
     ·rw [decide_eq_true ht]
      cases hd:gloDoP l tx k w i c s f g with
      | none => exact ⟨rfl,rfl⟩
      | some r =>
       by_cases h1:k = 1
       ·have:(k == 1) = true := by simpa using h1
        rw [this]
        exact ⟨rfl,rfl⟩
       ·have e1:(k == 1) = false := by simpa using h1
        have hr := a3 hg ho ht
        rw [hd] at hr
        have hr:g_Vi_GloDo_0 l tx k w i c s f g = r := hr
        have hgr := gloDo_glo hg ht ho hd
        obtain ⟨c1,c2⟩ := i_GloOk_f r (by have := (gloP_at hgr (p := 1) (by omega)).1; omega) (gloP_small hgr).2
        rw [hgr] at c2
        have hp := (gloP_at hg (p := 2) (by omega)).2
        have hp:plcP 2 (at_ TB_ l 1) = true := hp
        have hb := big _ (at_mem (e := TB_) (l := l) (i := 1) (by omega))
        obtain ⟨p1,_,p3,p4⟩ := i_PlcPlan_f 2 (at_ TB_ l 1) tx k w i c s f g hb.1 hb.2
        have hc:(placesP k w i c s f g).contains 2 = true := by
         obtain ⟨_,_,_,_,_,_,hk⟩ := opP_bd ho
         unfold placesP
         rw [ho,e1]
         rcases hk with rfl | rfl | rfl | rfl | rfl
         ·exact absurd rfl h1
         ·rfl
         ·rfl
         ·rfl
         ·rfl
        have ep:planP 2 (at_ TB_ l 1) tx k w i c s f g = mayP (at_ TB_ l 1) k w c s f g := by
         unfold planP
         rw [hp,ho,decide_eq_true ht,hc]
         rfl
        rw [ep] at p4
        obtain ⟨who,w1,w2,w3⟩ := may_mine hp ho
        have hps := plan_small 2 (at_ TB_ l 1) tx k w i c s f g hp
        have hps:(mayP (at_ TB_ l 1) k w c s f g).2.2.length ≤ 40 ∧ _ := hps
        have p1:g_Ai_PlcPlan 2 (at_ (Ty.sl (nat_lit 49) (Ty.pair Ty.str (Ty.sl (nat_lit 3) (Ty.int IntKind.i64)))) l (nat_lit 1)) tx k w i c s f g = true := p1
        have p4:g_Vi_PlcPlan_2 2 (at_ (Ty.sl (nat_lit 49) (Ty.pair Ty.str (Ty.sl (nat_lit 3) (Ty.int IntKind.i64)))) l (nat_lit 1)) tx k w i c s f g = (mayP (at_ TB_ l 1) k w c s f g).2.2 := p4
        have v2:decide ((0:Int) ≤ (1:Int) ∧ (1:Int) < (l.length:Int)) = true := decide_eq_true (by omega)
        rw [e1,hr,p1,p4,c1,c2,v2]
        obtain ⟨q,q1,q2⟩ := mine_loop l r k w i c s f g (g_Vi_PlcPlan_0 2 (at_ (Ty.sl (nat_lit 49) (Ty.pair Ty.str (Ty.sl (nat_lit 3) (Ty.int IntKind.i64)))) l (nat_lit 1)) tx k w i c s f g) (g_Vi_PlcPlan_1 2 (at_ (Ty.sl (nat_lit 49) (Ty.pair Ty.str (Ty.sl (nat_lit 3) (Ty.int IntKind.i64)))) l (nat_lit 1)) tx k w i c s f g) (mayP (at_ TB_ l 1) k w c s f g).2.2 who w1 d2 (plc_store hp) hb.1 hb.2 (by omega) w3
        rw [q1]
        simp only [okO,valO,isL,getR,Option.isSome_some,Option.getD_some,cond_true,cond_false,Bool.not_true,Bool.not_false,Bool.false_or,Bool.true_and,Bool.and_true,Bool.or_true]
        refine ⟨trivial,?_⟩
        rcases q2 with rfl | rfl
        ·rfl
        ·by_cases k3:k = 3
         ·have:(k == 3) = true := by simpa using k3
          simp only [this,cond_true,Bool.cond_self]
         ·by_cases k4:k = 4
          ·have:(k == 4) = true := by simpa using k4
           simp only [this,cond_true,Bool.cond_self]
          ·have:(q == w) = true := by rw [w2 k3 k4]; exact BEq.rfl
           simp only [this,Bool.cond_self]
     ·rw [decide_eq_false ht]
      exact ⟨rfl,rfl⟩
 rw [key.1,key.2]
end Go.Proofs.YtjoggjjjlafdmaaGreatDoor.E
