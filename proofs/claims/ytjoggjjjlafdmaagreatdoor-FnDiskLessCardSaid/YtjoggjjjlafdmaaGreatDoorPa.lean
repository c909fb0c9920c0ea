/- What these values are, in plain words: for the proof (laws.FnDiskLess): part 1. No conditions. -/
import Derived.Test.YtjoggjjjlafdmaaGreatDoorGc
import Derived.Lib.SlTrimSet
set_option linter.all false
namespace Go.Proofs.YtjoggjjjlafdmaaGreatDoor.E
open Go
set_option maxRecDepth 100000
set_option maxHeartbeats 0
theorem wrap64 {x:Int} (h:-9223372036854775808 ≤ x ∧ x < 9223372036854775808):IntKind.wrap .i64 x = x := by
 simp only [IntKind.wrap,IntKind.bits,IntKind.signed]
 simp
 omega
section
variable {σ ρ α β:Type} {step:σ → RT σ ρ}
theorem loop_all (mk:Nat → σ) (p:Nat → Bool) (e fin:ρ) (n:Nat) (h1:∀ i,i < n → (step (mk i)).sel = bif p i then .go (mk (i + 1)) else .out e) (h2:(step (mk n)).sel = .out fin) :
  loopO step (mk 0) = some (bif (List.range n).all p then fin else e) := by
 have key:∀ k i,i + k = n → loopO step (mk i) = some (bif (List.range' i k).all p then fin else e) := by
  intro k
  induction k with
  | zero =>
   intro i hi
   have hi:i = n := by omega
   subst hi
   rw [loopO_eq,h2]
   rfl
  | succ k ih =>
   intro i hi
   rw [loopO_eq,h1 i (by omega),List.range'_succ,List.all_cons]
   cases p i with
   | true => simp only [cond_true,Bool.true_and]; exact ih (i + 1) (by omega)
   | false => rfl
 rw [key n 0 (by omega),List.range_eq_range']
theorem range_all {e:Ty} (l:List e.den) (p:e.den → Bool):(List.range l.length).all (fun i => p (at_ e l i)) = l.all p := by
 rw [Bool.eq_iff_iff,List.all_eq_true,List.all_eq_true]
 constructor
 ·intro h x hx
  obtain ⟨i,hi,rfl⟩ := List.getElem_of_mem hx
  have := h i (List.mem_range.2 hi)
  simpa [at_,hi] using this
 ·intro h i hi
  have hi := List.mem_range.1 hi
  have := h l[i] (List.getElem_mem hi)
  simpa [at_,hi] using this
theorem at_mem {e:Ty} {l:List e.den} {i:Nat} (h:i < l.length):at_ e l i ∈ l := by
 have:at_ e l i = l[i] := by simp [at_,h]
 rw [this]
 exact List.getElem_mem h
theorem at_eq {e:Ty} {l:List e.den} {i:Nat} (h:i < l.length):at_ e l i = l[i] := by simp [at_,h]
theorem loop_list {e:Ty} (l:List e.den) (mk:Nat → σ) (p:e.den → Bool) (x fin:ρ) (h1:∀ i,i < l.length → (step (mk i)).sel = bif p (at_ e l i) then .go (mk (i + 1)) else .out x) (h2:(step (mk l.length)).sel = .out fin) :
  loopO step (mk 0) = some (bif l.all p then fin else x) := by
 rw [loop_all mk (fun i => p (at_ e l i)) x fin l.length h1 h2,range_all]
theorem loop_idx {e:Ty} (l:List e.den) {step:Int → RT Int (Int ⊕ Unit)} (q:e.den → Bool) (h1:∀ i:Nat,i < l.length → (step (i:Int)).sel = bif q (at_ e l i) then .out (.inl (i:Int)) else .go ((i + 1:Nat):Int))
  (h2:(step (l.length:Int)).sel = .out (.inr ())):∃ r,loopO step 0 = some r ∧ decide ((bif isL r then getL r else (-1:Int)) ≥ 0) = l.any q := by
 have key:∀ (k i:Nat),i + k = l.length → ∃ r,loopO step (i:Int) = some r ∧ decide ((bif isL r then getL r else (-1:Int)) ≥ 0) = (l.drop i).any q := by
  intro k
  induction k with
  | zero =>
   intro i hi
   have hi:i = l.length := by omega
   subst hi
   refine ⟨_,by rw [loopO_eq,h2],?_⟩
   simp [isL]
  | succ k ih =>
   intro i hi
   rw [loopO_eq,h1 i (by omega)]
   have hil:i < l.length := by omega
   rw [List.drop_eq_getElem_cons hil,List.any_cons,at_eq hil]
   cases hq:q l[i] with
   | true => exact ⟨_,rfl,by simp [isL,getL]⟩
   | false => simp only [cond_false,Bool.false_or]; exact ih (i + 1) (by omega)
 exact key l.length 0 (by omega)
end
theorem dropWhile_nil {α:Type} (p:α → Bool) (l:List α):l.dropWhile p = [] ↔ ∀ x ∈ l,p x = true := by
 induction l with
 | nil => simp
 | cons a l ih =>
  by_cases h:p a = true
  ·rw [List.dropWhile_cons_of_pos h,ih]; simp [h]
  ·rw [List.dropWhile_cons_of_neg h]; simp [h]
theorem trimS_nil (l cs:List UInt8):(Lib.trimS l cs = []) ↔ l.all (cs.contains ·) = true := by
 unfold Lib.trimS Lib.trimLeftS Lib.trimRightS
 constructor
 ·intro h
  rw [dropWhile_nil] at h
  rw [List.all_eq_true]
  intro x hx
  have h2:∀ (m:List UInt8),(∀ y ∈ (m.dropWhile (cs.contains ·)).reverse,cs.contains y = true) → ∀ y ∈ m,cs.contains y = true := by
   intro m
   induction m with
   | nil => intro _ y hy; cases hy
   | cons a m ih =>
    intro hm y hy
    by_cases ha:cs.contains a = true
    ·rw [List.dropWhile_cons_of_pos ha] at hm
     rcases List.mem_cons.1 hy with rfl | hy
     ·exact ha
     ·exact ih hm y hy
    ·rw [List.dropWhile_cons_of_neg ha] at hm
     exact hm y (List.mem_reverse.2 hy)
  exact h2 l.reverse (fun y hy => h y hy) x (by simpa using hx)
 ·intro h
  rw [List.all_eq_true] at h
  rw [dropWhile_nil]
  intro x hx
  have:x ∈ l := by
   have h3 := List.mem_reverse.1 hx
   have := (List.dropWhile_sublist (fun x => cs.contains x) (l := l.reverse)).subset h3
   simpa using this
  exact h x this
theorem byte_range (s:ByteArray) (i:Nat):0 ≤ byteAt s i ∧ byteAt s i < 256 := by
 unfold byteAt
 have := (s.data[i]?.getD 0).toNat_lt
 omega
theorem i_in_f (a b c:Int):g_Ai_in a b c = true ∧ g_Vi_in_0 a b c = decide (b ≤ a ∧ a ≤ c) := by
 constructor
 ·simp [g_Ai_in]
 ·unfold g_Vi_in_0
  by_cases h:a ≥ b
  ·simp [h]
  ·simp [h]
theorem s_l1In_f (a b c:Int):g_As_l1In a b c = true ∧ g_Vs_l1In_0 a b c = decide (b ≤ a ∧ a ≤ c) := by
 constructor
 ·simp [g_As_l1In]
 ·unfold g_Vs_l1In_0
  by_cases h:a ≥ b
  ·simp [h]
  ·simp [h]
def dig (b:UInt8):Bool := decide (48 ≤ b.toNat ∧ b.toNat ≤ 57)
def keyP (s:ByteArray):Bool := decide (2 ≤ s.size ∧ s.size ≤ 3)&&(decide (97 ≤ byteAt s 0 ∧ byteAt s 0 ≤ 122)&&(s.data.toList.drop 1).all dig)
def valP (l:List Int):Bool := decide (1 ≤ l.length ∧ l.length ≤ 3)&&l.all fun n => decide (0 ≤ n ∧ n ≤ 9999)
def wrtP (k:ByteArray) (d:Bool) (l:List Int):Bool := keyP k&&bif d then l.isEmpty else valP l
theorem dig_mem (b:UInt8):[48,49,50,51,52,53,54,55,56,57].contains b = dig b := by
 have h:∀ b:Fin 256,[48,49,50,51,52,53,54,55,56,57].contains (UInt8.ofNat b.val) = dig (UInt8.ofNat b.val) := by decide +kernel
 have := h ⟨b.toNat,b.toNat_lt⟩
 simpa using this
theorem i_keyOk_f (s:ByteArray):g_Ai_keyOk s = true ∧ g_Vi_keyOk_0 s = keyP s := by
 have hb := byte_range s 0
 have hw:IntKind.wrap .i64 (byteAt s 0) = byteAt s 0 := wrap64 (by omega)
 have e1:∀ n:Nat,decide ((2:Int) ≤ (n:Int) ∧ (n:Int) ≤ 3) = decide (2 ≤ n ∧ n ≤ 3) := fun n => decide_eq_decide.2 (by omega)
 constructor
 ·simp only [g_Ai_keyOk,(i_in_f _ _ _).1,(i_in_f _ _ _).2,hw,e1]
  by_cases h:2 ≤ s.size ∧ s.size ≤ 3
  ·have h1:(0:Int) < s.size := by omega
   have h2:(1:Int) ≤ s.size := by omega
   have h3:(s.extract 1 s.size).size ≤ 9223372036854775807 := by rw [ByteArray.size_extract]; omega
   have h4:g_ascii (lit [48,49,50,51,52,53,54,55,56,57]) = true := by decide +kernel
   simp only [h,h1,h2,h3,h4,and_self,decide_true,Bool.true_and,Bool.and_true,Bool.not_true,Bool.false_or,Int.le_refl,Bool.or_true,show (0:Int) ≤ 1 from by decide]
  ·simp [h]
 ·simp only [g_Vi_keyOk_0,(i_in_f _ _ _).2,hw,e1,keyP]
  have e2:(ByteArray.toList (g_trim (s.extract 1 s.size) (lit [48,49,50,51,52,53,54,55,56,57])) == []) = (s.data.toList.drop 1).all dig := by
   rw [ByteArray.toList_eq]
   show ((Lib.trimS (s.extract 1 s.size).data.toList [48,49,50,51,52,53,54,55,56,57]) == []) = _
   have e3:(s.extract 1 s.size).data.toList = s.data.toList.drop 1 := by
    simp only [ByteArray.data_extract,Array.toList_extract,List.extract_eq_take_drop]
    rw [List.take_of_length_le (by rw [List.length_drop,Array.length_toList]; exact Nat.le_refl _)]
   rw [e3,Bool.eq_iff_iff,beq_iff_eq]
   refine (trimS_nil (List.drop 1 s.data.toList) [48,49,50,51,52,53,54,55,56,57]).trans ?_
   simp only [dig_mem]
  rw [e2]
  cases decide (2 ≤ s.size ∧ s.size ≤ 3) <;> cases decide (97 ≤ byteAt s 0 ∧ byteAt s 0 ≤ 122) <;> rfl
theorem s_l1Key_loop (s:ByteArray) (hs:s.size < 1000) (h1:1 ≤ s.size):g_Ls_l1Key_0 s 1 = some (bif (s.data.toList.drop 1).all dig then .inr () else .inl false) := by
 have h := loop_all (step := g_Ss_l1Key_0 s) (fun i:Nat => ((i + 1:Nat):Int)) (fun i => dig ((s.data[i + 1]?).getD 0)) (Sum.inl false) (Sum.inr ()) (s.size - 1) (fun i hi => by
   have h1:((i + 1:Nat):Int) < s.size := by omega
   have h2:(0:Int) ≤ ((i + 1:Nat):Int) := by omega
   have hw:IntKind.wrap .i64 (((i + 1:Nat):Int) + 1) = ((i + 1 + 1:Nat):Int) := by rw [wrap64 (by omega)]; omega
   simp only [g_Ss_l1Key_0,RT.sel,cond_true,h1,h2,hw,decide_true,and_self,Int.toNat_natCast]
   have hb:byteAt s (i + 1) = (((s.data[i + 1]?).getD 0).toNat:Int) := rfl
   simp only [hb]
   generalize (s.data[i + 1]?).getD 0 = b
   unfold dig
   by_cases k1:b.toNat < 48
   ·have k2:¬ 48 ≤ b.toNat := by omega
    have k3:(b.toNat:Int) < 48 := by omega
    simp [k2,k3]
   ·have k2:48 ≤ b.toNat := by omega
    have k3:¬ (b.toNat:Int) < 48 := by omega
    by_cases k4:b.toNat ≤ 57
    ·have k5:¬ (b.toNat:Int) > 57 := by omega
     simp [k2,k3,k4,k5,RT.sel]
    ·have k5:(b.toNat:Int) > 57 := by omega
     simp [k2,k3,k4,k5,RT.sel]) (by
   have hn:((s.size - 1 + 1:Nat):Int) = (s.size:Int) := by omega
   simp only [g_Ss_l1Key_0,RT.sel,hn,cond_true,Int.lt_irrefl,decide_false,cond_false])
 unfold g_Ls_l1Key_0
 refine Eq.trans h ?_
 congr 2
 rw [Bool.eq_iff_iff,List.all_eq_true,List.all_eq_true]
 have hsz:s.size = s.data.toList.length := Array.length_toList.symm
 constructor
 ·intro h x hx
  obtain ⟨i,hi,rfl⟩ := List.getElem_of_mem hx
  have hi':i + 1 < s.data.toList.length := by simp at hi ⊢; omega
  have := h i (List.mem_range.2 (by omega))
  have e:(s.data[i + 1]?).getD 0 = s.data.toList[i + 1] := by rw [Array.getElem?_eq_getElem (by simpa using hi')]; simp
  rw [e] at this
  simpa [Nat.add_comm] using this
 ·intro h i hi
  have hi := List.mem_range.1 hi
  have hi':i + 1 < s.data.toList.length := by omega
  have e:(s.data[i + 1]?).getD 0 = s.data.toList[i + 1] := by rw [Array.getElem?_eq_getElem (by simpa using hi')]; simp
  rw [e]
  refine h _ ?_
  rw [List.mem_iff_getElem]
  exact ⟨i,by simp at hi' ⊢; omega,by simp [Nat.add_comm]⟩
theorem s_l1Key_f (s:ByteArray):g_As_l1Key s = true ∧ g_Vs_l1Key_0 s = keyP s := by
 have e1:∀ n:Nat,decide ((2:Int) ≤ (n:Int) ∧ (n:Int) ≤ 3) = decide (2 ≤ n ∧ n ≤ 3) := fun n => decide_eq_decide.2 (by omega)
 by_cases h:2 ≤ s.size ∧ s.size ≤ 3
 ·have h0:(0:Int) < s.size := by omega
  have hl := s_l1Key_loop s (by omega) (by omega)
  constructor
  ·simp only [g_As_l1Key,(s_l1In_f _ _ _).1,(s_l1In_f _ _ _).2,e1,hl,okO,h,h0,Option.isSome_some,and_self,decide_true,Bool.true_and,Bool.or_true,Int.le_refl]
  ·simp only [g_Vs_l1Key_0,(s_l1In_f _ _ _).2,e1,hl,okO,valO,keyP,Option.getD_some]
   by_cases k1:byteAt s 0 < 97
   ·simp [h,k1,show ¬ (97 ≤ byteAt s 0) by omega]
   ·by_cases k2:byteAt s 0 > 122
    ·simp [h,k1,k2,show ¬ (byteAt s 0 ≤ 122) by omega]
    ·simp only [h,k1,k2,show 97 ≤ byteAt s 0 by omega,show byteAt s 0 ≤ 122 by omega]
     cases (s.data.toList.drop 1).all dig <;> rfl
 ·constructor
  ·simp only [g_As_l1Key,(s_l1In_f _ _ _).1,(s_l1In_f _ _ _).2,e1]
   simp [h]
  ·simp only [g_Vs_l1Key_0,(s_l1In_f _ _ _).2,e1,keyP]
   simp [h]
theorem s_l1Val_loop (l:List Int) (hl:l.length ≤ 1048576):g_Ls_l1Val_0 l 0 = some (bif l.all (fun n => decide (0 ≤ n ∧ n ≤ 9999)) then .inr () else .inl false) := by
 refine loop_list (ρ := Bool ⊕ Unit) (e := .int .i64) l (fun i:Nat => (i:Int)) (fun n => decide (0 ≤ n ∧ n ≤ 9999)) (Sum.inl false) (Sum.inr ()) (fun i hi => ?_) ?_
 ·have h1:(i:Int) < l.length := by omega
  have h2:(0:Int) ≤ (i:Int) := by omega
  have hw:IntKind.wrap .i64 ((i:Int) + 1) = ((i + 1:Nat):Int) := by rw [wrap64 (by omega)]; omega
  simp only [g_Ss_l1Val_0,RT.sel,cond_true,h1,h2,hw,decide_true,and_self,Int.toNat_natCast,(s_l1In_f _ _ _).1,(s_l1In_f _ _ _).2]
  cases decide (0 ≤ at_ (.int .i64) l i ∧ at_ (.int .i64) l i ≤ 9999) <;> rfl
 ·simp [g_Ss_l1Val_0,RT.sel]
theorem s_l1Val_f (l:List Int) (hl:l.length ≤ 1048576):g_As_l1Val l = true ∧ g_Vs_l1Val_0 l = valP l := by
 have hk := s_l1Val_loop l hl
 have e1:decide ((1:Int) ≤ (l.length:Int) ∧ (l.length:Int) ≤ 3) = decide (1 ≤ l.length ∧ l.length ≤ 3) := decide_eq_decide.2 (by omega)
 constructor
 ·simp only [g_As_l1Val,hk,okO,valO,(s_l1In_f _ _ _).1]; simp
 ·simp only [g_Vs_l1Val_0,hk,valO,(s_l1In_f _ _ _).2,e1,valP,Option.getD_some]
  cases l.all (fun n => decide (0 ≤ n ∧ n ≤ 9999)) <;> cases decide (1 ≤ l.length ∧ l.length ≤ 3) <;> rfl
theorem i_valOk_1_f (n:Int):g_Ai_valOk_1 n = true ∧ g_Vi_valOk_1_0 n = !decide (0 ≤ n ∧ n ≤ 9999) := ⟨(i_in_f _ _ _).1,congrArg not (i_in_f _ _ _).2⟩
theorem i_valOk_f (l:List Int) (hl:l.length ≤ 1048576):g_Ai_valOk l = true ∧ g_Vi_valOk_0 l = valP l := by
 obtain ⟨r,h1,h2⟩ := loop_idx (e := .int .i64) l (step := g_Sslices_IndexFunc_int_int__i_valOk_1_0 l (l.length:Int)) (fun n => !decide (0 ≤ n ∧ n ≤ 9999)) (fun i hi => by
  have h1:(i:Int) < l.length := by omega
  have h2:(0:Int) ≤ (i:Int) := by omega
  have hw:IntKind.wrap .i64 ((i:Int) + 1) = ((i + 1:Nat):Int) := by rw [wrap64 (by omega)]; omega
  simp only [g_Sslices_IndexFunc_int_int__i_valOk_1_0,RT.sel,cond_true,h1,h2,hw,decide_true,and_self,Int.toNat_natCast,(i_valOk_1_f _).1,(i_valOk_1_f _).2]) (by simp [g_Sslices_IndexFunc_int_int__i_valOk_1_0,RT.sel])
 have h1:g_Lslices_IndexFunc_int_int__i_valOk_1_0 l (l.length:Int) 0 = some r := h1
 have e1:decide ((1:Int) ≤ (l.length:Int) ∧ (l.length:Int) ≤ 3) = decide (1 ≤ l.length ∧ l.length ≤ 3) := decide_eq_decide.2 (by omega)
 constructor
 ·simp [g_Ai_valOk,(i_in_f _ _ _).1,g_Aslices_ContainsFunc_int_int__i_valOk_1,g_Aslices_IndexFunc_int_int__i_valOk_1,h1,okO]
 ·simp only [g_Vi_valOk_0,(i_in_f _ _ _).2,e1,g_Vslices_ContainsFunc_int_int__i_valOk_1_0,g_Vslices_IndexFunc_int_int__i_valOk_1_0,h1,valO,Option.getD_some,h2,valP]
  rw [show (l.any fun n => !decide (0 ≤ n ∧ n ≤ 9999)) = !(l.all fun n => decide (0 ≤ n ∧ n ≤ 9999)) by rw [List.not_all_eq_any_not],Bool.not_not]
  cases decide (1 ≤ l.length ∧ l.length ≤ 3) <;> rfl
theorem s_WrtOk_f (k:ByteArray) (d:Bool) (l:List Int) (hl:l.length ≤ 1048576):g_As_WrtOk k d l = true ∧ g_Vs_WrtOk_0 k d l = wrtP k d l := by
 constructor
 ·simp [g_As_WrtOk,(s_l1Key_f _).1,(s_l1Val_f _ hl).1]
 ·simp only [g_Vs_WrtOk_0,(s_l1Key_f _).2,(s_l1Val_f _ hl).2,wrtP]
  cases d <;> cases keyP k <;> cases l <;> simp <;> omega
theorem wrapL {x:Int} (h:0 ≤ x ∧ x ≤ 100000):IntKind.wrap .i64 x = x := wrap64 (by omega)
theorem digit_size (n:Int):(g_Vs_l3Digit_0 n).size = 1 := rfl
theorem plain_f (a:Int) (h:0 ≤ a ∧ a ≤ 99):g_As_l3Plain a = true ∧ (g_Vs_l3Plain_0 a).size ≤ 2 := by
 have e0:(lit []).size = 0 := rfl
 have key:∃ r,g_Ls_l3Plain_0 (a,lit []) = some r ∧ r.2.size ≤ 1 := by
  by_cases h9:a > 9
  ·refine ⟨(Int.tdiv a 10,g_Vs_l3Digit_0 (Int.tmod a 10) ++ lit []),?_,?_⟩
   ·have d:Int.tdiv a 10 = a / 10 := Int.tdiv_eq_ediv_of_nonneg h.1
    have s1:(g_Ss_l3Plain_0 (a,lit [])).sel = .go (Int.tdiv a 10,g_Vs_l3Digit_0 (Int.tmod a 10) ++ lit []) := by
     rw [d]
     simp only [g_Ss_l3Plain_0,RT.sel,h9,decide_true,cond_true,digit_size,e0]
     rw [d,wrapL (by omega)]
     rfl
    unfold g_Ls_l3Plain_0
    rw [loopO_eq,s1]
    show loopO _ _ = _
    rw [loopO_eq]
    have s2:(g_Ss_l3Plain_0 (Int.tdiv a 10,g_Vs_l3Digit_0 (Int.tmod a 10) ++ lit [])).sel = .out (Int.tdiv a 10,g_Vs_l3Digit_0 (Int.tmod a 10) ++ lit []) := by
     rw [d]
     simp only [g_Ss_l3Plain_0,RT.sel,cond_true,decide_eq_false (by omega:¬ a / 10 > 9),cond_false]
    rw [s2]
   ·rw [ByteArray.size_append,digit_size,e0]; omega
  ·refine ⟨(a,lit []),?_,by rw [e0]; omega⟩
   unfold g_Ls_l3Plain_0
   rw [loopO_eq]
   have s2:(g_Ss_l3Plain_0 (a,lit [])).sel = .out (a,lit []) := by
    simp only [g_Ss_l3Plain_0,RT.sel,cond_true,decide_eq_false h9,cond_false]
   rw [s2]
 obtain ⟨r,h1,h2⟩ := key
 refine ⟨?_,?_⟩
 ·simp only [g_As_l3Plain,h1,okO,valO,Option.isSome_some,Option.getD_some,digit_size,Bool.true_and]
  exact decide_eq_true (by omega)
 ·simp only [g_Vs_l3Plain_0,h1,valO,Option.getD_some]
  rw [ByteArray.size_append,digit_size]
  omega
theorem loop_inv {σ ρ:Type} {step:σ → RT σ ρ} (I:σ → Prop) (R:ρ → Prop) (μ:σ → Nat) (h:∀ x,I x → (∃ y,(step x).sel = .go y ∧ I y ∧ μ y < μ x) ∨ ∃ r,(step x).sel = .out r ∧ R r):∀ x,I x → ∃ r,loopO step x = some r ∧ R r := by
 have key:∀ n x,μ x ≤ n → I x → ∃ r,loopO step x = some r ∧ R r := by
  intro n
  induction n with
  | zero =>
   intro x hx hI
   rcases h x hI with ⟨y,_,_,h3⟩ | ⟨r,h1,h2⟩
   ·omega
   ·exact ⟨r,by rw [loopO_eq,h1],h2⟩
  | succ n ih =>
   intro x hx hI
   rcases h x hI with ⟨y,h1,h2,h3⟩ | ⟨r,h1,h2⟩
   ·obtain ⟨r,e1,e2⟩ := ih y (by omega) h2
    exact ⟨r,by rw [loopO_eq,h1]; exact e1,e2⟩
   ·exact ⟨r,by rw [loopO_eq,h1],h2⟩
 exact fun x hI => key (μ x) x (Nat.le_refl _) hI
theorem cond_f' (a b:Bool):(bif a then b else false) = (a&&b) := by cases a <;> rfl
theorem wrapS {x:Int} (h:0 ≤ x ∧ x ≤ 100000):IntKind.wrap .i64 (x + 1) = x + 1 := wrap64 (by omega)
theorem pickA_f (r0:List Int) (r1 n:Int) (h:0 ≤ r1 ∧ r1 ≤ 100000) (hn:1 ≤ n) (hl:r0.length ≤ 1048576):g_pickA r0 r1 n = true := by
 have e1:IntKind.wrap .i64 (IntKind.wrap .i64 (r1 + 1) - 1) = r1 := by rw [wrapS h,wrap64 (by omega)]; omega
 have e2:IntKind.wrap .i64 (IntKind.wrap .i64 (r1 * 7) + 3) = r1 * 7 + 3 := by rw [wrap64 (x := r1 * 7) (by omega),wrap64 (by omega)]
 have e3:(n == 0) = false := by simpa using (by omega:n ≠ 0)
 unfold g_pickA
 simp only [g_As_l20Rd_pick0,e1,e2,e3]
 by_cases hz:r0.length = 0
 ·simp [hz]
 ·have hp:(0:Int) < (r0.length:Int) := by omega
  have t1:0 ≤ Int.tmod r1 r0.length := Int.tmod_nonneg _ h.1
  have t2:Int.tmod r1 r0.length < r0.length := Int.tmod_lt_of_pos _ hp
  have t3:0 ≤ Int.tmod (r1 * 7 + 3) r0.length := Int.tmod_nonneg _ (by omega)
  have t4:Int.tmod (r1 * 7 + 3) r0.length < r0.length := Int.tmod_lt_of_pos _ hp
  have z:((r0.length:Int) == 0) = false := by simpa using hz
  by_cases hlt:r1 < (r0.length:Int)
  ·simp [hlt,h.1]
  ·simp only [decide_eq_false hlt,cond_false,z,Bool.not_false,Bool.true_and,t1,t2,t3,t4,and_self,decide_true,Bool.or_true]
theorem oddA_f (r0:List Int) (r1 n:Int) (h:0 ≤ r1 ∧ r1 ≤ 100000) (hl:r0.length ≤ 1048576):g_As_l20Rd_odd r0 r1 n = true := by
 unfold g_As_l20Rd_odd
 by_cases hn:n > 0
 ·rw [pickA_f r0 r1 n h (by omega) hl]; simp
 ·simp [hn]
theorem open_f (a:List Int):g_As_l20Open a = true ∧ (g_Vs_l20Open_0 a).length ≤ 2000 ∧ g_Vs_l20Open_1 a = 0 := by
 refine ⟨?_,?_,?_⟩
 ·unfold g_As_l20Open
  by_cases h:(a.length:Int) > 2000
  ·have:(2000:Int) ≤ a.length := by omega
   simp [h,this]
  ·simp [h]
   cases decide ((2000:Int) ≤ a.length) <;> rfl
 ·unfold g_Vs_l20Open_0
  by_cases h:(a.length:Int) > 2000
  ·rw [decide_eq_true h,cond_true]; exact Nat.le_trans (by rw [List.length_drop]; exact Nat.sub_le _ _) (List.length_take_le 2000 a)
  ·rw [decide_eq_false h,cond_false]; omega
 ·unfold g_Vs_l20Open_1
  generalize decide ((a.length:Int) > 2000) = p
  cases p <;> rfl
def RdOk (r0:List Int):Prop := r0.length ≤ 1048576 ∧ ∀ n ∈ r0,0 ≤ n ∧ n < 256
theorem at_u8 {r0:List Int} (h:RdOk r0) (i:Nat):∃ x:Int,at_ (.int .u8) r0 i = x ∧ 0 ≤ x ∧ x < 256 := by
 by_cases hi:i < r0.length
 ·exact ⟨_,rfl,h.2 _ (at_mem (e := .int .u8) hi)⟩
 ·refine ⟨0,by simp [at_,List.getElem?_eq_none (by omega:r0.length ≤ i),Ty.zero],by omega,by omega⟩
theorem xor_small {x y:Int} (hx:0 ≤ x ∧ x < 16777216) (hy:0 ≤ y ∧ y < 16777216):((BitVec.toNat (BitVec.ofInt 64 x ^^^ BitVec.ofInt 64 y):Nat):Int) < 16777216 := by
 have key:∀ z:Int,0 ≤ z ∧ z < 16777216 → (BitVec.ofInt 64 z).toNat < 2 ^ 24 := by
  intro z hz
  rw [BitVec.toNat_ofInt]
  have:z % ((2 ^ 64:Nat):Int) = z := Int.emod_eq_of_lt hz.1 (by omega)
  rw [this]
  omega
 have := Nat.xor_lt_two_pow (key x hx) (key y hy)
 rw [BitVec.toNat_xor]
 omega
theorem pick_f (r0:List Int) (r1 n:Int) (h:0 ≤ r1 ∧ r1 ≤ 100000) (hn:1 ≤ n) (hr:RdOk r0):0 ≤ g_pick r0 r1 n ∧ g_pick r0 r1 n < n := by
 have e1:IntKind.wrap .i64 (IntKind.wrap .i64 (r1 + 1) - 1) = r1 := by rw [wrapS h,wrap64 (by omega)]; omega
 have e2:IntKind.wrap .i64 (IntKind.wrap .i64 (r1 * 7) + 3) = r1 * 7 + 3 := by rw [wrap64 (x := r1 * 7) (by omega),wrap64 (by omega)]
 have tm:∀ x:Int,0 ≤ x → 0 ≤ Int.tmod x n ∧ Int.tmod x n < n := fun x hx => ⟨Int.tmod_nonneg _ hx,Int.tmod_lt_of_pos _ (by omega)⟩
 unfold g_pick
 simp only [g_Vs_l20Rd_pick0_0,e1,e2]
 rw [decide_eq_false (by omega:¬ n < 1),cond_false]
 by_cases hz:r0.length = 0
 ·rw [show ((r0.length:Int) == 0) = true by simp [hz],cond_true]; omega
 ·have hp:(0:Int) < (r0.length:Int) := by omega
  rw [show ((r0.length:Int) == 0) = false by simpa using hz,cond_false]
  by_cases hlt:r1 < (r0.length:Int)
  ·rw [decide_eq_true hlt,cond_true]
   obtain ⟨x,e,b⟩ := at_u8 hr r1.toNat
   rw [e,wrap64 (by omega)]
   exact tm _ b.1
  ·rw [decide_eq_false hlt,cond_false]
   obtain ⟨x1,y1,b1⟩ := at_u8 hr (Int.tmod r1 r0.length).toNat
   obtain ⟨x2,y2,b2⟩ := at_u8 hr (Int.tmod (r1 * 7 + 3) r0.length).toNat
   have d0:0 ≤ Int.tdiv r1 r0.length := Int.tdiv_nonneg h.1 (by omega)
   have d1:Int.tdiv r1 r0.length ≤ r1 := by
    rw [Int.tdiv_eq_ediv_of_nonneg h.1]
    exact Int.ediv_le_self _ h.1
   rw [y1,y2]
   generalize Int.tdiv r1 r0.length = q at d0 d1 ⊢
   rw [wrap64 (x := x1) (by omega),wrap64 (x := x2) (by omega),wrap64 (x := x1 * 131) (by omega),wrap64 (x := x2 * 1117) (by omega),wrap64 (x := r1 * 29) (by omega),wrap64 (x := q) (by omega),wrap64 (x := q * 53) (by omega),wrap64 (x := x1 * 131 + x2 * 1117) (by omega),wrap64 (x := x1 * 131 + x2 * 1117 + r1 * 29) (by omega),wrap64 (x := x1 * 131 + x2 * 1117 + r1 * 29 + q * 53) (by omega)]
   generalize hX:x1 * 131 + x2 * 1117 + r1 * 29 + q * 53 = X
   have hX0:0 ≤ X ∧ X < 16777216 := by omega
   have hD:0 ≤ Int.tdiv X 64 ∧ Int.tdiv X 64 < 16777216 := by
    rw [Int.tdiv_eq_ediv_of_nonneg hX0.1]
    omega
   rw [wrap64 (x := Int.tdiv X 64) (by omega)]
   have hx := xor_small hX0 hD
   have hx:(((BitVec.ofInt (nat_lit 64) X ^^^ BitVec.ofInt (nat_lit 64) (Int.tdiv X 64)).toNat:Nat):Int) < 16777216 := hx
   generalize (BitVec.ofInt (nat_lit 64) X ^^^ BitVec.ofInt (nat_lit 64) (Int.tdiv X 64)).toNat = Y at hx ⊢
   rw [wrap64 (by omega)]
   exact tm _ (by omega)
theorem open_ok (a:List Int) (h:∀ n ∈ a,(Lit.int .u8 n).wf = true):RdOk (g_Vs_l20Open_0 a) := by
 have hb:∀ n ∈ a,0 ≤ n ∧ n < 256 := by
  intro n hn
  have := h n hn
  simp [Lit.wf,IntKind.min,IntKind.max,IntKind.bits,IntKind.signed] at this
  omega
 refine ⟨by have := (open_f a).2.1; omega,fun n hn => hb n ?_⟩
 unfold g_Vs_l20Open_0 at hn
 generalize decide ((a.length:Int) > 2000) = p at hn
 cases p
 ·exact hn
 ·exact List.mem_of_mem_take (List.mem_of_mem_drop hn)
theorem pickD_f (r0:List Int) (r1 n m:Int) (h:0 ≤ r1 ∧ r1 ≤ 100000) (hn:1 ≤ n ∧ n ≤ m) (hr:RdOk r0):decide (0 ≤ g_pick r0 r1 n ∧ g_pick r0 r1 n < m) = true := by
 have := pick_f r0 r1 n h hn.1 hr
 exact decide_eq_true ⟨this.1,by omega⟩
theorem pickN_f (r0:List Int) (r1 n:Int) (m:Nat) (h:0 ≤ r1 ∧ r1 ≤ 100000) (hn:1 ≤ n ∧ n ≤ m) (hr:RdOk r0):decide ((g_pick r0 r1 n).toNat < m) = true := by
 have := pick_f r0 r1 n h hn.1 hr
 exact decide_eq_true (by omega)
theorem pickA_f' (r0:List Int) (r1 n:Int) (h:0 ≤ r1 ∧ r1 ≤ 100000) (hn:1 ≤ n) (hr:RdOk r0):g_pickA r0 r1 n = true := pickA_f r0 r1 n h hn hr.1
theorem oddA_f' (r0:List Int) (r1 n:Int) (h:0 ≤ r1 ∧ r1 ≤ 100000) (hr:RdOk r0):g_As_l20Rd_odd r0 r1 n = true := oddA_f r0 r1 n h hr.1
def oddD (n:Int):Int := if n > 0 then 1 else 0
theorem oddP_f (r0:List Int) (r1 n:Int) (h:0 ≤ r1 ∧ r1 ≤ 99999):g_Vs_l20Rd_odd_2 r0 r1 n = r1 + oddD n % 2 := by
 unfold g_Vs_l20Rd_odd_2 oddD
 by_cases hn:n > 0
 ·simp only [hn,decide_true,cond_true,if_true]; rw [wrapL (by omega)]; omega
 ·simp only [hn,decide_false,cond_false,if_false]; omega
theorem at_all {e:Ty} {l:List e.den} {P:e.den → Prop} (hl:∀ x ∈ l,P x) {i:Nat} (hi:i < l.length):P (at_ e l i) := hl _ (at_mem hi)
theorem i_WrtOk_f (k:ByteArray) (d:Bool) (l:List Int) (hl:l.length ≤ 1048576):g_Ai_WrtOk k d l = true ∧ g_Vi_WrtOk_0 k d l = wrtP k d l := by
 constructor
 ·simp [g_Ai_WrtOk,(i_keyOk_f _).1,(i_valOk_f _ hl).1]
 ·simp only [g_Vi_WrtOk_0,(i_keyOk_f _).2,(i_valOk_f _ hl).2,wrtP]
  cases d <;> cases keyP k <;> cases l <;> simp <;> omega
theorem jaOk_f:g_Aw_jaOk = true ∧ g_Vw_jaOk_0 = true := by
 unfold g_Aw_jaOk g_Vw_jaOk_0
 obtain ⟨a,b⟩ := i_WrtOk_f (lit [97,49]) false [1] (by decide)
 rw [a,b]
 refine ⟨rfl,?_⟩
 decide +kernel
def hasP (ls:List ByteArray) (s:ByteArray):Bool := ls.any fun x => x.toList == s.toList
def noteP (k t:Int) (ls:List ByteArray) (ws:List (ByteArray×Bool×List Int)):Bool :=
 decide (1 ≤ k ∧ k ≤ 4)&&(decide (0 ≤ t ∧ t ≤ 29)&&(decide (ls.length ≤ 12)&&(decide (ws.length ≤ 12)&&(ls.all keyP&&(ws.all (fun w => wrtP w.1 w.2.1 w.2.2&&hasP ls w.1)&&(decide (k = 1) || (ls.isEmpty&&ws.isEmpty)))))))
theorem isTx_f (n:Int):g_Ai_isTx n = true ∧ g_Vi_isTx_0 n = decide (0 ≤ n ∧ n ≤ 29) := i_in_f n 0 29
theorem beq_comm' (a b:List UInt8):(a == b) = (b == a) := by
 rw [Bool.eq_iff_iff,beq_iff_eq,beq_iff_eq]
 exact eq_comm
theorem containsS_f (ls:List ByteArray) (s:ByteArray) (hl:ls.length ≤ 1048576):g_Aslices_Contains_string_string ls s = true ∧ g_Vslices_Contains_string_string_0 ls s = hasP ls s := by
 obtain ⟨r,h1,h2⟩ := loop_idx (e := .str) ls (step := g_Sslices_Index_string_string_0 ls s (ls.length:Int)) (fun x => x.toList == s.toList) (fun i hi => by
  have h1:(i:Int) < ls.length := by omega
  have h2:(0:Int) ≤ (i:Int) := by omega
  have hw:IntKind.wrap .i64 ((i:Int) + 1) = ((i + 1:Nat):Int) := by rw [wrap64 (by omega)]; omega
  simp only [g_Sslices_Index_string_string_0,RT.sel,cond_true,h1,h2,hw,decide_true,and_self,Int.toNat_natCast,beq_comm' s.toList]) (by simp [g_Sslices_Index_string_string_0,RT.sel])
 have h1:g_Lslices_Index_string_string_0 ls s (ls.length:Int) 0 = some r := h1
 constructor
 ·simp [g_Aslices_Contains_string_string,g_Aslices_Index_string_string,h1,okO]
 ·simp only [g_Vslices_Contains_string_string_0,g_Vslices_Index_string_string_0,h1,valO,Option.getD_some,h2,hasP]
theorem l2Has_f (ls:List ByteArray) (s:ByteArray) (hl:ls.length ≤ 1048576):g_As_l2Has ls s = true ∧ g_Vs_l2Has_0 ls s = hasP ls s := by
 have h:g_Ls_l2Has_0 ls s 0 = some (bif ls.all (fun x => !(x.toList == s.toList)) then .inr () else .inl true) := by
  refine loop_list (ρ := Bool ⊕ Unit) (e := .str) ls (fun i:Nat => (i:Int)) (fun x => !(x.toList == s.toList)) (Sum.inl true) (Sum.inr ()) (fun i hi => ?_) ?_
  ·have h1:(i:Int) < ls.length := by omega
   have h2:(0:Int) ≤ (i:Int) := by omega
   have hw:IntKind.wrap .i64 ((i:Int) + 1) = ((i + 1:Nat):Int) := by rw [wrap64 (by omega)]; omega
   simp only [g_Ss_l2Has_0,RT.sel,cond_true,h1,h2,hw,decide_true,and_self,Int.toNat_natCast]
   cases (at_ .str ls i).toList == s.toList <;> rfl
  ·simp [g_Ss_l2Has_0,RT.sel]
 constructor
 ·simp [g_As_l2Has,h,okO]
 ·simp only [g_Vs_l2Has_0,h,valO,Option.getD_some,hasP,List.any_eq_not_all_not]
  cases ls.all (fun x => !(x.toList == s.toList)) <;> rfl
theorem anyKey_f (ls:List ByteArray) (hl:ls.length ≤ 1048576):g_Aslices_ContainsFunc_string_string__i_NoteOk_1 ls = true ∧ g_Vslices_ContainsFunc_string_string__i_NoteOk_1_0 ls = !ls.all keyP := by
 obtain ⟨r,h1,h2⟩ := loop_idx (e := .str) ls (step := g_Sslices_IndexFunc_string_string__i_NoteOk_1_0 ls (ls.length:Int)) (fun x => !keyP x) (fun i hi => by
  have h1:(i:Int) < ls.length := by omega
  have h2:(0:Int) ≤ (i:Int) := by omega
  have hw:IntKind.wrap .i64 ((i:Int) + 1) = ((i + 1:Nat):Int) := by rw [wrap64 (by omega)]; omega
  simp only [g_Sslices_IndexFunc_string_string__i_NoteOk_1_0,RT.sel,cond_true,h1,h2,hw,decide_true,and_self,Int.toNat_natCast,g_Ai_NoteOk_1,(i_keyOk_f _).1,(i_keyOk_f _).2]) (by simp [g_Sslices_IndexFunc_string_string__i_NoteOk_1_0,RT.sel])
 have h1:g_Lslices_IndexFunc_string_string__i_NoteOk_1_0 ls (ls.length:Int) 0 = some r := h1
 constructor
 ·simp [g_Aslices_ContainsFunc_string_string__i_NoteOk_1,g_Aslices_IndexFunc_string_string__i_NoteOk_1,h1,okO]
 ·simp only [g_Vslices_ContainsFunc_string_string__i_NoteOk_1_0,g_Vslices_IndexFunc_string_string__i_NoteOk_1_0,h1,valO,Option.getD_some,h2,List.not_all_eq_any_not]
theorem anyWrite_f (ws:List (ByteArray×Bool×List Int)) (c:Int×Int×List ByteArray×List (ByteArray×Bool×List Int)) (hl:ws.length ≤ 1048576) (hit:∀ w ∈ ws,w.2.2.length ≤ 1048576) (hc:c.2.2.1.length ≤ 1048576) :
  g_Aslices_ContainsFunc_i_StoWrite_i_StoWrite__i_NoteOk_2 ws c = true ∧ g_Vslices_ContainsFunc_i_StoWrite_i_StoWrite__i_NoteOk_2_0 ws c = !ws.all (fun w => wrtP w.1 w.2.1 w.2.2&&hasP c.2.2.1 w.1) := by
 obtain ⟨r,h1,h2⟩ := loop_idx (e := .pair .str (.pair .bool (.sl 3 (.int .i64)))) ws (step := g_Sslices_IndexFunc_i_StoWrite_i_StoWrite__i_NoteOk_2_0 ws c (ws.length:Int)) (fun w => !(wrtP w.1 w.2.1 w.2.2&&hasP c.2.2.1 w.1)) (fun i hi => by
  have h1:(i:Int) < ws.length := by omega
  have h2:(0:Int) ≤ (i:Int) := by omega
  have hw:IntKind.wrap .i64 ((i:Int) + 1) = ((i + 1:Nat):Int) := by rw [wrap64 (by omega)]; omega
  obtain ⟨q1,q2⟩ := i_WrtOk_f (at_ (.pair .str (.pair .bool (.sl 3 (.int .i64)))) ws i).1 (at_ (.pair .str (.pair .bool (.sl 3 (.int .i64)))) ws i).2.1 _ (hit _ (at_mem (e := .pair .str (.pair .bool (.sl 3 (.int .i64)))) hi))
  simp only [g_Sslices_IndexFunc_i_StoWrite_i_StoWrite__i_NoteOk_2_0,RT.sel,cond_true,h1,h2,hw,decide_true,and_self,Int.toNat_natCast,g_Ai_NoteOk_2,g_Vi_NoteOk_2_0,q1,q2,(containsS_f _ _ hc).1,(containsS_f _ _ hc).2,Bool.or_true,Bool.and_true]
  generalize wrtP _ _ _ = p
  generalize hasP _ _ = q
  cases p <;> cases q <;> rfl) (by simp [g_Sslices_IndexFunc_i_StoWrite_i_StoWrite__i_NoteOk_2_0,RT.sel])
 have h1:g_Lslices_IndexFunc_i_StoWrite_i_StoWrite__i_NoteOk_2_0 ws c (ws.length:Int) 0 = some r := h1
 constructor
 ·simp [g_Aslices_ContainsFunc_i_StoWrite_i_StoWrite__i_NoteOk_2,g_Aslices_IndexFunc_i_StoWrite_i_StoWrite__i_NoteOk_2,h1,okO]
 ·simp only [g_Vslices_ContainsFunc_i_StoWrite_i_StoWrite__i_NoteOk_2_0,g_Vslices_IndexFunc_i_StoWrite_i_StoWrite__i_NoteOk_2_0,h1,valO,Option.getD_some,h2,List.not_all_eq_any_not]
theorem i_NoteOk_f (k t:Int) (ls:List ByteArray) (ws:List (ByteArray×Bool×List Int)) (h1:ls.length ≤ 1048576) (h2:ws.length ≤ 1048576) (h3:∀ w ∈ ws,w.2.2.length ≤ 1048576):g_Ai_NoteOk k t ls ws = true ∧ g_Vi_NoteOk_0 k t ls ws = noteP k t ls ws := by
 obtain ⟨a1,a2⟩ := anyKey_f ls h1
 obtain ⟨b1,b2⟩ := anyWrite_f ws (k,t,ls,ws) h2 h3 h1
 constructor
 ·simp [g_Ai_NoteOk,(isTx_f _).1,(i_in_f _ _ _).1,a1,b1]
 ·simp only [g_Vi_NoteOk_0,(isTx_f _).2,(i_in_f _ _ _).2,a2,b2,noteP]
  by_cases e1:k = 1
  ·subst e1
   have e2:decide ((ls.length:Int) > 12) = !decide (ls.length ≤ 12) := by rw [Bool.eq_iff_iff]; simp; omega
   have e3:decide ((ws.length:Int) > 12) = !decide (ws.length ≤ 12) := by rw [Bool.eq_iff_iff]; simp; omega
   simp only [e2,e3]
   generalize decide (0 ≤ t ∧ t ≤ 29) = p1
   generalize decide (ls.length ≤ 12) = p2
   generalize decide (ws.length ≤ 12) = p3
   generalize ls.all keyP = p4
   generalize ws.all _ = p5
   cases p1 <;> cases p2 <;> cases p3 <;> cases p4 <;> cases p5 <;> rfl
  ·have e4:(k != 1) = true := by simpa using e1
   have e5:decide (k = 1) = false := by simpa using e1
   simp only [e4,e5,cond_true,Bool.false_or]
   cases ls with
   | nil =>
    cases ws with
    | nil =>
     generalize decide (0 ≤ t ∧ t ≤ 29) = p1
     generalize decide (1 ≤ k ∧ k ≤ 4) = p2
     cases p1 <;> cases p2 <;> rfl
    | cons w ws =>
     have e6:(((w :: ws).length:Int) == 0) = false := by simp; omega
     simp only [e6,List.isEmpty_cons,Bool.and_false]
     cases decide (0 ≤ t ∧ t ≤ 29) <;> cases decide (1 ≤ k ∧ k ≤ 4) <;> simp
   | cons l ls =>
    have e6:(((l :: ls).length:Int) == 0) = false := by simp; omega
    simp only [e6,List.isEmpty_cons,Bool.and_false,Bool.false_and]
    cases decide (0 ≤ t ∧ t ≤ 29) <;> cases decide (1 ≤ k ∧ k ≤ 4) <;> simp
theorem s_NoteOk_f (k t:Int) (ls:List ByteArray) (ws:List (ByteArray×Bool×List Int)) (h1:ls.length ≤ 1048576) (h2:ws.length ≤ 1048576) (h3:∀ w ∈ ws,w.2.2.length ≤ 1048576):g_As_NoteOk k t ls ws = true ∧ g_Vs_NoteOk_0 k t ls ws = noteP k t ls ws := by
 have l0:g_Ls_NoteOk_0 k t ls ws 0 = some (bif ls.all keyP then .inr () else .inl false) := by
  refine loop_list (ρ := Bool ⊕ Unit) (e := .str) ls (fun i:Nat => (i:Int)) keyP (Sum.inl false) (Sum.inr ()) (fun i hi => ?_) ?_
  ·have k1:(i:Int) < ls.length := by omega
   have k2:(0:Int) ≤ (i:Int) := by omega
   have hw:IntKind.wrap .i64 ((i:Int) + 1) = ((i + 1:Nat):Int) := by rw [wrap64 (by omega)]; omega
   simp only [g_Ss_NoteOk_0,RT.sel,cond_true,k1,k2,hw,decide_true,and_self,Int.toNat_natCast,(s_l1Key_f _).1,(s_l1Key_f _).2]
   cases keyP (at_ .str ls i) <;> rfl
  ·simp [g_Ss_NoteOk_0,RT.sel]
 have l2:g_Ls_NoteOk_2 k t ls ws 0 = some (bif ws.all (fun w => wrtP w.1 w.2.1 w.2.2&&hasP ls w.1) then .inr () else .inl false) := by
  refine loop_list (ρ := Bool ⊕ Unit) (e := .pair .str (.pair .bool (.sl 3 (.int .i64)))) ws (fun i:Nat => (i:Int)) (fun w => wrtP w.1 w.2.1 w.2.2&&hasP ls w.1) (Sum.inl false) (Sum.inr ()) (fun i hi => ?_) ?_
  ·have k1:(i:Int) < ws.length := by omega
   have k2:(0:Int) ≤ (i:Int) := by omega
   have hw:IntKind.wrap .i64 ((i:Int) + 1) = ((i + 1:Nat):Int) := by rw [wrap64 (by omega)]; omega
   obtain ⟨q1,q2⟩ := s_WrtOk_f (at_ (.pair .str (.pair .bool (.sl 3 (.int .i64)))) ws i).1 (at_ (.pair .str (.pair .bool (.sl 3 (.int .i64)))) ws i).2.1 _ (h3 _ (at_mem (e := .pair .str (.pair .bool (.sl 3 (.int .i64)))) hi))
   simp only [g_Ss_NoteOk_2,RT.sel,cond_true,k1,k2,hw,decide_true,and_self,Int.toNat_natCast,q1,q2,(l2Has_f _ _ h1).1,(l2Has_f _ _ h1).2]
   generalize wrtP _ _ _ = p
   generalize hasP _ _ = q
   cases p <;> cases q <;> rfl
  ·simp [g_Ss_NoteOk_2,RT.sel]
 have e2:decide ((ls.length:Int) > 12) = !decide (ls.length ≤ 12) := by rw [Bool.eq_iff_iff]; simp; omega
 have e3:decide ((ws.length:Int) > 12) = !decide (ws.length ≤ 12) := by rw [Bool.eq_iff_iff]; simp; omega
 have e4:(k == 1) = decide (k = 1) := rfl
 have e5:(IntKind.wrap .i64 ((ls.length:Int) + (ws.length:Int)) == 0) = (ls.isEmpty&&ws.isEmpty) := by
  rw [wrap64 (by omega)]
  cases ls <;> cases ws <;> simp <;> omega
 constructor
 ·simp [g_As_NoteOk,(s_l1In_f _ _ _).1,l0,l2,okO]
 ·simp only [g_Vs_NoteOk_0,(s_l1In_f _ _ _).2,l0,l2,valO,Option.getD_some,noteP,e2,e3,e4,e5]
  generalize decide (1 ≤ k ∧ k ≤ 4) = p0
  generalize decide (0 ≤ t ∧ t ≤ 29) = p1
  generalize decide (ls.length ≤ 12) = p2
  generalize decide (ws.length ≤ 12) = p3
  generalize ls.all keyP = p4
  generalize ws.all _ = p5
  generalize decide (k = 1) = p6
  generalize (ls.isEmpty&&ws.isEmpty) = p7
  cases p0 <;> cases p1 <;> cases p2 <;> cases p3 <;> cases p4 <;> cases p5 <;> cases p6 <;> cases p7 <;> rfl
abbrev Note:Type := Int×Int×List ByteArray×List (ByteArray×Bool×List Int)
abbrev NI_:Ty := .pair (.int .i64) (.pair (.int .i64) (.pair (.sl 9 .str) (.sl 39 (.pair .str (.pair .bool (.sl 3 (.int .i64)))))))
def smallN (x:Note):Prop := x.2.2.1.length ≤ 1048576 ∧ x.2.2.2.length ≤ 1048576 ∧ ∀ w ∈ x.2.2.2,w.2.2.length ≤ 1048576
def noteQ (x:Note):Bool := noteP x.1 x.2.1 x.2.2.1 x.2.2.2
def diskP (d:List Note) (safe:Int):Bool := decide (d.length ≤ 120)&&(decide (0 ≤ safe ∧ safe ≤ (d.length:Int))&&d.all noteQ)
theorem s_DiskOk_f (l:List Note) (safe:Int) (hl:l.length ≤ 1048576) (hit:∀ x ∈ l,smallN x):g_As_DiskOk l safe = true ∧ g_Vs_DiskOk_0 l safe = diskP l safe := by
 have h:g_Ls_DiskOk_0 l safe 0 = some (bif l.all noteQ then .inr () else .inl false) := by
  refine loop_list (ρ := Bool ⊕ Unit) (e := NI_) l (fun i:Nat => (i:Int)) noteQ (Sum.inl false) (Sum.inr ()) (fun i hi => ?_) ?_
  ·have k1:(i:Int) < l.length := by omega
   have k2:(0:Int) ≤ (i:Int) := by omega
   have hw:IntKind.wrap .i64 ((i:Int) + 1) = ((i + 1:Nat):Int) := by rw [wrap64 (by omega)]; omega
   have hh := hit _ (at_mem (e := NI_) hi)
   obtain ⟨q1,q2⟩ := s_NoteOk_f (at_ NI_ l i).1 (at_ NI_ l i).2.1 (at_ NI_ l i).2.2.1 (at_ NI_ l i).2.2.2 hh.1 hh.2.1 hh.2.2
   have q2:g_Vs_NoteOk_0 (at_ NI_ l i).1 (at_ NI_ l i).2.1 (at_ NI_ l i).2.2.1 (at_ NI_ l i).2.2.2 = noteQ (at_ NI_ l i) := q2
   simp only [g_Ss_DiskOk_0,RT.sel,cond_true,k1,k2,hw,decide_true,and_self,Int.toNat_natCast,q1,q2]
   generalize noteQ _ = p
   cases p <;> rfl
  ·simp [g_Ss_DiskOk_0,RT.sel]
 have e2:decide ((l.length:Int) > 120) = !decide (l.length ≤ 120) := by rw [Bool.eq_iff_iff]; simp; omega
 constructor
 ·simp [g_As_DiskOk,h,okO,(s_l1In_f _ _ _).1]
 ·simp only [g_Vs_DiskOk_0,h,valO,Option.getD_some,e2,(s_l1In_f _ _ _).2,diskP]
  generalize l.all noteQ = p
  generalize decide (l.length ≤ 120) = q
  generalize decide (0 ≤ safe ∧ safe ≤ (l.length:Int)) = r
  cases p <;> cases q <;> cases r <;> rfl
theorem i_DiskOk_f (l:List Note) (safe:Int) (hl:l.length ≤ 1048576) (hit:∀ x ∈ l,smallN x):g_Ai_DiskOk l safe = true ∧ g_Vi_DiskOk_0 l safe = diskP l safe := by
 obtain ⟨r,h1,h2⟩ := loop_idx (e := NI_) l (step := g_Sslices_IndexFunc_i_LogNote_i_LogNote__i_DiskOk_1_0 l (l.length:Int)) (fun x => !noteQ x) (fun i hi => by
  have h1:(i:Int) < l.length := by omega
  have h2:(0:Int) ≤ (i:Int) := by omega
  have hw:IntKind.wrap .i64 ((i:Int) + 1) = ((i + 1:Nat):Int) := by rw [wrap64 (by omega)]; omega
  have hh := hit _ (at_mem (e := NI_) hi)
  obtain ⟨q1,q2⟩ := i_NoteOk_f (at_ NI_ l i).1 (at_ NI_ l i).2.1 (at_ NI_ l i).2.2.1 (at_ NI_ l i).2.2.2 hh.1 hh.2.1 hh.2.2
  have q2:g_Vi_NoteOk_0 (at_ NI_ l i).1 (at_ NI_ l i).2.1 (at_ NI_ l i).2.2.1 (at_ NI_ l i).2.2.2 = noteQ (at_ NI_ l i) := q2
  simp only [g_Sslices_IndexFunc_i_LogNote_i_LogNote__i_DiskOk_1_0,RT.sel,cond_true,h1,h2,hw,decide_true,and_self,Int.toNat_natCast,g_Ai_DiskOk_1,q1,q2]) (by simp [g_Sslices_IndexFunc_i_LogNote_i_LogNote__i_DiskOk_1_0,RT.sel])
 have h1:g_Lslices_IndexFunc_i_LogNote_i_LogNote__i_DiskOk_1_0 l (l.length:Int) 0 = some r := h1
 have a1:g_Aslices_ContainsFunc_i_LogNote_i_LogNote__i_DiskOk_1 l = true := by simp [g_Aslices_ContainsFunc_i_LogNote_i_LogNote__i_DiskOk_1,g_Aslices_IndexFunc_i_LogNote_i_LogNote__i_DiskOk_1,h1,okO]
 have a2:g_Vslices_ContainsFunc_i_LogNote_i_LogNote__i_DiskOk_1_0 l = !l.all noteQ := by simp only [g_Vslices_ContainsFunc_i_LogNote_i_LogNote__i_DiskOk_1_0,g_Vslices_IndexFunc_i_LogNote_i_LogNote__i_DiskOk_1_0,h1,valO,Option.getD_some,h2,List.not_all_eq_any_not]
 have e2:decide ((l.length:Int) ≤ 120) = decide (l.length ≤ 120) := decide_eq_decide.2 (by omega)
 constructor
 ·simp [g_Ai_DiskOk,a1,(i_in_f _ _ _).1]
 ·simp only [g_Vi_DiskOk_0,a2,e2,(i_in_f _ _ _).2,diskP]
  generalize l.all noteQ = p
  generalize decide (l.length ≤ 120) = q
  generalize decide (0 ≤ safe ∧ safe ≤ (l.length:Int)) = r
  cases p <;> cases q <;> cases r <;> rfl
theorem leq_not:∀ a b:List UInt8,(Go.Op.bytesLess a b || a == b) = !(Go.Op.bytesLess b a)
 | [],[] => rfl
 | [],_ :: _ => rfl
 | _ :: _,[] => rfl
 | a :: x,b :: y => by
  have ih := leq_not x y
  simp only [Go.Op.bytesLess]
  rcases Nat.lt_trichotomy a.toNat b.toNat with h | h | h
  ·have h1:decide (a < b) = true := decide_eq_true (UInt8.lt_iff_toNat_lt.2 h)
   have h2:decide (b < a) = false := decide_eq_false (fun e => by have := UInt8.lt_iff_toNat_lt.1 e; omega)
   have h3:(b == a) = false := by rw [beq_eq_false_iff_ne]; rintro rfl; omega
   simp [h1,h2,h3]
  ·obtain rfl:a = b := UInt8.toNat_inj.1 h
   have h1:decide (a < a) = false := decide_eq_false (fun e => by have := UInt8.lt_iff_toNat_lt.1 e; omega)
   have h2:(a :: x == a :: y) = (x == y) := by simp
   rw [h2,h1]
   simpa using ih
  ·have h1:decide (a < b) = false := decide_eq_false (fun e => by have := UInt8.lt_iff_toNat_lt.1 e; omega)
   have h2:decide (b < a) = true := decide_eq_true (UInt8.lt_iff_toNat_lt.2 h)
   have h3:(a == b) = false := by rw [beq_eq_false_iff_ne]; rintro rfl; omega
   have h4:(a :: x == b :: y) = false := by rw [beq_eq_false_iff_ne]; intro e; injection e with e1 _; subst e1; omega
   rw [h1,h2,h3,h4]
   simp
abbrev TI_:Ty := .pair .str (.sl 3 (.int .i64))
def risesP (l:List (ByteArray×List Int)) (i:Nat):Bool := decide (i = 0) || Op.bytesLess (at_ TI_ l (i - 1)).1.toList (at_ TI_ l i).1.toList
def itemP (l:List (ByteArray×List Int)) (i:Nat):Bool := keyP (at_ TI_ l i).1&&(valP (at_ TI_ l i).2&&risesP l i)
def storeP (l:List (ByteArray×List Int)):Bool := decide (l.length ≤ 40)&&(List.range l.length).all (itemP l)
theorem s_StoOk_loop (l:List (ByteArray×List Int)) (hl:l.length ≤ 1048576) (hit:∀ x ∈ l,x.2.length ≤ 1048576):g_Ls_StoOk_0 l 0 = some (bif (List.range l.length).all (itemP l) then .inr () else .inl false) := by
 refine loop_all (ρ := Bool ⊕ Unit) (step := g_Ss_StoOk_0 l) (fun i:Nat => (i:Int)) (itemP l) (Sum.inl false) (Sum.inr ()) l.length (fun i hi => ?_) ?_
 ·have k1:(i:Int) < l.length := by omega
  have k2:(0:Int) ≤ (i:Int) := by omega
  have hw:IntKind.wrap .i64 ((i:Int) + 1) = ((i + 1:Nat):Int) := by rw [wrap64 (by omega)]; omega
  obtain ⟨q1,q2⟩ := s_l1Val_f (at_ TI_ l i).2 (hit _ (at_mem (e := TI_) hi))
  simp only [g_Ss_StoOk_0,RT.sel,cond_true,k1,k2,hw,decide_true,and_self,Int.toNat_natCast,(s_l1Key_f _).1,(s_l1Key_f _).2,q1,q2,itemP,risesP]
  generalize keyP (at_ TI_ l i).1 = p
  generalize valP (at_ TI_ l i).2 = q
  by_cases h0:i = 0
  ·subst h0
   cases p <;> cases q <;> simp [RT.sel]
  ·have h1:(i:Int) > 0 := by omega
   have h2:IntKind.wrap .i64 ((i:Int) - 1) = ((i - 1:Nat):Int) := by rw [wrap64 (by omega)]; omega
   have h3:(0:Int) ≤ ((i - 1:Nat):Int) ∧ ((i - 1:Nat):Int) < l.length := by omega
   simp only [h1,h2,h3,decide_true,cond_true,and_self,Int.toNat_natCast,RT.sel,h0,decide_false,Bool.false_or]
   generalize Op.bytesLess _ _ = r
   cases p <;> cases q <;> cases r <;> rfl
 ·simp [g_Ss_StoOk_0,RT.sel]
theorem i_StoOk_loop (l:List (ByteArray×List Int)) (hl:l.length ≤ 1048576) (hit:∀ x ∈ l,x.2.length ≤ 1048576):g_Li_StoOk_0 l (l.length:Int) l 0 = some (bif (List.range l.length).all (itemP l) then .inr () else .inl false) := by
 refine loop_all (ρ := Bool ⊕ Unit) (step := g_Si_StoOk_0 l (l.length:Int) l) (fun i:Nat => (i:Int)) (itemP l) (Sum.inl false) (Sum.inr ()) l.length (fun i hi => ?_) ?_
 ·have k1:(i:Int) < l.length := by omega
  have k2:(0:Int) ≤ (i:Int) := by omega
  have hw:IntKind.wrap .i64 ((i:Int) + 1) = ((i + 1:Nat):Int) := by rw [wrap64 (by omega)]; omega
  obtain ⟨q1,q2⟩ := i_valOk_f (at_ TI_ l i).2 (hit _ (at_mem (e := TI_) hi))
  simp only [g_Si_StoOk_0,RT.sel,cond_true,k1,k2,hw,decide_true,and_self,Int.toNat_natCast,(i_keyOk_f _).1,(i_keyOk_f _).2,q1,q2,itemP,risesP,leq_not]
  generalize keyP (at_ TI_ l i).1 = p
  generalize valP (at_ TI_ l i).2 = q
  by_cases h0:i = 0
  ·subst h0
   cases p <;> cases q <;> simp [RT.sel]
  ·have h1:(i:Int) > 0 := by omega
   have h2:IntKind.wrap .i64 ((i:Int) - 1) = ((i - 1:Nat):Int) := by rw [wrap64 (by omega)]; omega
   have h3:(0:Int) ≤ ((i - 1:Nat):Int) ∧ ((i - 1:Nat):Int) < l.length := by omega
   simp only [h1,h2,h3,decide_true,cond_true,and_self,Int.toNat_natCast,RT.sel,h0,decide_false,Bool.false_or]
   generalize Op.bytesLess _ _ = r
   cases p <;> cases q <;> cases r <;> rfl
 ·simp [g_Si_StoOk_0,RT.sel]
theorem s_StoOk_f (l:List (ByteArray×List Int)) (hl:l.length ≤ 1048576) (hit:∀ x ∈ l,x.2.length ≤ 1048576):g_As_StoOk l = true ∧ g_Vs_StoOk_0 l = storeP l := by
 have h := s_StoOk_loop l hl hit
 have e2:decide ((l.length:Int) > 40) = !decide (l.length ≤ 40) := by rw [Bool.eq_iff_iff]; simp; omega
 constructor
 ·simp [g_As_StoOk,h,okO]
 ·simp only [g_Vs_StoOk_0,h,valO,Option.getD_some,e2,storeP]
  cases (List.range l.length).all (itemP l) <;> cases decide (l.length ≤ 40) <;> rfl
theorem i_StoOk_f (l:List (ByteArray×List Int)) (hl:l.length ≤ 1048576) (hit:∀ x ∈ l,x.2.length ≤ 1048576):g_Ai_StoOk l = true ∧ g_Vi_StoOk_0 l = storeP l := by
 have h := i_StoOk_loop l hl hit
 have e2:decide ((l.length:Int) ≤ 40) = decide (l.length ≤ 40) := decide_eq_decide.2 (by omega)
 constructor
 ·simp [g_Ai_StoOk,h,okO]
 ·simp only [g_Vi_StoOk_0,h,valO,Option.getD_some,e2,storeP]
  cases (List.range l.length).all (itemP l) <;> cases decide (l.length ≤ 40) <;> rfl
theorem less_irrefl:∀ a:List UInt8,Op.bytesLess a a = false
 | [] => rfl
 | x :: a => by simp [Op.bytesLess,less_irrefl a]
theorem less_trans:∀ a b c:List UInt8,Op.bytesLess a b = true → Op.bytesLess b c = true → Op.bytesLess a c = true
 | [],[],_,h,_ => by simp [Op.bytesLess] at h
 | [],_ :: _,[],_,h => by simp [Op.bytesLess] at h
 | [],_ :: _,_ :: _,_,_ => rfl
 | _ :: _,[],_,h,_ => by simp [Op.bytesLess] at h
 | _ :: _,_ :: _,[],_,h => by simp [Op.bytesLess] at h
 | x :: a,y :: b,z :: c,h1,h2 => by
  simp only [Op.bytesLess] at h1 h2 ⊢
  have t := less_trans a b c
  simp only [Bool.or_eq_true,Bool.and_eq_true,decide_eq_true_eq,beq_iff_eq] at h1 h2 ⊢
  simp only [UInt8.lt_iff_toNat_lt] at h1 h2 ⊢
  rcases h1 with h1 | ⟨rfl,h1⟩
  ·rcases h2 with h2 | ⟨rfl,h2⟩
   ·left; omega
   ·left; exact h1
  ·rcases h2 with h2 | ⟨rfl,h2⟩
   ·left; exact h2
   ·right; exact ⟨rfl,t h1 h2⟩
theorem compare_lt:∀ a b:List UInt8,decide (Lib.compareBytes a b < 0) = Op.bytesLess a b
 | [],[] => rfl
 | [],_ :: _ => rfl
 | _ :: _,[] => rfl
 | x :: a,y :: b => by
  simp only [Lib.compareBytes,Op.bytesLess]
  by_cases h:x < y
  ·simp [h]
  ·by_cases h2:y < x
   ·have:x ≠ y := fun e => by subst e; exact h h2
    simp [h,h2,this]
   ·have:x = y := by
     apply UInt8.toNat_inj.1
     rw [UInt8.lt_iff_toNat_lt] at h h2
     omega
    subst this
    simp [h,compare_lt a b]
theorem compare_eq:∀ a b:List UInt8,(Lib.compareBytes a b == 0) = (a == b)
 | [],[] => rfl
 | [],_ :: _ => rfl
 | _ :: _,[] => rfl
 | x :: a,y :: b => by
  simp only [Lib.compareBytes]
  by_cases h:x < y
  ·have:x ≠ y := fun e => by subst e; rw [UInt8.lt_iff_toNat_lt] at h; omega
   simp [h,this]
  ·by_cases h2:y < x
   ·have:x ≠ y := fun e => by subst e; exact h h2
    simp [h,h2,this]
   ·have:x = y := by
     apply UInt8.toNat_inj.1
     rw [UInt8.lt_iff_toNat_lt] at h h2
     omega
    subst this
    have := compare_eq a b
    simp [h]
    simpa using this
theorem rises_lt {l:List (ByteArray×List Int)} (h:storeP l = true):∀ (d i:Nat),i + (d + 1) < l.length → Op.bytesLess (at_ TI_ l i).1.toList (at_ TI_ l (i + (d + 1))).1.toList = true := by
 simp only [storeP,Bool.and_eq_true,List.all_eq_true,itemP] at h
 have one:∀ i,i + 1 < l.length → Op.bytesLess (at_ TI_ l i).1.toList (at_ TI_ l (i + 1)).1.toList = true := by
  intro i hi
  have := (h.2 (i + 1) (List.mem_range.2 hi)).2.2
  simpa [risesP] using this
 intro d
 induction d with
 | zero => intro i hi; exact one i hi
 | succ d ih =>
  intro i hi
  exact less_trans _ _ _ (ih i (by omega)) (one (i + (d + 1)) (by omega))
def posP (l:List (ByteArray×List Int)) (key:ByteArray):Nat := (l.takeWhile fun x => Op.bytesLess x.1.toList key.toList).length
theorem pos_le (l:List (ByteArray×List Int)) (key:ByteArray):posP l key ≤ l.length := (List.takeWhile_sublist _).length_le
theorem pos_lt {l:List (ByteArray×List Int)} (h:storeP l = true) (key:ByteArray) (i:Nat) (hi:i < l.length):Op.bytesLess (at_ TI_ l i).1.toList key.toList = decide (i < posP l key) := by
 have h1:∀ (l:List (ByteArray×List Int)) (i:Nat),i < posP l key → ∃ h:i < l.length,Op.bytesLess (l[i]'h).1.toList key.toList = true := by
  intro l
  induction l with
  | nil => intro i hi; simp [posP] at hi
  | cons x l ih =>
   intro i hi
   unfold posP at hi
   by_cases hx:Op.bytesLess x.1.toList key.toList = true
   ·rw [List.takeWhile_cons_of_pos (p := fun x:ByteArray×List Int => Op.bytesLess x.1.toList key.toList) hx] at hi
    cases i with
    | zero => exact ⟨by simp,hx⟩
    | succ i =>
     obtain ⟨a,b⟩ := ih i (by unfold posP; simpa using hi)
     exact ⟨by simp; omega,by simpa using b⟩
   ·rw [List.takeWhile_cons_of_neg (p := fun x:ByteArray×List Int => Op.bytesLess x.1.toList key.toList) hx] at hi
    simp at hi
 have h2:∀ (l:List (ByteArray×List Int)) (h:posP l key < l.length),Op.bytesLess (l[posP l key]'h).1.toList key.toList = false := by
  intro l
  induction l with
  | nil => intro h; simp at h
  | cons x l ih =>
   intro h
   by_cases hx:Op.bytesLess x.1.toList key.toList = true
   ·have e:posP (x :: l) key = posP l key + 1 := by unfold posP; rw [List.takeWhile_cons_of_pos (p := fun x:ByteArray×List Int => Op.bytesLess x.1.toList key.toList) hx]; rfl
    have := ih (by rw [e] at h; simpa using h)
    simp only [e,List.getElem_cons_succ]
    exact this
   ·have e:posP (x :: l) key = 0 := by unfold posP; rw [List.takeWhile_cons_of_neg (p := fun x:ByteArray×List Int => Op.bytesLess x.1.toList key.toList) hx]; rfl
    simp only [e,List.getElem_cons_zero]
    simpa using hx
 by_cases hp:i < posP l key
 ·obtain ⟨a,b⟩ := h1 l i hp
  rw [at_eq (e := TI_) hi,decide_eq_true hp]
  exact b
 ·rw [decide_eq_false hp]
  have hp2:posP l key < l.length := by omega
  have hb := h2 l hp2
  cases hl:Op.bytesLess (at_ TI_ l i).1.toList key.toList with
  | false => rfl
  | true =>
   exfalso
   by_cases e:i = posP l key
   ·subst e
    rw [at_eq (e := TI_) hi] at hl
    rw [hl] at hb
    cases hb
   ·have hr := rises_lt h (i - posP l key - 1) (posP l key) (by omega)
    rw [show posP l key + (i - posP l key - 1 + 1) = i by omega] at hr
    have := less_trans _ _ _ hr hl
    rw [at_eq (e := TI_) hp2] at this
    rw [this] at hb
    cases hb
def getP (l:List (ByteArray×List Int)) (key:ByteArray):Option (List Int) := (l.find? fun x => x.1.toList == key.toList).map (·.2)
theorem pos_of {l:List (ByteArray×List Int)} (h:storeP l = true) {key:ByteArray} {i:Nat} (hi:i < l.length) (he:(at_ TI_ l i).1.toList = key.toList):i = posP l key := by
 have h1 := pos_lt h key i hi
 rw [he,less_irrefl] at h1
 have h1:¬ i < posP l key := by simpa using h1.symm
 by_cases e:i = posP l key
 ·exact e
 ·exfalso
  have hp2:posP l key < l.length := by omega
  have hr := rises_lt h (i - posP l key - 1) (posP l key) (by omega)
  rw [show posP l key + (i - posP l key - 1 + 1) = i by omega,he] at hr
  have := pos_lt h key (posP l key) hp2
  rw [hr] at this
  simp at this
theorem get_pos {l:List (ByteArray×List Int)} (h:storeP l = true) (key:ByteArray):getP l key = if posP l key < l.length ∧ (at_ TI_ l (posP l key)).1.toList = key.toList then some (at_ TI_ l (posP l key)).2 else none := by
 unfold getP
 split
 ·rename_i hp
  have:l.find? (fun x => x.1.toList == key.toList) = some (at_ TI_ l (posP l key)) := by
   rw [List.find?_eq_some_iff_getElem]
   refine ⟨by simpa using hp.2,posP l key,hp.1,(at_eq (e := TI_) hp.1).symm,fun j hj => ?_⟩
   have hjl:j < l.length := by omega
   simp only [Bool.not_eq_true',beq_eq_false_iff_ne]
   intro e
   have := pos_of (key := key) h hjl (by rw [at_eq (e := TI_) hjl]; exact e)
   omega
  rw [this]
  rfl
 ·rename_i hp
  have:l.find? (fun x => x.1.toList == key.toList) = none := by
   rw [List.find?_eq_none]
   intro x hx e
   obtain ⟨i,hi,rfl⟩ := List.getElem_of_mem hx
   have e:l[i].1.toList = key.toList := by simpa using e
   have hi2 := pos_of h (key := key) hi (by rw [at_eq (e := TI_) hi]; exact e)
   apply hp
   rw [← hi2]
   exact ⟨hi,by rw [at_eq (e := TI_) hi]; exact e⟩
  rw [this]
  rfl
theorem capE_f (a b k:Nat) (h:a + b ≤ 1100000) (hk:k ≤ 1000):decide ((a + b) * k ≤ nat_lit 140737488355328 ∧ a + b ≤ nat_lit 9223372036854775807) = true := by
 refine decide_eq_true ⟨Nat.le_trans (Nat.mul_le_mul h hk) (by decide),by show a + b ≤ 9223372036854775807; omega⟩
theorem l1Copy_f (l:List (ByteArray×List Int)) (hl:l.length ≤ 1048576) (hit:∀ x ∈ l,x.2.length ≤ 1048576):g_As_l1Copy l = true ∧ g_Vs_l1Copy_0 l = l := by
 have L:g_Ls_l1Copy_0 l [] (0,[]) = some l := by
  obtain ⟨r,h1,h2⟩ := loop_inv (step := g_Ss_l1Copy_0 l []) (fun x => 0 ≤ x.1 ∧ x.1.toNat ≤ l.length ∧ x.2 = l.take x.1.toNat) (fun r => r = l) (fun x => l.length - x.1.toNat) (fun x hx => by
   obtain ⟨k,y⟩ := x
   obtain ⟨i1,i2,i3⟩ := hx
   simp only at i1 i2 i3
   by_cases hk:k < (l.length:Int)
   ·have hn:k.toNat < l.length := by omega
    have hy:y.length = k.toNat := by rw [i3,List.length_take]; omega
    have hv := hit _ (List.getElem_mem hn)
    refine .inl ⟨(k + 1,y ++ [l[k.toNat]]),?_,⟨by simp only; omega,by simp only; omega,?_⟩,by simp only; omega⟩
    ·simp only [g_Ss_l1Copy_0,RT.sel,hk,i1,and_self,decide_true,cond_true,at_eq (e := .pair .str (.sl 3 (.int .i64))) hn]
     rw [capE_f _ _ _ (by omega) (by decide),cond_true,capE_f _ _ _ (by simp only [List.length_cons,List.length_nil]; omega) (by decide),cond_true,wrap64 (by omega)]
     rfl
    ·simp only
     rw [i3,show (k + 1).toNat = k.toNat + 1 by omega,List.take_succ_eq_append_getElem hn]
   ·refine .inr ⟨y,?_,by rw [i3,List.take_of_length_le (by omega)]⟩
    simp only [g_Ss_l1Copy_0,RT.sel,hk,decide_false,cond_true,cond_false]) (0,[]) ⟨by simp,by simp,by simp⟩
  rw [h2] at h1
  exact h1
 unfold g_As_l1Copy g_Vs_l1Copy_0
 rw [L]
 exact ⟨rfl,rfl⟩
def wr (k:ByteArray) (d:Bool) (v:List Int):Bool → List (ByteArray×List Int) → List (ByteArray×List Int)×Bool
 | done,[] => ([],done)
 | done,it :: r =>
  let ins := !done&&Op.bytesLess k.toList it.1.toList
  let pre := bif ins then [(k,v)] else []
  bif it.1.toList == k.toList then
   bif !d then (pre ++ (k,v) :: (wr k d v true r).1,(wr k d v true r).2)
   else (pre ++ (wr k d v (done || ins) r).1,(wr k d v (done || ins) r).2)
  else (pre ++ it :: (wr k d v (done || ins) r).1,(wr k d v (done || ins) r).2)
def writeS (l:List (ByteArray×List Int)) (k:ByteArray) (d:Bool) (v:List Int):List (ByteArray×List Int) := bif (wr k d v d l).2 then (wr k d v d l).1 else (wr k d v d l).1 ++ [(k,v)]
theorem wr_len (k:ByteArray) (d:Bool) (v:List Int):∀ (l:List (ByteArray×List Int)) (done:Bool),(wr k d v done l).1.length ≤ 2 * l.length
 | [],_ => by simp [wr]
 | it :: r,done => by
  have h1 := wr_len k d v r true
  have h2 := wr_len k d v r
  simp only [wr]
  generalize (!done&&Op.bytesLess k.toList it.1.toList) = ins
  have h2 := h2 (done || ins)
  generalize (done || ins) = dn at h2 ⊢
  cases (it.1.toList == k.toList) <;> cases d <;> cases ins <;> simp only [cond_true,cond_false,Bool.not_true,Bool.not_false,List.nil_append,List.cons_append,List.length_cons] <;> omega
theorem wr_val (k:ByteArray) (d:Bool) (v:List Int) (B:Nat) (hv:v.length ≤ B):∀ (l:List (ByteArray×List Int)) (done:Bool),(∀ x ∈ l,x.2.length ≤ B) → ∀ x ∈ (wr k d v done l).1,x.2.length ≤ B
 | [],_,_ => by simp [wr]
 | it :: r,done,h => by
  have h0 := h it List.mem_cons_self
  have h1 := wr_val k d v B hv r true (fun x hx => h x (List.mem_cons_of_mem _ hx))
  have h2 := fun dn => wr_val k d v B hv r dn (fun x hx => h x (List.mem_cons_of_mem _ hx))
  simp only [wr]
  generalize (!done&&Op.bytesLess k.toList it.1.toList) = ins
  have h2 := h2 (done || ins)
  generalize (done || ins) = dn at h2 ⊢
  intro x hx
  cases hq:(it.1.toList == k.toList) <;> cases d <;> cases ins <;> simp only [hq,cond_true,cond_false,Bool.not_true,Bool.not_false,List.nil_append,List.cons_append,List.mem_cons] at hx <;> (try rcases hx with rfl | hx) <;> (try rcases hx with rfl | hx) <;> first | exact hv | exact h0 | exact h1 _ hx | exact h2 _ hx
theorem l1Write_f (l:List (ByteArray×List Int)) (k:ByteArray) (d:Bool) (v:List Int) (hl:l.length ≤ 100000) (hv:v.length ≤ 1048576):g_As_l1Write l k d v = true ∧ g_Vs_l1Write_0 l k d v = writeS l k d v := by
 have L:g_Ls_l1Write_0 l k d v [] (d,0,[]) = some ((wr k d v d l).2,(wr k d v d l).1) := by
  obtain ⟨r,h1,h2⟩ := loop_inv (step := g_Ss_l1Write_0 l k d v []) (fun x => 0 ≤ x.2.1 ∧ x.2.1.toNat ≤ l.length ∧ x.2.2.length ≤ 2 * x.2.1.toNat ∧ x.2.2 ++ (wr k d v x.1 (l.drop x.2.1.toNat)).1 = (wr k d v d l).1 ∧ (wr k d v x.1 (l.drop x.2.1.toNat)).2 = (wr k d v d l).2) (fun r => r = ((wr k d v d l).2,(wr k d v d l).1)) (fun x => l.length - x.2.1.toNat) (fun x hx => by
   obtain ⟨done,i,y⟩ := x
   obtain ⟨i1,i2,i3,i4,i5⟩ := hx
   simp only at i1 i2 i3 i4 i5
   by_cases hk:i < (l.length:Int)
   ·have hn:i.toNat < l.length := by omega
    rw [List.drop_eq_getElem_cons hn] at i4 i5
    have e1:(i + 1).toNat = i.toNat + 1 := by omega
    have c1:decide ((nat_lit 0 + List.length v) * nat_lit 8 ≤ nat_lit 140737488355328 ∧ nat_lit 0 + List.length v ≤ nat_lit 9223372036854775807) = true := capE_f _ _ _ (by show 0 + _ ≤ _; omega) (by decide)
    have c2:∀ a b:List (ByteArray×List Int),a.length ≤ 200002 → b.length = 1 → decide ((List.length a + List.length b) * nat_lit 40 ≤ nat_lit 140737488355328 ∧ List.length a + List.length b ≤ nat_lit 9223372036854775807) = true := fun a b ha hb => capE_f _ _ _ (by omega) (by decide)
    refine .inl ?_
    generalize hq:(l[i.toNat].1.toList == k.toList) = q at i4 i5
    generalize hb:Op.bytesLess k.toList l[i.toNat].1.toList = b at i4 i5
    have sel:∃ done' new,(g_Ss_l1Write_0 l k d v [] (done,i,y)).sel = .go (done',i + 1,y ++ new) ∧ new.length ≤ 2 ∧ wr k d v done (l[i.toNat] :: l.drop (i.toNat + 1)) = (new ++ (wr k d v done' (l.drop (i.toNat + 1))).1,(wr k d v done' (l.drop (i.toNat + 1))).2) := by
     refine ⟨done || b || (q&&!d),(bif !done&&b then [(k,v)] else []) ++ (bif q then (bif d then [] else [(k,v)]) else [l[i.toNat]]),?_,?_,?_⟩
     ·simp only [g_Ss_l1Write_0,RT.sel,hk,i1,and_self,decide_true,cond_true,at_eq (e := .pair .str (.sl 3 (.int .i64))) hn,hq,hb,c1,wrap64 (x := i + 1) (by omega)]
      cases done <;> cases b <;> cases q <;> cases d <;> simp only [Bool.not_true,Bool.not_false,cond_true,cond_false,Bool.or_true,Bool.or_false,Bool.true_or,Bool.and_true,Bool.and_false,Bool.false_and,Bool.true_and,List.nil_append,List.append_nil,List.append_assoc,List.cons_append,RT.sel] <;> (try rw [c2 _ _ (by (try simp only [List.length_append,List.length_cons,List.length_nil]); omega) (by simp)]) <;> (try simp only [cond_true,RT.sel,List.append_assoc,List.cons_append,List.nil_append]) <;> (try rw [c2 _ _ (by (try simp only [List.length_append,List.length_cons,List.length_nil]); omega) (by simp)]) <;> (try simp only [cond_true,RT.sel,List.append_assoc,List.cons_append,List.nil_append])
     ·cases done <;> cases b <;> cases q <;> cases d <;> simp
     ·simp only [wr,hq,hb]
      cases done <;> cases b <;> cases q <;> cases d <;> simp
    obtain ⟨done',new,s1,s2,s3⟩ := sel
    rw [s3] at i4 i5
    refine ⟨_,s1,⟨by simp only; omega,by simp only; omega,by simp only [List.length_append]; omega,?_,?_⟩,by simp only; omega⟩
    ·simp only [e1]
     rw [List.append_assoc]
     exact i4
    ·simp only [e1]
     exact i5
   ·refine .inr ⟨(done,y),?_,?_⟩
    ·simp only [g_Ss_l1Write_0,RT.sel,hk,decide_false,cond_true,cond_false]
    ·rw [List.drop_of_length_le (by omega)] at i4 i5
     simp only [wr,List.append_nil] at i4 i5
     rw [i4,← i5]) (d,0,[]) ⟨by simp,by simp,by simp,by simp,by simp⟩
  rw [h2] at h1
  exact h1
 have hw := wr_len k d v l d
 unfold g_As_l1Write g_Vs_l1Write_0
 rw [L]
 simp only [okO,valO,Option.isSome_some,Option.getD_some,Bool.true_and]
 refine ⟨?_,?_⟩
 ·have c1:decide ((nat_lit 0 + List.length v) * nat_lit 8 ≤ nat_lit 140737488355328 ∧ nat_lit 0 + List.length v ≤ nat_lit 9223372036854775807) = true := capE_f _ _ _ (by show 0 + _ ≤ _; omega) (by decide)
  have c2:decide ((List.length (wr k d v d l).1 + List.length [(k,[] ++ v)]) * nat_lit 40 ≤ nat_lit 140737488355328 ∧ List.length (wr k d v d l).1 + List.length [(k,[] ++ v)] ≤ nat_lit 9223372036854775807) = true := capE_f _ _ _ (by simp only [List.length_cons,List.length_nil]; omega) (by decide)
  simp only [Bool.or_eq_true,Bool.and_eq_true,decide_eq_true_eq]
  exact .inr ⟨of_decide_eq_true c1,decide_eq_true (of_decide_eq_true c2)⟩
 ·unfold writeS
  cases (wr k d v d l).2 <;> simp
def doL:List (ByteArray×List Int) → List (ByteArray×Bool×List Int) → Option (List (ByteArray×List Int))
 | l,[] => some l
 | l,w :: ws => bif wrtP w.1 w.2.1 w.2.2 then bif decide ((writeS l w.1 w.2.1 w.2.2).length ≤ 40) then doL (writeS l w.1 w.2.1 w.2.2) ws else none else none
def doS (l:List (ByteArray×List Int)) (ws:List (ByteArray×Bool×List Int)):List (ByteArray×List Int) := bif storeP l then (doL l ws).getD [] else []
theorem writeS_val (k:ByteArray) (d:Bool) (v:List Int) (B:Nat) (hv:v.length ≤ B) (l:List (ByteArray×List Int)) (h:∀ x ∈ l,x.2.length ≤ B):∀ x ∈ writeS l k d v,x.2.length ≤ B := by
 have := wr_val k d v B hv l d h
 unfold writeS
 cases (wr k d v d l).2
 ·intro x hx
  simp only [cond_false,List.mem_append,List.mem_cons,List.not_mem_nil,or_false] at hx
  rcases hx with hx | rfl
  ·exact this x hx
  ·exact hv
 ·exact this
theorem doL_small (B:Nat):∀ (ws:List (ByteArray×Bool×List Int)) (l r:List (ByteArray×List Int)),l.length ≤ 40 → (∀ x ∈ l,x.2.length ≤ B) → (∀ w ∈ ws,w.2.2.length ≤ B) → doL l ws = some r → r.length ≤ 40 ∧ ∀ x ∈ r,x.2.length ≤ B
 | [],l,r,h1,h2,_,h => by simp only [doL,Option.some.injEq] at h; subst h; exact ⟨h1,h2⟩
 | w :: ws,l,r,h1,h2,h3,h => by
  simp only [doL] at h
  cases hw:wrtP w.1 w.2.1 w.2.2
  ·rw [hw] at h; cases h
  ·rw [hw,cond_true] at h
   by_cases hl:(writeS l w.1 w.2.1 w.2.2).length ≤ 40
   ·rw [decide_eq_true hl,cond_true] at h
    exact doL_small B ws _ r hl (writeS_val _ _ _ B (h3 w List.mem_cons_self) l h2) (fun x hx => h3 x (List.mem_cons_of_mem _ hx)) h
   ·rw [decide_eq_false hl] at h; cases h
theorem s_StoDo_f (l:List (ByteArray×List Int)) (ws:List (ByteArray×Bool×List Int)) (hl:l.length ≤ 1048576) (hit:∀ x ∈ l,x.2.length ≤ 1048576) (hw:ws.length ≤ 1048576) (hws:∀ w ∈ ws,w.2.2.length ≤ 1048576):g_As_StoDo l ws = true ∧ g_Vs_StoDo_0 l ws = doS l ws := by
 obtain ⟨a1,a2⟩ := s_StoOk_f l hl hit
 obtain ⟨c1,c2⟩ := l1Copy_f l hl hit
 unfold g_As_StoDo g_Vs_StoDo_0 doS
 rw [a1,a2,c1,c2]
 cases hs:storeP l
 ·simp
 ·have h1:l.length ≤ 40 := by
   simp only [storeP,Bool.and_eq_true,decide_eq_true_eq] at hs
   exact hs.1
  have L:∃ r,g_Ls_StoDo_0 ws [] (0,l) = some r ∧ match r with
    | .inl p => p.1 = [] ∧ doL l ws = none
    | .inr p => doL l ws = some p := by
   refine loop_inv (step := g_Ss_StoDo_0 ws []) (fun x => 0 ≤ x.1 ∧ x.1.toNat ≤ ws.length ∧ x.2.length ≤ 40 ∧ (∀ y ∈ x.2,y.2.length ≤ 1048576) ∧ doL x.2 (ws.drop x.1.toNat) = doL l ws) _ (fun x => ws.length - x.1.toNat) ?_ _ ⟨by simp,by simp,h1,hit,by simp⟩
   rintro ⟨i,y⟩ ⟨i1,i2,i3,i4,i5⟩
   simp only at i1 i2 i3 i4 i5
   by_cases hk:i < (ws.length:Int)
   ·have hn:i.toNat < ws.length := by omega
    rw [List.drop_eq_getElem_cons hn] at i5
    have hv := hws _ (List.getElem_mem hn)
    have e1:(i + 1).toNat = i.toNat + 1 := by omega
    have hat:at_ (.pair .str (.pair .bool (.sl 3 (.int .i64)))) ws i.toNat = ws[i.toNat] := at_eq (e := .pair .str (.pair .bool (.sl 3 (.int .i64)))) hn
    generalize hw:ws[i.toNat] = w at hv i5 hat
    obtain ⟨q1,q2⟩ := s_WrtOk_f w.1 w.2.1 w.2.2 hv
    obtain ⟨p1,p2⟩ := l1Write_f y w.1 w.2.1 w.2.2 (by omega) hv
    have hl := fun h2 => writeS_val w.1 w.2.1 w.2.2 1048576 hv y h2
    have sel:(g_Ss_StoDo_0 ws [] (i,y)).sel = bif wrtP w.1 w.2.1 w.2.2 then bif decide ((writeS y w.1 w.2.1 w.2.2).length ≤ 40) then .go (i + 1,writeS y w.1 w.2.1 w.2.2) else .out (.inl ([],writeS y w.1 w.2.1 w.2.2)) else .out (.inl ([],y)) := by
     simp only [g_Ss_StoDo_0,RT.sel,hk,i1,and_self,decide_true,cond_true,hat,q1,q2,p1,p2,wrap64 (x := i + 1) (by omega)]
     cases wrtP w.1 w.2.1 w.2.2
     ·rfl
     ·by_cases hc:(writeS y w.1 w.2.1 w.2.2).length ≤ 40
      ·simp only [Bool.not_true,cond_false,cond_true,decide_eq_true hc,decide_eq_false (show ¬ ((writeS y w.1 w.2.1 w.2.2).length:Int) > 40 by omega)]
      ·simp only [Bool.not_true,cond_false,cond_true,decide_eq_false hc,decide_eq_true (show ((writeS y w.1 w.2.1 w.2.2).length:Int) > 40 by omega)]
    simp only [doL] at i5
    cases hp:wrtP w.1 w.2.1 w.2.2
    ·rw [hp,cond_false] at sel i5
     exact .inr ⟨_,sel,rfl,i5.symm⟩
    ·rw [hp,cond_true] at sel i5
     by_cases hc:(writeS y w.1 w.2.1 w.2.2).length ≤ 40
     ·rw [decide_eq_true hc,cond_true] at sel i5
      refine .inl ⟨_,sel,⟨by simp only; omega,by simp only; omega,hc,hl i4,?_⟩,by simp only; omega⟩
      simp only [e1]
      exact i5
     ·rw [decide_eq_false hc,cond_false] at sel i5
      exact .inr ⟨_,sel,rfl,i5.symm⟩
   ·refine .inr ⟨.inr y,?_,?_⟩
    ·simp only [g_Ss_StoDo_0,RT.sel,hk,decide_false,cond_true,cond_false]
    ·rw [List.drop_of_length_le (by omega)] at i5
     simp only [doL] at i5
     exact i5.symm
  obtain ⟨r,h2,h3⟩ := L
  rw [h2]
  match r,h3 with
  | .inl p,h3 => simp [okO,valO,isL,getL,h3.1,h3.2]
  | .inr p,h3 =>
   have hsm := doL_small 1048576 ws l p h1 hit hws h3
   obtain ⟨d1,d2⟩ := l1Copy_f p (by omega) hsm.2
   simp [okO,valO,isL,getR,h3,d1,d2]
abbrev Item:Type := ByteArray×List Int
abbrev Wrt:Type := ByteArray×Bool×List Int
def Lt (a b:ByteArray):Prop := Op.bytesLess a.toList b.toList = true
def Srt (l:List Item):Prop := l.Pairwise fun a b => Lt a.1 b.1
instance (a b:ByteArray):Decidable (Lt a b) := by unfold Lt; infer_instance
theorem toList_inj {a b:ByteArray} (h:a.toList = b.toList):a = b := by
 rw [ByteArray.toList_eq,ByteArray.toList_eq] at h
 cases a; cases b
 congr
 exact Array.toList_inj.1 h
theorem lt_irrefl (a:ByteArray):¬ Lt a a := by unfold Lt; rw [less_irrefl]; simp
theorem lt_trans {a b c:ByteArray} (h1:Lt a b) (h2:Lt b c):Lt a c := less_trans _ _ _ h1 h2
theorem lt_asymm {a b:ByteArray} (h1:Lt a b) (h2:Lt b a):False := lt_irrefl a (lt_trans h1 h2)
theorem lt_tri (a b:ByteArray):Lt a b ∨ a = b ∨ Lt b a := by
 have h := leq_not a.toList b.toList
 unfold Lt
 cases h1:Op.bytesLess a.toList b.toList
 ·rw [h1,Bool.false_or] at h
  cases h2:Op.bytesLess b.toList a.toList
  ·rw [h2] at h
   exact .inr (.inl (toList_inj (by simpa using h)))
  ·exact .inr (.inr rfl)
 ·exact .inl rfl
theorem lt_ne {a b:ByteArray} (h:Lt a b):a ≠ b := fun e => by subst e; exact lt_irrefl _ h
theorem beq_list (a b:ByteArray):(a.toList == b.toList) = decide (a = b) := by
 rw [Bool.eq_iff_iff,beq_iff_eq,decide_eq_true_eq]
 exact ⟨toList_inj,fun e => by rw [e]⟩
theorem less_not {a b:ByteArray} (h:¬ Lt a b):Op.bytesLess a.toList b.toList = false := by
 unfold Lt at h; simpa using h
def okI' (x:Item):Bool := keyP x.1&&valP x.2
theorem storeP_iff (l:List Item):storeP l = true ↔ l.length ≤ 40 ∧ (∀ x ∈ l,okI' x = true) ∧ Srt l := by
 constructor
 ·intro h
  have h' := h
  simp only [storeP,Bool.and_eq_true,decide_eq_true_eq,List.all_eq_true,itemP] at h
  refine ⟨h.1,fun x hx => ?_,?_⟩
  ·obtain ⟨i,hi,rfl⟩ := List.getElem_of_mem hx
   have := h.2 i (List.mem_range.2 hi)
   rw [at_eq (e := TI_) hi] at this
   simp [okI',this.1,this.2.1]
  ·unfold Srt
   rw [List.pairwise_iff_getElem]
   intro i j hi hj hij
   have := rises_lt h' (j - i - 1) i (by omega)
   rw [show i + (j - i - 1 + 1) = j by omega,at_eq (e := TI_) hi,at_eq (e := TI_) hj] at this
   exact this
 ·rintro ⟨h1,h2,h3⟩
  simp only [storeP,Bool.and_eq_true,decide_eq_true_eq,List.all_eq_true,itemP]
  refine ⟨h1,fun i hi => ?_⟩
  have hi := List.mem_range.1 hi
  have a := h2 _ (List.getElem_mem hi)
  rw [at_eq (e := TI_) hi]
  simp only [okI',Bool.and_eq_true] at a
  refine ⟨a.1,a.2,?_⟩
  unfold risesP
  by_cases e:i = 0
  ·simp [e]
  ·have := (List.pairwise_iff_getElem.1 h3) (i - 1) i (by omega) hi (by omega)
   rw [at_eq (e := TI_) hi,at_eq (e := TI_) (show i - 1 < l.length by omega)]
   unfold Lt at this
   simp only [this,Bool.or_true]
theorem srt_tail {x:Item} {l:List Item} (h:Srt (x :: l)):Srt l ∧ ∀ y ∈ l,Lt x.1 y.1 := by
 unfold Srt at h
 rw [List.pairwise_cons] at h
 exact ⟨h.2,h.1⟩
theorem wr_true (k:ByteArray) (d:Bool) (v:List Int):∀ r:List Item,(∀ x ∈ r,Lt k x.1) → wr k d v true r = (r,true)
 | [],_ => rfl
 | it :: r,h => by
  have h1 := h it List.mem_cons_self
  have ih := wr_true k d v r (fun x hx => h x (List.mem_cons_of_mem _ hx))
  have e:(it.1.toList == k.toList) = false := by rw [beq_list]; exact decide_eq_false fun e => lt_ne h1 e.symm
  simp only [wr,e,Bool.not_true,Bool.false_and,Bool.or_false,ih,cond_false,List.nil_append]
theorem writeS_nil (k:ByteArray) (d:Bool) (v:List Int):writeS [] k d v = bif d then [] else [(k,v)] := by
 cases d <;> rfl
theorem writeS_lt {k:ByteArray} {it:Item} (h:Lt it.1 k) (d:Bool) (v:List Int) (r:List Item):writeS (it :: r) k d v = it :: writeS r k d v := by
 have e:(it.1.toList == k.toList) = false := by rw [beq_list]; exact decide_eq_false (lt_ne h)
 have e2:Op.bytesLess k.toList it.1.toList = false := less_not fun h2 => lt_asymm h h2
 simp only [writeS,wr,e,e2,Bool.and_false,Bool.or_false,cond_false,List.nil_append]
 cases (wr k d v d r).2 <;> rfl
theorem writeS_eq {k:ByteArray} {it:Item} (h:it.1 = k) (d:Bool) (v:List Int) (r:List Item) (hr:∀ x ∈ r,Lt k x.1):writeS (it :: r) k d v = bif d then r else (k,v) :: r := by
 have e:(it.1.toList == k.toList) = true := by rw [h]; simp
 have e2:Op.bytesLess k.toList it.1.toList = false := by rw [h]; exact less_irrefl _
 cases d
 ·simp only [writeS,wr,e,e2,Bool.and_false,Bool.or_false,cond_false,cond_true,List.nil_append,Bool.not_false,wr_true k false v r hr]
 ·simp only [writeS,wr,e,e2,Bool.and_false,Bool.or_false,cond_false,cond_true,List.nil_append,Bool.not_true,wr_true k true v r hr]
theorem writeS_gt {k:ByteArray} {it:Item} (h:Lt k it.1) (d:Bool) (v:List Int) (r:List Item) (hr:∀ x ∈ r,Lt k x.1):writeS (it :: r) k d v = bif d then it :: r else (k,v) :: it :: r := by
 have e:(it.1.toList == k.toList) = false := by rw [beq_list]; exact decide_eq_false fun e => lt_ne h e.symm
 have e2:Op.bytesLess k.toList it.1.toList = true := h
 cases d
 ·simp only [writeS,wr,e,e2,Bool.not_false,Bool.and_true,Bool.or_true,Bool.true_and,cond_false,cond_true,List.cons_append,List.nil_append,wr_true k false v r hr]
 ·simp only [writeS,wr,e,e2,Bool.not_true,Bool.false_and,Bool.or_false,cond_false,cond_true,List.nil_append,wr_true k true v r hr]
theorem writeS_mem {k:ByteArray} (d:Bool) (v:List Int):∀ {l:List Item},Srt l → ∀ x ∈ writeS l k d v,x ∈ l ∨ (d = false ∧ x = (k,v))
 | [],_,x,hx => by
  rw [writeS_nil] at hx
  cases d
  ·exact .inr ⟨rfl,by simpa using hx⟩
  ·cases hx
 | it :: r,hs,x,hx => by
  obtain ⟨h1,h2⟩ := srt_tail hs
  rcases lt_tri it.1 k with h | h | h
  ·rw [writeS_lt h] at hx
   rcases List.mem_cons.1 hx with rfl | hx
   ·exact .inl List.mem_cons_self
   ·rcases writeS_mem d v h1 x hx with h | h
    ·exact .inl (List.mem_cons_of_mem _ h)
    ·exact .inr h
  ·rw [writeS_eq h d v r (fun y hy => h ▸ h2 y hy)] at hx
   cases d
   ·rcases List.mem_cons.1 hx with rfl | hx
    ·exact .inr ⟨rfl,rfl⟩
    ·exact .inl (List.mem_cons_of_mem _ hx)
   ·exact .inl (List.mem_cons_of_mem _ hx)
  ·rw [writeS_gt h d v r (fun y hy => lt_trans h (h2 y hy))] at hx
   cases d
   ·rcases List.mem_cons.1 hx with rfl | hx
    ·exact .inr ⟨rfl,rfl⟩
    ·exact .inl hx
   ·exact .inl hx
theorem writeS_srt {k:ByteArray} (d:Bool) (v:List Int):∀ {l:List Item},Srt l → Srt (writeS l k d v)
 | [],_ => by rw [writeS_nil]; cases d <;> simp [Srt]
 | it :: r,hs => by
  obtain ⟨h1,h2⟩ := srt_tail hs
  rcases lt_tri it.1 k with h | h | h
  ·rw [writeS_lt h]
   refine List.pairwise_cons.2 ⟨fun x hx => ?_,writeS_srt d v h1⟩
   rcases writeS_mem d v h1 x hx with hx | ⟨_,rfl⟩
   ·exact h2 x hx
   ·exact h
  ·rw [writeS_eq h d v r (fun y hy => h ▸ h2 y hy)]
   cases d
   ·exact List.pairwise_cons.2 ⟨fun x hx => h ▸ h2 x hx,h1⟩
   ·exact h1
  ·rw [writeS_gt h d v r (fun y hy => lt_trans h (h2 y hy))]
   cases d
   ·refine List.pairwise_cons.2 ⟨fun x hx => ?_,hs⟩
    rcases List.mem_cons.1 hx with rfl | hx
    ·exact h
    ·exact lt_trans h (h2 x hx)
   ·exact hs
theorem writeS_store {l:List Item} (h:storeP l = true) {k:ByteArray} {d:Bool} {v:List Int} (hw:wrtP k d v = true) (hl:(writeS l k d v).length ≤ 40):storeP (writeS l k d v) = true := by
 rw [storeP_iff] at h ⊢
 refine ⟨hl,fun x hx => ?_,writeS_srt d v h.2.2⟩
 rcases writeS_mem d v h.2.2 x hx with hx | ⟨rfl,rfl⟩
 ·exact h.2.1 x hx
 ·simpa [wrtP,okI'] using hw
theorem doL_store:∀ (ws:List Wrt) (l r:List Item),storeP l = true → doL l ws = some r → storeP r = true
 | [],l,r,h,e => by simp only [doL,Option.some.injEq] at e; subst e; exact h
 | w :: ws,l,r,h,e => by
  simp only [doL] at e
  cases hw:wrtP w.1 w.2.1 w.2.2
  ·rw [hw] at e; cases e
  ·rw [hw,cond_true] at e
   by_cases hl:(writeS l w.1 w.2.1 w.2.2).length ≤ 40
   ·rw [decide_eq_true hl,cond_true] at e
    exact doL_store ws _ r (writeS_store h hw hl) e
   ·rw [decide_eq_false hl] at e; cases e
theorem storeP_nil:storeP [] = true := by decide
theorem doS_store (l:List Item) (ws:List Wrt):storeP (doS l ws) = true := by
 unfold doS
 cases h:storeP l
 ·exact storeP_nil
 ·rw [cond_true]
  cases e:doL l ws with
  | none => exact storeP_nil
  | some r => exact doL_store ws l r h e
theorem getP_cons (it:Item) (l:List Item) (key:ByteArray):getP (it :: l) key = bif decide (it.1 = key) then some it.2 else getP l key := by
 unfold getP
 rw [List.find?_cons,beq_list]
 cases decide (it.1 = key) <;> rfl
theorem getP_gt {key:ByteArray}:∀ {l:List Item},(∀ x ∈ l,Lt key x.1) → getP l key = none
 | [],_ => rfl
 | it :: l,h => by
  rw [getP_cons,decide_eq_false fun e => lt_ne (h it List.mem_cons_self) e.symm,cond_false]
  exact getP_gt fun x hx => h x (List.mem_cons_of_mem _ hx)
theorem posP_cons (it:Item) (l:List Item) (key:ByteArray):posP (it :: l) key = if Lt it.1 key then posP l key + 1 else 0 := by
 unfold posP
 by_cases h:Lt it.1 key
 ·rw [if_pos h,List.takeWhile_cons_of_pos (p := fun x:Item => Op.bytesLess x.1.toList key.toList) h]; rfl
 ·rw [if_neg h,List.takeWhile_cons_of_neg (p := fun x:Item => Op.bytesLess x.1.toList key.toList) (by simp only [less_not h]; simp)]; rfl
def putP (l:List Item) (k:ByteArray) (d:Bool) (v:List Int):List Item :=
 if (getP l k).isSome then (bif d then l.eraseIdx (posP l k) else l.set (posP l k) (k,v)) else bif d then l else l.take (posP l k) ++ (k,v) :: l.drop (posP l k)
theorem write_put (k:ByteArray) (d:Bool) (v:List Int):∀ {l:List Item},Srt l → writeS l k d v = putP l k d v
 | [],_ => by rw [writeS_nil]; cases d <;> rfl
 | it :: r,hs => by
  obtain ⟨h1,h2⟩ := srt_tail hs
  rcases lt_tri it.1 k with h | h | h
  ·rw [writeS_lt h,write_put k d v h1]
   unfold putP
   rw [getP_cons,decide_eq_false (lt_ne h),cond_false,posP_cons,if_pos h]
   split
   ·cases d <;> rfl
   ·cases d
    ·simp
    ·rfl
  ·rw [writeS_eq h d v r (fun y hy => h ▸ h2 y hy)]
   unfold putP
   rw [getP_cons,decide_eq_true h,cond_true,if_pos (show (some it.2).isSome = true from rfl),posP_cons,if_neg (by rw [h]; exact lt_irrefl k)]
   cases d <;> simp
  ·rw [writeS_gt h d v r (fun y hy => lt_trans h (h2 y hy))]
   unfold putP
   rw [getP_gt,posP_cons,if_neg (fun h2 => lt_asymm h h2)]
   ·cases d <;> simp
   ·intro x hx
    rcases List.mem_cons.1 hx with rfl | hx
    ·exact h
    ·exact lt_trans h (h2 x hx)
theorem doL_bad:∀ {ws:List Wrt} {l:List Item},(∃ w ∈ ws,wrtP w.1 w.2.1 w.2.2 = false) → doL l ws = none
 | [],_,h => by obtain ⟨_,h,_⟩ := h; cases h
 | w :: ws,l,h => by
  simp only [doL]
  cases hw:wrtP w.1 w.2.1 w.2.2
  ·rfl
  ·have:∃ w ∈ ws,wrtP w.1 w.2.1 w.2.2 = false := by
    obtain ⟨x,hx,e⟩ := h
    rcases List.mem_cons.1 hx with rfl | hx
    ·rw [hw] at e; cases e
    ·exact ⟨x,hx,e⟩
   rw [doL_bad this]
   cases decide ((writeS l w.1 w.2.1 w.2.2).length ≤ 40) <;> rfl
theorem doS_of {l:List Item} {ws:List Wrt} (h:storeP l = true):doS l ws = (doL l ws).getD [] := by unfold doS; rw [h]; rfl
theorem doS_bad {l:List Item} {ws:List Wrt} (h:∃ w ∈ ws,wrtP w.1 w.2.1 w.2.2 = false):doS l ws = [] := by
 unfold doS
 rw [doL_bad h]
 cases storeP l <;> rfl
theorem cmp_lt (a b:ByteArray):decide (g_compare a b < 0) = Op.bytesLess a.toList b.toList := by
 rw [ByteArray.toList_eq,ByteArray.toList_eq]
 exact compare_lt _ _
theorem cmp_eq (a b:ByteArray):(g_compare a b == 0) = (a.toList == b.toList) := by
 rw [ByteArray.toList_eq,ByteArray.toList_eq]
 exact compare_eq _ _
theorem half_f (i j:Int) (h:0 ≤ i ∧ 0 ≤ j ∧ i ≤ 100000 ∧ j ≤ 100000):IntKind.wrap .i64 (Int.fdiv (IntKind.wrap .u64 (IntKind.wrap .i64 (i + j))) 2) = (i + j) / 2 := by
 have u:IntKind.wrap .u64 (i + j) = i + j := by
  simp only [IntKind.wrap,IntKind.bits,IntKind.signed]
  simp
  omega
 rw [wrap64 (x := i + j) (by omega),u,Int.fdiv_eq_ediv_of_nonneg _ (by decide),wrap64 (by omega)]
theorem search_f (l:List (ByteArray×List Int)) (key:ByteArray) (n:Int) (h:storeP l = true):g_Lslices_BinarySearchFunc_i_StoItem_i_StoItem_string__i_StoStore_find_1_0 l key n (0,(l.length:Int)) = some (posP l key:Int) := by
 have hl:l.length ≤ 40 := by
  simp only [storeP,Bool.and_eq_true,decide_eq_true_eq] at h
  exact h.1
 have hp := pos_le l key
 obtain ⟨r,h1,h2⟩ := loop_inv (step := g_Sslices_BinarySearchFunc_i_StoItem_i_StoItem_string__i_StoStore_find_1_0 l key n) (fun x => 0 ≤ x.1 ∧ x.1 ≤ posP l key ∧ (posP l key:Int) ≤ x.2 ∧ x.2 ≤ l.length) (fun r => r = (posP l key:Int)) (fun x => (x.2 - x.1).toNat) (fun x hx => by
  obtain ⟨i,j⟩ := x
  obtain ⟨i1,i2,i3,i4⟩ := hx
  simp only at i1 i2 i3 i4
  by_cases hij:i < j
  ·have hh:0 ≤ (i + j) / 2 ∧ (i + j) / 2 < l.length := by omega
   have hm:((i + j) / 2).toNat < l.length := by omega
   have hlt := pos_lt h key ((i + j) / 2).toNat hm
   have sel:(g_Sslices_BinarySearchFunc_i_StoItem_i_StoItem_string__i_StoStore_find_1_0 l key n (i,j)).sel = bif decide (((i + j) / 2).toNat < posP l key) then .go ((i + j) / 2 + 1,j) else .go (i,(i + j) / 2) := by
    simp only [g_Sslices_BinarySearchFunc_i_StoItem_i_StoItem_string__i_StoStore_find_1_0,RT.sel,cond_true,half_f i j (by omega),hij,hh,decide_true,and_self,cmp_lt]
    rw [hlt,wrap64 (x := (i + j) / 2 + 1) (by omega)]
   by_cases hc:((i + j) / 2).toNat < posP l key
   ·rw [decide_eq_true hc,cond_true] at sel
    refine .inl ⟨_,sel,⟨by simp only; omega,by simp only; omega,i3,i4⟩,by simp only; omega⟩
   ·rw [decide_eq_false hc,cond_false] at sel
    refine .inl ⟨_,sel,⟨i1,i2,by simp only; omega,by simp only; omega⟩,by simp only; omega⟩
  ·refine .inr ⟨i,?_,by omega⟩
   simp only [g_Sslices_BinarySearchFunc_i_StoItem_i_StoItem_string__i_StoStore_find_1_0,RT.sel,cond_true,hij,decide_false,cond_false]) (0,(l.length:Int)) ⟨by simp,by simp,by simp only; omega,by simp⟩
 rw [← h2]
 exact h1
def thereP (l:List (ByteArray×List Int)) (key:ByteArray):Bool := decide (posP l key < l.length)&&(at_ TI_ l (posP l key)).1.toList == key.toList
theorem find_f (l:List (ByteArray×List Int)) (key:ByteArray) (h:storeP l = true):g_Ai_StoStore_find l key = true ∧ g_Vslices_BinarySearchFunc_i_StoItem_i_StoItem_string__i_StoStore_find_1_0 l key = (posP l key:Int) ∧ g_Vslices_BinarySearchFunc_i_StoItem_i_StoItem_string__i_StoStore_find_1_1 l key = thereP l key := by
 have hs := search_f l key (l.length:Int) h
 refine ⟨?_,?_,?_⟩
 ·simp only [g_Ai_StoStore_find,g_Aslices_BinarySearchFunc_i_StoItem_i_StoItem_string__i_StoStore_find_1,hs,okO,valO,Option.isSome_some,Option.getD_some,Bool.true_and,Bool.and_true]
  by_cases hp:(posP l key:Int) < (l.length:Int)
  ·have h0:(0:Int) ≤ (posP l key:Int) := by omega
   simp [hp,h0]
  ·simp [hp]
 ·simp only [g_Vslices_BinarySearchFunc_i_StoItem_i_StoItem_string__i_StoStore_find_1_0,hs,valO,Option.getD_some,Bool.cond_self]
 ·simp only [g_Vslices_BinarySearchFunc_i_StoItem_i_StoItem_string__i_StoStore_find_1_1,hs,valO,Option.getD_some,cmp_eq,thereP,Int.toNat_natCast,cond_f']
  rw [show decide ((posP l key:Int) < (l.length:Int)) = decide (posP l key < l.length) from decide_eq_decide.2 (by omega)]
theorem get_there {l:List (ByteArray×List Int)} (h:storeP l = true) (key:ByteArray):getP l key = bif thereP l key then some (at_ TI_ l (posP l key)).2 else none := by
 rw [get_pos h key]
 unfold thereP
 by_cases h1:posP l key < l.length
 ·by_cases h2:(at_ TI_ l (posP l key)).1.toList = key.toList
  ·rw [if_pos ⟨h1,h2⟩,decide_eq_true h1,Bool.true_and,h2,BEq.rfl,cond_true]
  ·rw [if_neg (fun h => h2 h.2),decide_eq_true h1,Bool.true_and,beq_eq_false_iff_ne.2 h2,cond_false]
 ·rw [if_neg (fun h => h1 h.1),decide_eq_false h1,Bool.false_and,cond_false]
theorem capF_f (a b k:Nat) (h:a + b ≤ 2200000) (hk:k ≤ 1000):decide ((a + b) * k ≤ nat_lit 140737488355328 ∧ a + b ≤ nat_lit 9223372036854775807) = true := by
 have:(a + b) * k ≤ 2200000 * 1000 := Nat.mul_le_mul h hk
 exact decide_eq_true ⟨Nat.le_trans this (by decide),Nat.le_trans h (by decide)⟩
theorem cap0_f (b k:Nat) (h:b ≤ 1048576) (hk:k ≤ 1000):decide ((nat_lit 0 + b) * k ≤ nat_lit 140737488355328 ∧ nat_lit 0 + b ≤ nat_lit 9223372036854775807) = true := capF_f 0 b k (by omega) hk
theorem loop_app {e:Ty} {σ ρ β:Type} {step:σ → RT σ ρ} (l:List e.den) (mk:Int → List β → σ) (g:e.den → β) (out:List β → ρ)
  (h1:∀ (i:Nat) (r:List β),i < l.length → r.length = i → (step (mk (i:Int) r)).sel = .go (mk ((i + 1:Nat):Int) (r ++ [g (at_ e l i)])))
  (h2:∀ r:List β,r.length = l.length → (step (mk (l.length:Int) r)).sel = .out (out r)):loopO step (mk 0 []) = some (out (l.map g)) := by
 have key:∀ (k i:Nat) (r:List β),i + k = l.length → r = (l.take i).map g → loopO step (mk (i:Int) r) = some (out (l.map g)) := by
  intro k
  induction k with
  | zero =>
   intro i r hi hr
   have hi:i = l.length := by omega
   subst hi
   rw [List.take_length] at hr
   rw [loopO_eq,h2 r (by rw [hr,List.length_map]),hr]
  | succ k ih =>
   intro i r hi hr
   have hil:i < l.length := by omega
   rw [loopO_eq,h1 i r hil (by rw [hr,List.length_map,List.length_take]; omega)]
   simp only
   refine ih (i + 1) _ (by omega) ?_
   rw [hr,at_eq hil,List.take_succ_eq_append_getElem hil,List.map_append]
   rfl
 exact key l.length 0 [] (by omega) (by simp)
theorem i_scopied_f (l:List Item) (hl:l.length ≤ 1048576) (hit:∀ x ∈ l,x.2.length ≤ 1048576):g_Ai_StoStore_copied l = true ∧ g_Vi_StoStore_copied_0 l = l := by
 have L:g_Li_StoStore_copied_0 l (l.length:Int) [] (0,[]) = some (l.map id) := by
  refine loop_app (e := TI_) (step := g_Si_StoStore_copied_0 l (l.length:Int) []) l (fun i r => (i,r)) id id (fun i r hi hr => ?_) (fun r hr => by simp only [g_Si_StoStore_copied_0,RT.sel,cond_true,Int.lt_irrefl,decide_false,cond_false,id])
  have k1:(i:Int) < l.length := by omega
  have k2:(0:Int) ≤ (i:Int) := by omega
  have hx := hit _ (at_mem (e := TI_) hi)
  simp only [g_Si_StoStore_copied_0,RT.sel,cond_true,k1,k2,decide_true,and_self,Int.toNat_natCast,g_Aslices_Clone_int_int_b,id]
  rw [cap0_f _ _ hx (by decide),capF_f _ _ _ (by simp only [List.length_cons,List.length_nil]; omega) (by decide),cond_true,cond_true,wrap64 (x := (i:Int) + 1) (by omega)]
  rfl
 rw [List.map_id] at L
 simp only [g_Ai_StoStore_copied,g_Vi_StoStore_copied_0,L,okO,valO,Option.isSome_some,Option.getD_some,and_self]
theorem i_write_f (l:List Item) (h:storeP l = true) (k:ByteArray) (d:Bool) (v:List Int) (hv:v.length ≤ 1048576):g_Ai_StoStore_write l k d v = true ∧ g_Vi_StoStore_write_0 l k d v = writeS l k d v := by
 have hl := ((storeP_iff l).1 h).1
 have hs := ((storeP_iff l).1 h).2.2
 obtain ⟨f1,f2,f3⟩ := find_f l k h
 have hp := pos_le l k
 have gt := get_there h k
 have w1:IntKind.wrap .i64 ((posP l k:Int) + 1) = ((posP l k + 1:Nat):Int) := by rw [wrap64 (by omega)]; omega
 have e0:decide ((0:Int) ≤ (posP l k:Int) ∧ (posP l k:Int) ≤ (l.length:Int)) = true := decide_eq_true (by omega)
 have cl:g_Aslices_Clone_int_int_b v = true := by
  rw [g_Aslices_Clone_int_int_b]
  exact cap0_f _ _ hv (by decide)
 have ins:g_Aslices_Insert_i_StoItem_i_StoItem l (posP l k:Int) [(k,v)] = true := by
  unfold g_Aslices_Insert_i_StoItem_i_StoItem
  refine decide_eq_true ⟨by omega,by simp,by simp only [List.length_cons,List.length_nil]; omega⟩
 have lt:thereP l k = true → posP l k < l.length := fun e => by
  unfold thereP at e
  simp only [Bool.and_eq_true,decide_eq_true_eq] at e
  exact e.1
 unfold g_Ai_StoStore_write g_Vi_StoStore_write_0
 rw [f1,f2,f3,w1,cl,ins,write_put k d v hs]
 unfold putP
 rw [gt]
 cases ht:thereP l k
 ·refine ⟨by cases d <;> rfl,?_⟩
  cases d
  ·simp only [cond_false,Option.isSome_none,if_false,Bool.false_eq_true]
   unfold g_Vslices_Insert_i_StoItem_i_StoItem_0
   rw [Int.toNat_natCast]
   rfl
  ·rfl
 ·have hlt := lt ht
  have del:g_Aslices_Delete_i_StoItem_i_StoItem l (posP l k:Int) ((posP l k + 1:Nat):Int) = true := by
   unfold g_Aslices_Delete_i_StoItem_i_StoItem
   exact decide_eq_true (by omega)
  have d1:decide ((0:Int) ≤ (posP l k:Int) ∧ (posP l k:Int) < (l.length:Int)) = true := decide_eq_true (by omega)
  have d2:decide (Int.toNat (posP l k:Int) < l.length) = true := decide_eq_true (by rw [Int.toNat_natCast]; exact hlt)
  rw [del,d1,d2]
  refine ⟨by cases d <;> rfl,?_⟩
  cases d
  ·simp only [cond_false,cond_true,Option.isSome_some,if_true]
   have hk:(at_ TI_ l (posP l k)).1 = k := by
    unfold thereP at ht
    simp only [Bool.and_eq_true,beq_iff_eq] at ht
    exact toList_inj ht.2
   show l.set (Int.toNat (posP l k:Int)) ((at_ TI_ l (Int.toNat (posP l k:Int))).1,v) = _
   rw [Int.toNat_natCast,hk]
  ·simp only [cond_true,Option.isSome_some,if_true]
   unfold g_Vslices_Delete_i_StoItem_i_StoItem_0
   rw [Int.toNat_natCast,Int.toNat_natCast,List.eraseIdx_eq_take_drop_succ]
theorem i_anyBad_f (ws:List Wrt) (hw:ws.length ≤ 1048576) (hws:∀ w ∈ ws,w.2.2.length ≤ 1048576):g_Aslices_ContainsFunc_i_StoWrite_i_StoWrite__i_StoDo_1 ws = true ∧ g_Vslices_ContainsFunc_i_StoWrite_i_StoWrite__i_StoDo_1_0 ws = ws.any fun w => !wrtP w.1 w.2.1 w.2.2 := by
 obtain ⟨r,h1,h2⟩ := loop_idx (e := .pair .str (.pair .bool (.sl 3 (.int .i64)))) ws (step := g_Sslices_IndexFunc_i_StoWrite_i_StoWrite__i_StoDo_1_0 ws (ws.length:Int)) (fun w => !wrtP w.1 w.2.1 w.2.2) (fun i hi => by
  have k1:(i:Int) < ws.length := by omega
  have k2:(0:Int) ≤ (i:Int) := by omega
  have hx := hws _ (at_mem (e := .pair .str (.pair .bool (.sl 3 (.int .i64)))) hi)
  obtain ⟨q1,q2⟩ := i_WrtOk_f (at_ (.pair .str (.pair .bool (.sl 3 (.int .i64)))) ws i).1 (at_ (.pair .str (.pair .bool (.sl 3 (.int .i64)))) ws i).2.1 (at_ (.pair .str (.pair .bool (.sl 3 (.int .i64)))) ws i).2.2 hx
  simp only [g_Sslices_IndexFunc_i_StoWrite_i_StoWrite__i_StoDo_1_0,RT.sel,cond_true,k1,k2,decide_true,and_self,Int.toNat_natCast,g_Ai_StoDo_1,q1,q2]
  rw [wrap64 (x := (i:Int) + 1) (by omega)]
  rfl) (by simp only [g_Sslices_IndexFunc_i_StoWrite_i_StoWrite__i_StoDo_1_0,RT.sel,cond_true,Int.lt_irrefl,decide_false,cond_false])
 have h1:g_Lslices_IndexFunc_i_StoWrite_i_StoWrite__i_StoDo_1_0 ws (ws.length:Int) 0 = some r := h1
 unfold g_Aslices_ContainsFunc_i_StoWrite_i_StoWrite__i_StoDo_1 g_Vslices_ContainsFunc_i_StoWrite_i_StoWrite__i_StoDo_1_0 g_Aslices_IndexFunc_i_StoWrite_i_StoWrite__i_StoDo_1 g_Vslices_IndexFunc_i_StoWrite_i_StoWrite__i_StoDo_1_0
 rw [h1]
 exact ⟨rfl,h2⟩
theorem i_StoDo_f (l:List Item) (ws:List Wrt) (hl:l.length ≤ 1048576) (hit:∀ x ∈ l,x.2.length ≤ 1048576) (hw:ws.length ≤ 1048576) (hws:∀ w ∈ ws,w.2.2.length ≤ 1048576):g_Ai_StoDo l ws = true ∧ g_Vi_StoDo_0 l ws = doS l ws := by
 obtain ⟨a1,a2⟩ := i_StoOk_f l hl hit
 obtain ⟨b1,b2⟩ := i_anyBad_f ws hw hws
 obtain ⟨c1,c2⟩ := i_scopied_f l hl hit
 unfold g_Ai_StoDo g_Vi_StoDo_0
 rw [a1,a2,b1,b2,c1,c2]
 cases hs:storeP l
 ·unfold doS; rw [hs]; exact ⟨rfl,rfl⟩
 ·cases hb:ws.any fun w => !wrtP w.1 w.2.1 w.2.2
  ·have hok:∀ w ∈ ws,wrtP w.1 w.2.1 w.2.2 = true := by
    intro w hw
    have := (List.any_eq_false.1 hb) w hw
    simpa using this
   rw [doS_of hs]
   have L:∃ r,g_Li_StoDo_0 ws (ws.length:Int) [] (0,l) = some r ∧ match r with
     | .inl p => p.1 = [] ∧ doL l ws = none
     | .inr p => doL l ws = some p := by
    refine loop_inv (step := g_Si_StoDo_0 ws (ws.length:Int) []) (fun x => 0 ≤ x.1 ∧ x.1.toNat ≤ ws.length ∧ storeP x.2 = true ∧ doL x.2 (ws.drop x.1.toNat) = doL l ws) _ (fun x => ws.length - x.1.toNat) ?_ _ ⟨by simp,by simp,hs,by simp⟩
    rintro ⟨i,y⟩ ⟨i1,i2,i3,i4⟩
    simp only at i1 i2 i3 i4
    by_cases hk:i < (ws.length:Int)
    ·have hn:i.toNat < ws.length := by omega
     rw [List.drop_eq_getElem_cons hn] at i4
     have hv := hws _ (List.getElem_mem hn)
     have ho := hok _ (List.getElem_mem hn)
     have e1:(i + 1).toNat = i.toNat + 1 := by omega
     have hat:at_ (.pair .str (.pair .bool (.sl 3 (.int .i64)))) ws i.toNat = ws[i.toNat] := at_eq (e := .pair .str (.pair .bool (.sl 3 (.int .i64)))) hn
     generalize hw:ws[i.toNat] = w at hv i4 hat ho
     obtain ⟨p1,p2⟩ := i_write_f y i3 w.1 w.2.1 w.2.2 hv
     have sel:(g_Si_StoDo_0 ws (ws.length:Int) [] (i,y)).sel = bif decide ((writeS y w.1 w.2.1 w.2.2).length ≤ 40) then .go (i + 1,writeS y w.1 w.2.1 w.2.2) else .out (.inl ([],writeS y w.1 w.2.1 w.2.2)) := by
      simp only [g_Si_StoDo_0,RT.sel,hk,i1,and_self,decide_true,cond_true,hat,p1,p2,wrap64 (x := i + 1) (by omega)]
      by_cases hc:(writeS y w.1 w.2.1 w.2.2).length ≤ 40
      ·simp only [cond_false,cond_true,decide_eq_true hc,decide_eq_false (show ¬ ((writeS y w.1 w.2.1 w.2.2).length:Int) > 40 by omega)]
      ·simp only [cond_false,cond_true,decide_eq_false hc,decide_eq_true (show ((writeS y w.1 w.2.1 w.2.2).length:Int) > 40 by omega)]
     simp only [doL,ho,cond_true] at i4
     by_cases hc:(writeS y w.1 w.2.1 w.2.2).length ≤ 40
     ·rw [decide_eq_true hc,cond_true] at sel i4
      refine .inl ⟨_,sel,⟨by simp only; omega,by simp only; omega,writeS_store i3 ho hc,?_⟩,by simp only; omega⟩
      simp only [e1]
      exact i4
     ·rw [decide_eq_false hc,cond_false] at sel i4
      exact .inr ⟨_,sel,rfl,i4.symm⟩
    ·refine .inr ⟨.inr y,?_,?_⟩
     ·simp only [g_Si_StoDo_0,RT.sel,hk,decide_false,cond_true,cond_false]
     ·rw [List.drop_of_length_le (by omega)] at i4
      simp only [doL] at i4
      exact i4.symm
   obtain ⟨r,h2,h3⟩ := L
   rw [h2]
   match r,h3 with
   | .inl p,h3 => simp [okO,valO,isL,getL,h3.1,h3.2]
   | .inr p,h3 => simp [okO,valO,isL,getR,h3]
  ·obtain ⟨w,hw,e⟩ := List.any_eq_true.1 hb
   rw [doS_bad ⟨w,hw,by simpa using e⟩]
   exact ⟨rfl,rfl⟩
def isR (tx:Int) (n:Note):Bool := decide (n.2.1 = tx)&&decide (n.1 = 1)
theorem ready_nil (tx:Int):g_ready [] tx = none := rfl
theorem ready_snoc (l:List Note) (n:Note) (tx:Int):g_ready (l ++ [n]) tx = bif isR tx n then some n else g_ready l tx := by
 have e:g_ready (l ++ [n]) tx = match isR tx n with | true => some n | false => g_ready l tx := by
  unfold g_ready
  rw [List.reverse_append,List.reverse_singleton,List.singleton_append,List.find?_cons]
  rfl
 rw [e]
 cases isR tx n <;> rfl
theorem ready_mem {l:List Note} {tx:Int} {m:Note} (h:g_ready l tx = some m):m ∈ l := by
 unfold g_ready at h
 exact List.mem_reverse.1 (List.mem_of_find?_eq_some h)
def stepF (pre:List Note) (n:Note) (s:List Item):List Item := bif decide (n.1 = 2) then (match g_ready pre n.2.1 with | some m => doS s m.2.2.2 | none => s) else s
def foldA:List Note → List Note → List Item → List Item
 | _,[],s => s
 | pre,n :: r,s => foldA (pre ++ [n]) r (stepF pre n s)
def foldP (l:List Note):List Item := foldA [] l []
theorem foldA_app:∀ (a pre b:List Note) (s:List Item),foldA pre (a ++ b) s = foldA (pre ++ a) b (foldA pre a s)
 | [],pre,b,s => by simp [foldA]
 | n :: a,pre,b,s => by
  rw [List.cons_append,foldA,foldA_app a,foldA,List.append_assoc,List.singleton_append]
theorem foldP_snoc (l:List Note) (n:Note):foldP (l ++ [n]) = stepF l n (foldP l) := by
 unfold foldP
 rw [foldA_app,List.nil_append,foldA,foldA]
theorem stepF_store {pre:List Note} {n:Note} {s:List Item} (h:storeP s = true):storeP (stepF pre n s) = true := by
 unfold stepF
 cases decide (n.1 = 2)
 ·exact h
 ·rw [cond_true]
  cases g_ready pre n.2.1
  ·exact h
  ·exact doS_store _ _
theorem foldA_store:∀ (l pre:List Note) (s:List Item),storeP s = true → storeP (foldA pre l s) = true
 | [],_,_,h => h
 | _ :: l,_,_,h => foldA_store l _ _ (stepF_store h)
theorem foldP_store (l:List Note):storeP (foldP l) = true := foldA_store l [] [] storeP_nil
theorem store_mid {s:List Item} (h:storeP s = true):s.length ≤ 40 ∧ ∀ x ∈ s,x.2.length ≤ 1048576 := by
 have hv := (storeP_iff s).1 h
 refine ⟨hv.1,fun x hx => ?_⟩
 have := hv.2.1 x hx
 simp only [okI',Bool.and_eq_true,valP,decide_eq_true_eq] at this
 exact Nat.le_trans this.2.1.2 (by decide)
theorem s_l2Ready_f (l:List Note) (tx:Int) (hl:l.length ≤ 1048576):g_As_l2Ready l tx = true ∧ g_Vs_l2Ready_3 l tx = ((g_ready l tx).map (·.2.2.2)).getD [] ∧ g_Vs_l2Ready_4 l tx = (g_ready l tx).isSome := by
 have L:∃ r,g_Ls_l2Ready_0 l tx 0 0 [] [] ((l.length:Int) - 1) = some r ∧ (match r with
   | .inl p => p.1 = true ∧ ∃ m,g_ready l tx = some m ∧ p.2.2.2.2 = m.2.2.2
   | .inr _ => g_ready l tx = none) := by
  refine loop_inv (step := g_Ss_l2Ready_0 l tx 0 0 [] []) (fun x => -1 ≤ x ∧ x < l.length ∧ g_ready (l.take (x + 1).toNat) tx = g_ready l tx) _ (fun x => (x + 1).toNat) ?_ _ ⟨by omega,by omega,by rw [List.take_of_length_le (by omega)]⟩
  rintro x ⟨i1,i2,i3⟩
  by_cases hx:x ≥ 0
  ·have hn:x.toNat < l.length := by omega
   have hat:at_ NI_ l x.toNat = l[x.toNat] := at_eq (e := NI_) hn
   have v0:decide ((0:Int) ≤ x ∧ x < (l.length:Int)) = true := decide_eq_true ⟨hx,i2⟩
   have hw:IntKind.wrap .i64 (x - 1) = x - 1 := wrap64 (by omega)
   rw [show (x + 1).toNat = x.toNat + 1 by omega,List.take_succ_eq_append_getElem hn,ready_snoc] at i3
   by_cases h1:l[x.toNat].1 = 1
   ·have h1':(l[x.toNat].1 == 1) = true := by simpa using h1
    by_cases h2:l[x.toNat].2.1 = tx
    ·have h2':(l[x.toNat].2.1 == tx) = true := by simpa using h2
     have:isR tx l[x.toNat] = true := by unfold isR; rw [decide_eq_true h1,decide_eq_true h2]; rfl
     rw [this,cond_true] at i3
     refine .inr ⟨.inl (true,l[x.toNat].1,l[x.toNat].2.1,l[x.toNat].2.2.1,l[x.toNat].2.2.2),?_,rfl,_,i3.symm,rfl⟩
     simp only [g_Ss_l2Ready_0,RT.sel,decide_eq_true hx,cond_true,v0,hat,h1',h2']
    ·have h2':(l[x.toNat].2.1 == tx) = false := by simpa using h2
     have:isR tx l[x.toNat] = false := by unfold isR; rw [decide_eq_false h2]; rfl
     rw [this,cond_false] at i3
     refine .inl ⟨x - 1,?_,⟨by omega,by omega,by rwa [show (x - 1 + 1).toNat = x.toNat by omega]⟩,by omega⟩
     simp only [g_Ss_l2Ready_0,RT.sel,decide_eq_true hx,cond_true,cond_false,v0,hat,h1',h2',hw]
   ·have h1':(l[x.toNat].1 == 1) = false := by simpa using h1
    have:isR tx l[x.toNat] = false := by unfold isR; rw [decide_eq_false h1,Bool.and_false]
    rw [this,cond_false] at i3
    refine .inl ⟨x - 1,?_,⟨by omega,by omega,by rwa [show (x - 1 + 1).toNat = x.toNat by omega]⟩,by omega⟩
    simp only [g_Ss_l2Ready_0,RT.sel,decide_eq_true hx,cond_true,cond_false,v0,hat,h1',hw]
  ·refine .inr ⟨.inr (),?_,?_⟩
   ·simp only [g_Ss_l2Ready_0,RT.sel,decide_eq_false hx,cond_true,cond_false]
   ·rw [show (x + 1).toNat = 0 by omega,List.take_zero] at i3
    exact i3.symm
 obtain ⟨r,r1,r2⟩ := L
 unfold g_As_l2Ready g_Vs_l2Ready_3 g_Vs_l2Ready_4
 rw [wrap64 (x := (l.length:Int) - 1) (by omega),r1]
 match r,r2 with
 | .inl p,⟨e1,m,e2,e3⟩ =>
  rw [e2]
  simp only [okO,valO,isL,getL,Option.isSome_some,Option.getD_some,cond_true,Option.map_some,e1,e3,and_self]
 | .inr _,e2 =>
  have e2:g_ready l tx = none := e2
  rw [e2]
  exact ⟨rfl,rfl,rfl⟩
theorem ready_small {l:List Note} (hit:∀ x ∈ l,smallN x) {k:Nat} {tx:Int} {m:Note} (h:g_ready (l.take k) tx = some m):m.2.2.2.length ≤ 1048576 ∧ ∀ w ∈ m.2.2.2,w.2.2.length ≤ 1048576 := by
 have := hit m (List.mem_of_mem_take (ready_mem h))
 exact this.2
theorem fold_next (l:List Note) {x:Nat} (hn:x < l.length) (s:List Item):foldA (l.take x) (l.drop x) s = foldA (l.take (x + 1)) (l.drop (x + 1)) (stepF (l.take x) l[x] s) := by
 rw [List.drop_eq_getElem_cons hn,foldA,List.take_succ_eq_append_getElem hn]
theorem foldL_i (l:List Note) (safe:Int) (hl:l.length ≤ 1048576) (hit:∀ x ∈ l,smallN x):g_Li_DiskFold_0 l (l.length:Int) l safe [] (0,[]) = some (foldP l) := by
 have L:∃ r,g_Li_DiskFold_0 l (l.length:Int) l safe [] (0,[]) = some r ∧ r = foldP l := by
  refine loop_inv (step := g_Si_DiskFold_0 l (l.length:Int) l safe []) (fun x => 0 ≤ x.1 ∧ x.1 ≤ l.length ∧ storeP x.2 = true ∧ foldA (l.take x.1.toNat) (l.drop x.1.toNat) x.2 = foldP l) _ (fun x => (l.length - x.1).toNat) ?_ _ ⟨by simp,by simp,storeP_nil,by simp [foldP]⟩
  rintro ⟨x,s⟩ ⟨i1,i2,i3,i4⟩
  simp only at i1 i2 i3 i4
  by_cases hx:x < (l.length:Int)
  ·have hn:x.toNat < l.length := by omega
   have hat:at_ NI_ l x.toNat = l[x.toNat] := at_eq (e := NI_) hn
   have v0:decide ((0:Int) ≤ x ∧ x < (l.length:Int)) = true := decide_eq_true ⟨i1,hx⟩
   have v1:decide ((0:Int) ≤ x ∧ x ≤ (l.length:Int)) = true := decide_eq_true ⟨i1,i2⟩
   have hw:IntKind.wrap .i64 (x + 1) = x + 1 := wrap64 (by omega)
   have e0:∀ z:List Note,List.drop (nat_lit 0) z = z := fun z => rfl
   have ra:g_Ai_ready (l.take x.toNat) = true := by
    unfold g_Ai_ready
    exact decide_eq_true (by have := List.length_take_le' x.toNat l; omega)
   rw [fold_next l hn] at i4
   refine .inl ⟨(x + 1,stepF (l.take x.toNat) l[x.toNat] s),?_,⟨by simp only; omega,by simp only; omega,stepF_store i3,by simp only [show (x + 1).toNat = x.toNat + 1 by omega]; exact i4⟩,by simp only; omega⟩
   by_cases h2:l[x.toNat].1 = 2
   ·have h2':(l[x.toNat].1 != 2) = false := by simpa using h2
    unfold stepF
    rw [decide_eq_true h2,cond_true]
    cases hr:g_ready (l.take x.toNat) l[x.toNat].2.1 with
    | none => simp only [g_Si_DiskFold_0,RT.sel,decide_eq_true hx,cond_true,cond_false,v0,v1,hat,h2',hw,e0,ra,g_Vi_ready_1,hr,Option.isSome_none]
    | some m =>
     obtain ⟨b1,b2⟩ := store_mid i3
     obtain ⟨c1,c2⟩ := ready_small hit hr
     obtain ⟨d1,d2⟩ := i_StoDo_f s m.2.2.2 (by omega) b2 c1 c2
     simp only [g_Si_DiskFold_0,RT.sel,decide_eq_true hx,cond_true,cond_false,v0,v1,hat,h2',hw,e0,ra,g_Vi_ready_1,g_Vi_ready_0,hr,Option.isSome_some,Option.map_some,Option.getD_some,d1,d2]
   ·have h2':(l[x.toNat].1 != 2) = true := by simpa using h2
    unfold stepF
    rw [decide_eq_false h2,cond_false]
    simp only [g_Si_DiskFold_0,RT.sel,decide_eq_true hx,cond_true,v0,hat,h2',hw]
  ·refine .inr ⟨s,?_,?_⟩
   ·simp only [g_Si_DiskFold_0,RT.sel,decide_eq_false hx,cond_true,cond_false]
   ·rw [List.drop_of_length_le (by omega)] at i4
    exact i4
 obtain ⟨r,r1,r2⟩ := L
 rw [r1,r2]
theorem foldL_s (l:List Note) (safe:Int) (hl:l.length ≤ 1048576) (hit:∀ x ∈ l,smallN x):g_Ls_DiskFold_0 l safe [] (0,[]) = some (foldP l) := by
 have L:∃ r,g_Ls_DiskFold_0 l safe [] (0,[]) = some r ∧ r = foldP l := by
  refine loop_inv (step := g_Ss_DiskFold_0 l safe []) (fun x => 0 ≤ x.1 ∧ x.1 ≤ l.length ∧ storeP x.2 = true ∧ foldA (l.take x.1.toNat) (l.drop x.1.toNat) x.2 = foldP l) _ (fun x => (l.length - x.1).toNat) ?_ _ ⟨by simp,by simp,storeP_nil,by simp [foldP]⟩
  rintro ⟨x,s⟩ ⟨i1,i2,i3,i4⟩
  simp only at i1 i2 i3 i4
  by_cases hx:x < (l.length:Int)
  ·have hn:x.toNat < l.length := by omega
   have hat:at_ NI_ l x.toNat = l[x.toNat] := at_eq (e := NI_) hn
   have v0:decide ((0:Int) ≤ x ∧ x < (l.length:Int)) = true := decide_eq_true ⟨i1,hx⟩
   have v1:decide ((0:Int) ≤ x ∧ x ≤ (l.length:Int)) = true := decide_eq_true ⟨i1,i2⟩
   have hw:IntKind.wrap .i64 (x + 1) = x + 1 := wrap64 (by omega)
   have e0:∀ z:List Note,List.drop (nat_lit 0) z = z := fun z => rfl
   obtain ⟨ra,rb,rc⟩ := s_l2Ready_f (l.take x.toNat) l[x.toNat].2.1 (by have := List.length_take_le' x.toNat l; omega)
   rw [fold_next l hn] at i4
   refine .inl ⟨(x + 1,stepF (l.take x.toNat) l[x.toNat] s),?_,⟨by simp only; omega,by simp only; omega,stepF_store i3,by simp only [show (x + 1).toNat = x.toNat + 1 by omega]; exact i4⟩,by simp only; omega⟩
   by_cases h2:l[x.toNat].1 = 2
   ·have h2':(l[x.toNat].1 != 2) = false := by simpa using h2
    unfold stepF
    rw [decide_eq_true h2,cond_true]
    cases hr:g_ready (l.take x.toNat) l[x.toNat].2.1 with
    | none =>
     rw [hr] at rc
     simp only [Option.isSome_none] at rc
     simp only [g_Ss_DiskFold_0,RT.sel,decide_eq_true hx,cond_true,cond_false,v0,v1,hat,h2',hw,e0,ra,rc]
    | some m =>
     obtain ⟨b1,b2⟩ := store_mid i3
     obtain ⟨c1,c2⟩ := ready_small hit hr
     obtain ⟨d1,d2⟩ := s_StoDo_f s m.2.2.2 (by omega) b2 c1 c2
     rw [hr] at rb rc
     simp only [Option.isSome_some,Option.map_some,Option.getD_some] at rb rc
     simp only [g_Ss_DiskFold_0,RT.sel,decide_eq_true hx,cond_true,cond_false,v0,v1,hat,h2',hw,e0,ra,rb,rc,d1,d2]
   ·have h2':(l[x.toNat].1 != 2) = true := by simpa using h2
    unfold stepF
    rw [decide_eq_false h2,cond_false]
    simp only [g_Ss_DiskFold_0,RT.sel,decide_eq_true hx,cond_true,v0,hat,h2',hw]
  ·refine .inr ⟨s,?_,?_⟩
   ·simp only [g_Ss_DiskFold_0,RT.sel,decide_eq_false hx,cond_true,cond_false]
   ·rw [List.drop_of_length_le (by omega)] at i4
    exact i4
 obtain ⟨r,r1,r2⟩ := L
 rw [r1,r2]
theorem i_DiskFold_f (l:List Note) (safe:Int) (hl:l.length ≤ 1048576) (hit:∀ x ∈ l,smallN x):g_Ai_DiskFold l safe = true ∧ g_Vi_DiskFold_0 l safe = bif diskP l safe then foldP l else [] := by
 obtain ⟨a1,a2⟩ := i_DiskOk_f l safe hl hit
 unfold g_Ai_DiskFold g_Vi_DiskFold_0
 rw [a1,a2,foldL_i l safe hl hit]
 cases diskP l safe <;> exact ⟨rfl,rfl⟩
theorem s_DiskFold_f (l:List Note) (safe:Int) (hl:l.length ≤ 1048576) (hit:∀ x ∈ l,smallN x):g_As_DiskFold l safe = true ∧ g_Vs_DiskFold_0 l safe = bif diskP l safe then foldP l else [] := by
 obtain ⟨a1,a2⟩ := s_DiskOk_f l safe hl hit
 unfold g_As_DiskFold g_Vs_DiskFold_0
 rw [a1,a2,foldL_s l safe hl hit]
 cases diskP l safe <;> exact ⟨rfl,rfl⟩
theorem jaInts_self (l:List Int) (hl:l.length ≤ 1048576):g_Aw_jaInts l l = true ∧ g_Vw_jaInts_0 l l = true := by
 have h:g_Lw_jaInts_0 l l 0 = some (.inr ()) := by
  have := loop_all (step := g_Sw_jaInts_0 l l) (fun i:Nat => (i:Int)) (fun _ => true) (.inl false) (.inr ()) l.length (fun i hi => by
   have k1:(i:Int) < l.length := by omega
   have k2:(0:Int) ≤ (i:Int) := by omega
   have hw:IntKind.wrap .i64 ((i:Int) + 1) = ((i + 1:Nat):Int) := by rw [wrap64 (by omega)]; omega
   simp only [g_Sw_jaInts_0,RT.sel,cond_true,k1,k2,hw,decide_true,and_self,Int.toNat_natCast,bne_self_eq_false,BEq.rfl,Bool.not_true,cond_false]) (by simp [g_Sw_jaInts_0,RT.sel])
  rw [show (List.range l.length).all (fun _ => true) = true by simp] at this
  exact this
 simp [g_Aw_jaInts,g_Vw_jaInts_0,h,okO,valO,isL]
theorem jaSto_self (l:List (ByteArray×List Int)) (hl:l.length ≤ 1048576) (hit:∀ x ∈ l,x.2.length ≤ 1048576):g_Aw_jaSto l l = true ∧ g_Vw_jaSto_0 l l = true := by
 have h:g_Lw_jaSto_0 l l 0 = some (.inr ()) := by
  have := loop_all (step := g_Sw_jaSto_0 l l) (fun i:Nat => (i:Int)) (fun _ => true) (.inl false) (.inr ()) l.length (fun i hi => by
   have k1:(i:Int) < l.length := by omega
   have k2:(0:Int) ≤ (i:Int) := by omega
   have hw:IntKind.wrap .i64 ((i:Int) + 1) = ((i + 1:Nat):Int) := by rw [wrap64 (by omega)]; omega
   obtain ⟨j1,j2⟩ := jaInts_self (at_ TI_ l i).2 (hit _ (at_mem (e := TI_) hi))
   simp only [g_Sw_jaSto_0,RT.sel,cond_true,k1,k2,hw,decide_true,and_self,Int.toNat_natCast,bne_self_eq_false,BEq.rfl,Bool.not_true,cond_false,j1,j2]) (by simp [g_Sw_jaSto_0,RT.sel])
  rw [show (List.range l.length).all (fun _ => true) = true by simp] at this
  exact this
 simp [g_Aw_jaSto,g_Vw_jaSto_0,h,okO,valO,isL]
noncomputable def keyD (r0:List Int) (r1 n:Int):Int := g_Vs_l20Key_2 r0 r1 n - r1
theorem two_at (a b c:Int) (i:Nat) (ha:0 ≤ a ∧ a ≤ c) (hb:0 ≤ b ∧ b ≤ c) (hi:i < 2):0 ≤ at_ (.int .i64) [a,b] i ∧ at_ (.int .i64) [a,b] i ≤ c := by
 have:i = 0 ∨ i = 1 := by omega
 rcases this with rfl | rfl
 ·exact ha
 ·exact hb
theorem key_f (r0:List Int) (r1 n:Int) (h:0 ≤ r1 ∧ r1 ≤ 99990) (hr:RdOk r0):g_As_l20Key r0 r1 n = true ∧ g_Vs_l20Key_2 r0 r1 n = r1 + keyD r0 r1 n % 8 ∧ (g_Vs_l20Key_0 r0 r1 n).size ≤ 4 := by
 have p4 := pick_f r0 (r1 + 1) 4 (by omega) (by omega) hr
 have p30 := pick_f r0 (r1 + 1 + 1) 30 (by omega) (by omega) hr
 have p2 := pick_f r0 (r1 + 1 + 1 + 1) 2 (by omega) (by omega) hr
 have pl := two_at (g_pick r0 (r1 + 1) 4) (g_pick r0 (r1 + 1 + 1) 30) 29 (g_pick r0 (r1 + 1 + 1 + 1) 2).toNat (by omega) (by omega) (by omega)
 obtain ⟨q1,q2⟩ := plain_f (at_ (.int .i64) [g_pick r0 (r1 + 1) 4,g_pick r0 (r1 + 1 + 1) 30] (g_pick r0 (r1 + 1 + 1 + 1) 2).toNat) ⟨pl.1,Int.le_trans pl.2 (by decide)⟩
 have s1:∀ i,i < 5 → (at_ .str [lit [115],lit [99],lit [102],lit [117],lit [97]] i).size = 1 := fun i hi => at_all (e := .str) (P := fun x:ByteArray => x.size = 1) (by intro x hx; simp at hx; rcases hx with rfl | rfl | rfl | rfl | rfl <;> rfl) hi
 have s2:∀ i,i < 6 → (at_ .str [lit [],lit [115],lit [83,49],lit [115,49,50,51],lit [49,115],lit [115,97]] i).size ≤ 4 := fun i hi => at_all (e := .str) (P := fun x:ByteArray => x.size ≤ 4) (by intro x hx; simp at hx; rcases hx with rfl | rfl | rfl | rfl | rfl | rfl <;> decide) hi
 have p5 := pick_f r0 r1 5 (by omega) (by omega) hr
 have s1 := s1 (g_pick r0 r1 5).toNat (by omega)
 refine ⟨?_,?_,?_⟩
 ·unfold g_As_l20Key
  simp (disch := first | omega | assumption) only [wrapL,pickA_f',oddA_f',oddP_f,pickD_f,pickN_f,List.length_cons,List.length_nil,Bool.true_and,q1,s1]
  rw [decide_eq_true (by omega)]
  simp (disch := first | omega | assumption) [pickA_f',pickD_f,pickN_f]
 ·unfold keyD g_Vs_l20Key_2
  simp (disch := first | omega | assumption) only [wrapL,oddP_f]
  generalize g_Vs_l20Rd_odd_0 r0 _ n = b
  cases b <;> simp only [cond_true,cond_false] <;> omega
 ·unfold g_Vs_l20Key_0
  simp (disch := first | omega | assumption) only [wrapL,oddP_f]
  generalize g_Vs_l20Rd_odd_0 r0 _ n = b
  cases b
  ·rw [cond_false,ByteArray.size_append]; omega
  ·rw [cond_true]
   have p6 := pick_f r0 (r1 + 1 + 1 + 1 + 1 + oddD n % 2) 6 (by omega) (by omega) hr
   exact s2 _ (by omega)
noncomputable def valD (r0:List Int) (r1 n:Int):Int := g_Vs_l20Val_2 r0 r1 n - r1
theorem val_f (r0:List Int) (r1 n:Int) (h:0 ≤ r1 ∧ r1 ≤ 99980) (hr:RdOk r0):g_As_l20Val r0 r1 n = true ∧ g_Vs_l20Val_2 r0 r1 n = r1 + valD r0 r1 n % 16 ∧ (g_Vs_l20Val_0 r0 r1 n).length ≤ 4 := by
 have p4 := pick_f r0 r1 4 (by omega) (by omega) hr
 have p3 := pick_f r0 (r1 + 1) 3 (by omega) (by omega) hr
 have L:∃ r,g_Ls_l20Val_0 n r0 ([g_pick r0 r1 4],g_pick r0 (r1 + 1) 3,r1 + 1 + 1) = some r ∧ r.1.length ≤ 4 ∧ 0 ≤ r.2 - r1 ∧ r.2 - r1 ≤ 6 := by
  refine loop_inv (step := g_Ss_l20Val_0 n r0) (fun x => x.1.length + x.2.1.toNat ≤ 3 ∧ 0 ≤ x.2.2 - r1 ∧ x.2.2 - r1 + x.2.1.toNat ≤ 6) (fun r => r.1.length ≤ 4 ∧ 0 ≤ r.2 - r1 ∧ r.2 - r1 ≤ 6) (fun x => x.2.1.toNat) ?_ _ ⟨by simp; omega,by simp; omega,by simp; omega⟩
  rintro ⟨l,k,p⟩ ⟨i1,i2,i3⟩
  simp only at i1 i2 i3
  by_cases hk:k > 0
  ·refine .inl ⟨(l ++ [g_pick r0 p 12],k - 1,p + 1),?_,?_,?_⟩
   ·simp only [g_Ss_l20Val_0,RT.sel,hk,decide_true,cond_true]
    rw [pickA_f' r0 p 12 (by omega) (by omega) hr,cond_true,decide_eq_true (by simp only [List.length_cons,List.length_nil]; omega),cond_true,wrap64 (by omega),wrapL (by omega)]
   ·simp only [List.length_append,List.length_cons,List.length_nil]
    omega
   ·simp only; omega
  ·refine .inr ⟨(l,p),?_,?_⟩
   ·simp only [g_Ss_l20Val_0,RT.sel,hk,decide_false,cond_true,cond_false]
   ·simp only; omega
 obtain ⟨⟨l,p⟩,e,b1,b2,b3⟩ := L
 simp only at b1 b2 b3
 have s2:∀ i,i < 4 → (at_ (.sl 3 (.int .i64)) [[],[-1],[10000],[1,2,3,4]] i).length ≤ 4 := fun i hi => at_all (e := .sl 3 (.int .i64)) (P := fun x:List Int => x.length ≤ 4) (by intro x hx; simp at hx; rcases hx with rfl | rfl | rfl | rfl <;> decide) hi
 refine ⟨?_,?_,?_⟩
 ·unfold g_As_l20Val
  simp (disch := first | omega | assumption) only [wrapL,e,okO,valO,Option.isSome_some,Option.getD_some,pickA_f',oddA_f',oddP_f,pickD_f,pickN_f,Bool.true_and,Bool.and_true,Bool.or_true]
 ·unfold valD g_Vs_l20Val_2
  simp (disch := first | omega | assumption) only [wrapL,e,valO,Option.getD_some,oddP_f]
  generalize g_Vs_l20Rd_odd_0 r0 _ n = b
  cases b <;> simp only [cond_true,cond_false] <;> omega
 ·unfold g_Vs_l20Val_0
  simp (disch := first | omega | assumption) only [wrapL,e,valO,Option.getD_some,oddP_f]
  generalize g_Vs_l20Rd_odd_0 r0 _ n = b
  cases b
  ·exact b1
  ·rw [cond_true]
   have p6 := pick_f r0 (p + oddD n % 2) 4 (by omega) (by omega) hr
   exact s2 _ (by omega)
noncomputable def writeD (r0:List Int) (r1 n:Int):Int := g_Vs_l20Write_4 r0 r1 n - r1
theorem write_f (r0:List Int) (r1 n:Int) (h:0 ≤ r1 ∧ r1 ≤ 99900) (hr:RdOk r0):g_As_l20Write r0 r1 n = true ∧ g_Vs_l20Write_4 r0 r1 n = r1 + writeD r0 r1 n % 32 ∧ (g_Vs_l20Write_0 r0 r1 n).size ≤ 4 ∧ (g_Vs_l20Write_2 r0 r1 n).length ≤ 4 := by
 obtain ⟨k1,k2,k3⟩ := key_f r0 r1 n (by omega) hr
 have p3 := pick_f r0 (r1 + keyD r0 r1 n % 8) 3 (by omega) (by omega) hr
 obtain ⟨v1,v2,v3⟩ := val_f r0 (r1 + keyD r0 r1 n % 8 + 1) n (by omega) hr
 refine ⟨?_,?_,?_,?_⟩
 ·unfold g_As_l20Write
  simp (disch := first | omega | assumption) only [k1,k2,v1,wrapL,pickA_f',oddA_f',Bool.true_and,Bool.cond_self]
 ·unfold writeD g_Vs_l20Write_4
  simp (disch := first | omega | assumption) only [k2,v2,wrapL,oddP_f,Bool.cond_self]
  cases (g_pick r0 (r1 + keyD r0 r1 n % 8) 3 == 0) <;> simp only [cond_true,cond_false] <;> omega
 ·unfold g_Vs_l20Write_0
  simp only [Bool.cond_self]
  exact k3
 ·unfold g_Vs_l20Write_2
  simp (disch := first | omega | assumption) only [k2,wrapL]
  cases (g_pick r0 (r1 + keyD r0 r1 n % 8) 3 == 0)
  ·exact v3
  ·rw [cond_true]
   generalize g_Vs_l20Rd_odd_0 r0 _ n = b
   cases b <;> decide
theorem capD_f (a b k:Nat) (h:a + b ≤ 100000) (hk:k ≤ 1000):decide ((a + b) * k ≤ nat_lit 140737488355328 ∧ a + b ≤ nat_lit 9223372036854775807) = true := by
 refine decide_eq_true ⟨Nat.le_trans (Nat.mul_le_mul h hk) (by decide),by show a + b ≤ 9223372036854775807; omega⟩
def smallW (w:ByteArray×Bool×List Int):Prop := w.1.size ≤ 4 ∧ w.2.2.length ≤ 4
noncomputable def writesD (r0:List Int) (r1 n:Int):Int := g_Vs_l20Writes_2 r0 r1 n - r1
theorem writes_f (r0:List Int) (r1 n:Int) (h:0 ≤ r1 ∧ r1 ≤ 99000) (hr:RdOk r0):g_As_l20Writes r0 r1 n = true ∧ g_Vs_l20Writes_2 r0 r1 n = r1 + writesD r0 r1 n % 256 ∧ (g_Vs_l20Writes_0 r0 r1 n).length ≤ 6 ∧ ∀ w ∈ g_Vs_l20Writes_0 r0 r1 n,smallW w := by
 have p6 := pick_f r0 r1 6 (by omega) (by omega) hr
 have L:∃ r,g_Ls_l20Writes_0 n r0 ([],g_pick r0 r1 6,r1 + 1) = some r ∧ r.1.length ≤ 5 ∧ (∀ w ∈ r.1,smallW w) ∧ 0 ≤ r.2 - r1 ∧ r.2 - r1 ≤ 156 := by
  refine loop_inv (step := g_Ss_l20Writes_0 n r0) (fun x => x.1.length + x.2.1.toNat ≤ 5 ∧ (∀ w ∈ x.1,smallW w) ∧ 0 ≤ x.2.2 - r1 ∧ x.2.2 - r1 + 31 * x.2.1.toNat ≤ 156) (fun r => r.1.length ≤ 5 ∧ (∀ w ∈ r.1,smallW w) ∧ 0 ≤ r.2 - r1 ∧ r.2 - r1 ≤ 156) (fun x => x.2.1.toNat) ?_ _ ⟨by simp; omega,by simp,by simp; omega,by simp; omega⟩
  rintro ⟨l,k,p⟩ ⟨i1,i2,i3,i4⟩
  simp only at i1 i2 i3 i4
  by_cases hk:k > 0
  ·obtain ⟨w1,w2,w3,w4⟩ := write_f r0 p 0 (by omega) hr
   refine .inl ⟨(l ++ [(g_Vs_l20Write_0 r0 p 0,g_Vs_l20Write_1 r0 p 0,g_Vs_l20Write_2 r0 p 0)],k - 1,p + writeD r0 p 0 % 32),?_,?_,?_⟩
   ·simp only [g_Ss_l20Writes_0,RT.sel,hk,decide_true,cond_true,w1,w2]
    rw [capD_f _ _ _ (by simp only [List.length_cons,List.length_nil]; omega) (by decide),cond_true,wrap64 (by omega)]
   ·refine ⟨by simp only [List.length_append,List.length_cons,List.length_nil]; omega,?_,by simp only; omega,by simp only; omega⟩
    intro w hw
    simp only [List.mem_append,List.mem_cons,List.not_mem_nil,or_false] at hw
    rcases hw with hw | rfl
    ·exact i2 w hw
    ·exact ⟨w3,w4⟩
   ·simp only; omega
  ·refine .inr ⟨(l,p),?_,?_⟩
   ·simp only [g_Ss_l20Writes_0,RT.sel,hk,decide_false,cond_true,cond_false]
   ·exact ⟨by simp only; omega,i2,by simp only; omega,by simp only; omega⟩
 obtain ⟨⟨l,p⟩,e,b1,b2,b3,b4⟩ := L
 simp only at b1 b2 b3 b4
 obtain ⟨w1,w2,w3,w4⟩ := write_f r0 (p + oddD n % 2) 2 (by omega) hr
 refine ⟨?_,?_,?_,?_⟩
 ·unfold g_As_l20Writes
  simp (disch := first | omega | assumption) only [wrapL,e,okO,valO,Option.isSome_some,Option.getD_some,pickA_f',oddA_f',oddP_f,w1,Bool.true_and]
  rw [capD_f _ _ _ (by simp only [List.length_cons,List.length_nil]; omega) (by decide),Bool.or_true]
 ·unfold writesD g_Vs_l20Writes_2
  simp (disch := first | omega | assumption) only [wrapL,e,valO,Option.getD_some,oddP_f,w2]
  generalize g_Vs_l20Rd_odd_0 r0 _ n = b
  cases b <;> simp only [cond_true,cond_false] <;> omega
 ·unfold g_Vs_l20Writes_0
  simp (disch := first | omega | assumption) only [wrapL,e,valO,Option.getD_some,oddP_f]
  generalize g_Vs_l20Rd_odd_0 r0 _ n = b
  cases b
  ·rw [cond_false]; omega
  ·rw [cond_true,List.length_append,List.length_cons,List.length_nil]; omega
 ·unfold g_Vs_l20Writes_0
  simp (disch := first | omega | assumption) only [wrapL,e,valO,Option.getD_some,oddP_f]
  generalize g_Vs_l20Rd_odd_0 r0 _ n = b
  cases b
  ·exact b2
  ·rw [cond_true]
   intro w hw
   simp only [List.mem_append,List.mem_cons,List.not_mem_nil,or_false] at hw
   rcases hw with hw | rfl
   ·exact b2 w hw
   ·exact ⟨w3,w4⟩
theorem noteLoop_f (a b c:Int) (d:List ByteArray) (e:List (ByteArray×Bool×List Int)) (f g:Int) (ws:List (ByteArray×Bool×List Int)) (h:List Int) (i:Int) (hw:ws.length ≤ 1000) :
  g_Ls_l20Note_0 a b c d e f g ws h i (0,[]) = some (ws.map (·.1)) := by
 obtain ⟨r,h1,h2⟩ := loop_inv (step := g_Ss_l20Note_0 a b c d e f g ws h i) (fun x => 0 ≤ x.1 ∧ x.1.toNat ≤ ws.length ∧ x.2 = (ws.take x.1.toNat).map (·.1)) (fun r => r = ws.map (·.1)) (fun x => ws.length - x.1.toNat) (fun x hx => by
  obtain ⟨k,l⟩ := x
  obtain ⟨i1,i2,i3⟩ := hx
  simp only at i1 i2 i3
  by_cases hk:k < (ws.length:Int)
  ·have hn:k.toNat < ws.length := by omega
   have hl:l.length = k.toNat := by rw [i3,List.length_map,List.length_take]; omega
   refine .inl ⟨(k + 1,l ++ [ws[k.toNat].1]),?_,?_,?_⟩
   ·simp only [g_Ss_l20Note_0,RT.sel,hk,decide_true,cond_true,i1,and_self,hn]
    rw [capD_f _ _ _ (by simp only [List.length_cons,List.length_nil]; omega) (by decide),cond_true,wrap64 (by omega),at_eq hn]
   ·refine ⟨by simp only; omega,by simp only; omega,?_⟩
    simp only
    rw [i3,show (k + 1).toNat = k.toNat + 1 by omega,List.take_succ_eq_append_getElem hn,List.map_append]
    rfl
   ·simp only; omega
  ·refine .inr ⟨l,?_,?_⟩
   ·simp only [g_Ss_l20Note_0,RT.sel,hk,decide_false,cond_true,cond_false]
   ·rw [i3,List.take_of_length_le (by omega)]) (0,[]) ⟨by simp,by simp,by simp⟩
 rw [← h2]
 exact h1
noncomputable def noteD (r0:List Int) (r1 n:Int):Int := g_Vs_l20Note_5 r0 r1 n - r1
theorem noteA_f (r0:List Int) (r1 n:Int) (h:0 ≤ r1 ∧ r1 ≤ 98000) (hr:RdOk r0):g_As_l20Note r0 r1 n = true := by
 obtain ⟨w1,w2,w3,w4⟩ := writes_f r0 (r1 + 1 + 1) 0 (by omega) hr
 unfold g_As_l20Note
 simp (disch := first | omega | assumption) only [wrapL,pickA_f',oddA_f',pickD_f,pickN_f,Bool.true_and,w1,w2,noteLoop_f,okO,valO,Option.isSome_some,Option.getD_some,oddP_f,key_f,write_f,capD_f,List.length_map,List.length_append,List.length_cons,List.length_nil,Bool.and_true,Bool.or_true,Bool.cond_self]
theorem noteP_f (r0:List Int) (r1 n:Int) (h:0 ≤ r1 ∧ r1 ≤ 98000) (hr:RdOk r0):g_Vs_l20Note_5 r0 r1 n = r1 + noteD r0 r1 n % 1024 := by
 obtain ⟨w1,w2,w3,w4⟩ := writes_f r0 (r1 + 1 + 1) 0 (by omega) hr
 unfold noteD g_Vs_l20Note_5
 simp (disch := first | omega | assumption) only [wrapL,w2,oddP_f,key_f,write_f,Bool.cond_self]
 simp only [Bool.cond_eq_ite]
 repeat' split
 all_goals omega
theorem smallW_one (k:ByteArray) (d:Bool) (l:List Int) (hk:k.size ≤ 4) (hl:l.length ≤ 4) (ws:List (ByteArray×Bool×List Int)) (h:∀ w ∈ ws,smallW w):∀ w ∈ ws ++ [(k,d,l)],smallW w := by
 intro w hw
 simp only [List.mem_append,List.mem_cons,List.not_mem_nil,or_false] at hw
 rcases hw with hw | rfl
 ·exact h w hw
 ·exact ⟨hk,hl⟩
theorem noteS_f (r0:List Int) (r1 n:Int) (h:0 ≤ r1 ∧ r1 ≤ 98000) (hr:RdOk r0):(g_Vs_l20Note_2 r0 r1 n).length ≤ 8 ∧ (g_Vs_l20Note_3 r0 r1 n).length ≤ 7 ∧ ∀ w ∈ g_Vs_l20Note_3 r0 r1 n,smallW w := by
 obtain ⟨w1,w2,w3,w4⟩ := writes_f r0 (r1 + 1 + 1) 0 (by omega) hr
 refine ⟨?_,?_,?_⟩
 ·unfold g_Vs_l20Note_2
  simp (disch := first | omega | assumption) only [wrapL,w2,oddP_f,key_f,write_f,Bool.cond_self,noteLoop_f,valO,Option.getD_some]
  simp only [Bool.cond_eq_ite]
  repeat' split
  all_goals try simp only [List.length_append,List.length_map,List.length_cons,List.length_nil]
  all_goals omega
 ·unfold g_Vs_l20Note_3
  simp (disch := first | omega | assumption) only [wrapL,w2,oddP_f,key_f,write_f,Bool.cond_self,noteLoop_f,valO,Option.getD_some]
  simp only [Bool.cond_eq_ite]
  repeat' split
  all_goals try simp only [List.length_append,List.length_map,List.length_cons,List.length_nil]
  all_goals omega
 ·unfold g_Vs_l20Note_3
  simp (disch := first | omega | assumption) only [wrapL,w2,oddP_f,key_f,write_f,Bool.cond_self,noteLoop_f,valO,Option.getD_some]
  have nil:∀ w ∈ ([]:List (ByteArray×Bool×List Int)),smallW w := by simp
  simp only [Bool.cond_eq_ite]
  repeat' split
  all_goals first
   | exact w4
   | exact nil
   | exact smallW_one _ _ _ (by decide) (by decide) _ w4
   | exact smallW_one _ _ _ (by decide) (by decide) _ nil
   | exact smallW_one _ _ _ (write_f _ _ _ (by omega) hr).2.2.1 (write_f _ _ _ (by omega) hr).2.2.2 _ w4
   | exact smallW_one _ _ _ (write_f _ _ _ (by omega) hr).2.2.1 (write_f _ _ _ (by omega) hr).2.2.2 _ nil
abbrev WI_:Ty := .pair .str (.pair .bool (.sl 3 (.int .i64)))
theorem s_l2Note_f (k t:Int) (ls:List ByteArray) (ws:List (ByteArray×Bool×List Int)) (h1:ls.length ≤ 1048576) (h2:ws.length ≤ 1048576) (h3:∀ w ∈ ws,w.2.2.length ≤ 1048576):g_As_l2Note k t ls ws = true ∧ g_Vs_l2Note_0 k t ls ws = ls ∧ g_Vs_l2Note_1 k t ls ws = ws := by
 have L:g_Ls_l2Note_0 k t ls ws 0 0 [] [] k t ([] ++ ls) (0,[]) = some (ws.map id) := by
  refine loop_app (e := WI_) (step := g_Ss_l2Note_0 k t ls ws 0 0 [] [] k t ([] ++ ls)) ws (fun i r => (i,r)) id id (fun i r hi hr => ?_) (fun r hr => by simp only [g_Ss_l2Note_0,RT.sel,cond_true,Int.lt_irrefl,decide_false,cond_false,id])
  have k1:(i:Int) < ws.length := by omega
  have k2:(0:Int) ≤ (i:Int) := by omega
  have hx := h3 _ (at_mem (e := WI_) hi)
  simp only [g_Ss_l2Note_0,RT.sel,cond_true,k1,k2,decide_true,and_self,Int.toNat_natCast,List.nil_append,id]
  rw [cap0_f _ _ hx (by decide),capF_f _ _ _ (by simp only [List.length_cons,List.length_nil]; omega) (by decide),cond_true,cond_true,wrap64 (x := (i:Int) + 1) (by omega)]
  rfl
 rw [List.map_id] at L
 unfold g_As_l2Note g_Vs_l2Note_0 g_Vs_l2Note_1
 rw [L,cap0_f _ 16 h1 (by decide)]
 exact ⟨rfl,rfl,rfl⟩
theorem s_l2Copy_f (l:List Note) (safe:Int) (hl:l.length ≤ 1048576) (hit:∀ x ∈ l,smallN x):g_As_l2Copy l safe = true ∧ g_Vs_l2Copy_0 l safe = l := by
 have L:g_Ls_l2Copy_0 l safe 0 [] safe (0,[]) = some (l.map id) := by
  refine loop_app (e := NI_) (step := g_Ss_l2Copy_0 l safe 0 [] safe) l (fun i r => (i,r)) id id (fun i r hi hr => ?_) (fun r hr => by simp only [g_Ss_l2Copy_0,RT.sel,cond_true,Int.lt_irrefl,decide_false,cond_false,id])
  have k1:(i:Int) < l.length := by omega
  have k2:(0:Int) ≤ (i:Int) := by omega
  have hx := hit _ (at_mem (e := NI_) hi)
  obtain ⟨c1,c2,c3⟩ := s_l2Note_f (at_ NI_ l i).1 (at_ NI_ l i).2.1 (at_ NI_ l i).2.2.1 (at_ NI_ l i).2.2.2 hx.1 hx.2.1 hx.2.2
  simp only [g_Ss_l2Copy_0,RT.sel,cond_true,k1,k2,decide_true,and_self,Int.toNat_natCast,c1,c2,c3,id]
  rw [capF_f _ _ _ (by simp only [List.length_cons,List.length_nil]; omega) (by decide),cond_true,wrap64 (x := (i:Int) + 1) (by omega)]
  rfl
 rw [List.map_id] at L
 simp only [g_As_l2Copy,g_Vs_l2Copy_0,L,okO,valO,Option.isSome_some,Option.getD_some,and_self]
def addP_ (l:List Note) (safe:Int) (n:Note) (b:Bool):List Note×Int×Bool :=
 bif diskP l safe&&noteQ n then bif decide (l.length = 120) then (l,safe,false) else (l ++ [n],bif b then (l.length:Int) + 1 else safe,true) else ([],0,false)
theorem len120 (l:List Note):((l.length:Int) == 120) = decide (l.length = 120) := by
 rw [Bool.eq_iff_iff,beq_iff_eq,decide_eq_true_eq]; omega
theorem s_DiskAdd_f (l:List Note) (safe:Int) (n:Note) (b:Bool) (hl:l.length ≤ 1048576) (hit:∀ x ∈ l,smallN x) (hn:smallN n) :
  g_As_DiskAdd l safe n.1 n.2.1 n.2.2.1 n.2.2.2 b = true ∧ g_Vs_DiskAdd_0 l safe n.1 n.2.1 n.2.2.1 n.2.2.2 b = (addP_ l safe n b).1 ∧ g_Vs_DiskAdd_1 l safe n.1 n.2.1 n.2.2.1 n.2.2.2 b = (addP_ l safe n b).2.1 ∧ g_Vs_DiskAdd_2 l safe n.1 n.2.1 n.2.2.1 n.2.2.2 b = (addP_ l safe n b).2.2 := by
 obtain ⟨a1,a2⟩ := s_DiskOk_f l safe hl hit
 obtain ⟨b1,b2⟩ := s_NoteOk_f n.1 n.2.1 n.2.2.1 n.2.2.2 hn.1 hn.2.1 hn.2.2
 obtain ⟨c1,c2⟩ := s_l2Copy_f l safe hl hit
 obtain ⟨d1,d2,d3⟩ := s_l2Note_f n.1 n.2.1 n.2.2.1 n.2.2.2 hn.1 hn.2.1 hn.2.2
 have b2:g_Vs_NoteOk_0 n.1 n.2.1 n.2.2.1 n.2.2.2 = noteQ n := b2
 have e:∀ p:Note,decide ((List.length l + List.length [p]) * nat_lit 64 ≤ nat_lit 140737488355328 ∧ List.length l + List.length [p] ≤ nat_lit 9223372036854775807) = true := fun p => capF_f _ _ _ (by simp only [List.length_cons,List.length_nil]; omega) (by decide)
 simp only [g_As_DiskAdd,g_Vs_DiskAdd_0,g_Vs_DiskAdd_1,g_Vs_DiskAdd_2,a1,a2,b1,b2,c1,c2,d1,d2,d3,len120,addP_,e]
 cases diskP l safe <;> cases noteQ n <;> cases decide (l.length = 120) <;> cases b <;> simp
def tinyN (x:Note):Prop := x.2.2.1.length ≤ 8 ∧ x.2.2.2.length ≤ 7 ∧ ∀ w ∈ x.2.2.2,smallW w
theorem tiny_small {x:Note} (h:tinyN x):smallN x := ⟨by have := h.1; omega,by have := h.2.1; omega,fun w hw => by have := (h.2.2 w hw).2; omega⟩
theorem note_f (r0:List Int) (r1 n:Int) (h:0 ≤ r1 ∧ r1 ≤ 98000) (hr:RdOk r0):tinyN (g_Vs_l20Note_0 r0 r1 n,g_Vs_l20Note_1 r0 r1 n,g_Vs_l20Note_2 r0 r1 n,g_Vs_l20Note_3 r0 r1 n) := noteS_f r0 r1 n h hr
theorem add_small {l:List Note} {safe:Int} {n:Note} {b:Bool} {k:Nat} (h1:l.length ≤ k) (h2:∀ x ∈ l,tinyN x) (h3:tinyN n):(addP_ l safe n b).1.length ≤ k + 1 ∧ ∀ x ∈ (addP_ l safe n b).1,tinyN x := by
 unfold addP_
 cases diskP l safe&&noteQ n
 ·simp
 ·cases decide (l.length = 120)
  ·refine ⟨by simp only [cond_true,cond_false,List.length_append,List.length_cons,List.length_nil]; omega,fun x hx => ?_⟩
   simp only [cond_true,cond_false,List.mem_append,List.mem_singleton] at hx
   rcases hx with hx | rfl
   ·exact h2 x hx
   ·exact h3
  ·exact ⟨by simp only [cond_true]; omega,h2⟩
theorem diskLoop_f (r0:List Int) (r1 n c:Int) (hc:0 ≤ c ∧ c < 10) (h:0 ≤ r1 ∧ r1 ≤ 80001) (hr:RdOk r0) :
  ∃ r,g_Ls_l20Disk_0 n 0 [] r0 (c,0,[],r1) = some r ∧ (r1 ≤ r.2.2 ∧ r.2.2 ≤ r1 + 11000) ∧ r.2.1.length ≤ 10 ∧ ∀ x ∈ r.2.1,tinyN x := by
 refine loop_inv (step := g_Ss_l20Disk_0 n 0 [] r0) (fun x => 0 ≤ x.1 ∧ x.1 ≤ 10 ∧ (r1 ≤ x.2.2.2 ∧ x.2.2.2 ≤ r1 + (10 - x.1) * 1100) ∧ (x.2.2.1.length:Int) ≤ 10 - x.1 ∧ ∀ y ∈ x.2.2.1,tinyN y) _ (fun x => x.1.toNat) ?_ _ ⟨by simp only; omega,by simp only; omega,by simp only; omega,by simp only [List.length_nil]; omega,by simp⟩
 rintro ⟨k,s,l,p⟩ ⟨i1,i2,i3,i4,i5⟩
 simp only at i1 i2 i3 i4 i5
 by_cases hk:k > 0
 ·have hp:0 ≤ p ∧ p ≤ 98000 := by omega
  have a := noteA_f r0 p 0 hp hr
  have b := noteP_f r0 p 0 hp hr
  have t := note_f r0 p 0 hp hr
  have hb:0 ≤ noteD r0 p 0 % 1024 ∧ noteD r0 p 0 % 1024 < 1024 := by omega
  have pa := pickA_f' r0 (g_Vs_l20Note_5 r0 p 0) 2 (by rw [b]; omega) (by decide) hr
  obtain ⟨d1,d2,d3,_⟩ := s_DiskAdd_f l s (g_Vs_l20Note_0 r0 p 0,g_Vs_l20Note_1 r0 p 0,g_Vs_l20Note_2 r0 p 0,g_Vs_l20Note_3 r0 p 0) (g_pick r0 (g_Vs_l20Note_5 r0 p 0) 2 == 0) (by omega) (fun x hx => tiny_small (i5 x hx)) (tiny_small t)
  simp only at d1 d2 d3
  have ad := add_small (safe := s) (b := g_pick r0 (g_Vs_l20Note_5 r0 p 0) 2 == 0) (Nat.le_refl l.length) i5 t
  refine .inl ⟨(k - 1,(addP_ l s (g_Vs_l20Note_0 r0 p 0,g_Vs_l20Note_1 r0 p 0,g_Vs_l20Note_2 r0 p 0,g_Vs_l20Note_3 r0 p 0) (g_pick r0 (g_Vs_l20Note_5 r0 p 0) 2 == 0)).2.1,(addP_ l s (g_Vs_l20Note_0 r0 p 0,g_Vs_l20Note_1 r0 p 0,g_Vs_l20Note_2 r0 p 0,g_Vs_l20Note_3 r0 p 0) (g_pick r0 (g_Vs_l20Note_5 r0 p 0) 2 == 0)).1,g_Vs_l20Note_5 r0 p 0 + 1),?_,?_,?_⟩
  ·simp only [g_Ss_l20Disk_0,RT.sel,hk,decide_true,cond_true,a,pa,d1,d2,d3]
   rw [wrap64 (x := k - 1) (by omega),wrap64 (x := g_Vs_l20Note_5 r0 p 0 + 1) (by rw [b]; omega)]
  ·refine ⟨by simp only; omega,by simp only; omega,by simp only; rw [b]; omega,by simp only; have := ad.1; omega,ad.2⟩
  ·simp only; omega
 ·refine .inr ⟨(s,l,p),?_,?_⟩
  ·simp only [g_Ss_l20Disk_0,RT.sel,hk,decide_false,cond_true,cond_false]
  ·exact ⟨⟨by simp only; omega,by simp only; omega⟩,by simp only; omega,i5⟩
def smallD (l:List Note):Prop := l.length ≤ 125 ∧ ∀ x ∈ l,tinyN x
theorem tiny_no:tinyN ((3:Int),(0:Int),[],[]) := ⟨by simp,by simp,by simp⟩
theorem smallD_one {l:List Note} (h1:l.length ≤ 120) (h2:∀ x ∈ l,tinyN x) {n:Note} (hn:tinyN n):smallD (l ++ [n]) := by
 refine ⟨by rw [List.length_append,List.length_cons,List.length_nil]; omega,fun x hx => ?_⟩
 simp only [List.mem_append,List.mem_cons,List.not_mem_nil,or_false] at hx
 rcases hx with hx | rfl
 ·exact h2 x hx
 ·exact hn
theorem diskLoop3_f (a:Int) (b:List Note) (c:Int) (d:List Int) (e:Int) (l:List Note) (h1:l.length ≤ 120) (h2:∀ x ∈ l,tinyN x):∃ r,g_Ls_l20Disk_3 a b c d e l = some r ∧ smallD r := by
 refine loop_inv (step := g_Ss_l20Disk_3 a b c d e) (fun y => y.length ≤ 121 ∧ ∀ x ∈ y,tinyN x) _ (fun y => 200 - y.length) ?_ _ ⟨by omega,h2⟩
 rintro y ⟨i1,i2⟩
 by_cases hk:(y.length:Int) ≤ 120
 ·refine .inl ⟨y ++ [((3:Int),(0:Int),[],[])],?_,?_,?_⟩
  ·simp only [g_Ss_l20Disk_3,RT.sel,hk,decide_true,cond_true]
   rw [capF_f y.length 1 64 (by omega) (by decide),cond_true]
  ·exact ⟨by rw [List.length_append,List.length_cons,List.length_nil]; omega,(smallD_one (by omega) i2 tiny_no).2⟩
  ·rw [List.length_append,List.length_cons,List.length_nil]; omega
 ·refine .inr ⟨y,?_,by omega,i2⟩
  simp only [g_Ss_l20Disk_3,RT.sel,hk,decide_false,cond_true,cond_false]
noncomputable def diskD (r0:List Int) (r1 n:Int):Int := g_Vs_l20Disk_3 r0 r1 n - r1
theorem disk_f (r0:List Int) (r1 n:Int) (h:0 ≤ r1 ∧ r1 ≤ 80000) (hr:RdOk r0):g_As_l20Disk r0 r1 n = true ∧ g_Vs_l20Disk_3 r0 r1 n = r1 + diskD r0 r1 n % 16384 ∧ smallD (g_Vs_l20Disk_0 r0 r1 n) := by
 have pk := pick_f r0 r1 10 ⟨h.1,by omega⟩ (by decide) hr
 obtain ⟨⟨s,l,p⟩,L,p1,p2,p3⟩ := diskLoop_f r0 (r1 + 1) n (g_pick r0 r1 10) ⟨pk.1,pk.2⟩ (by omega) hr
 simp only at p1 p2 p3
 have w1:IntKind.wrap .i64 (r1 + 1) = r1 + 1 := wrap64 (by omega)
 have od := oddA_f' r0 p n (by omega) hr
 have op := oddP_f r0 p n (by omega)
 have hod:0 ≤ oddD n % 2 ∧ oddD n % 2 < 2 := by omega
 obtain ⟨l3,L3,L3s⟩ := diskLoop3_f 0 [] s r0 (p + oddD n % 2 + 1) l (by omega) p3
 refine ⟨?_,?_,?_⟩
 ·unfold g_As_l20Disk
  rw [w1,L]
  simp only [valO,Option.getD_some,od,op]
  have nA := noteA_f r0 (p + oddD n % 2 + 1) 1 (by omega) hr
  simp (disch := first | omega | assumption) only [wrapL,pickA_f',Bool.true_and,okO,Option.isSome_some,nA,L3,Bool.and_true,Bool.or_true,Bool.cond_self,pickN_f]
  rw [capF_f l.length _ 64 (by show l.length + 1 ≤ _; omega) (by decide)]
  have k1 := pick_f r0 (p + oddD n % 2 + 1) 2 (by omega) (by decide) hr
  have k2:∀ x:Int,decide (0 ≤ g_pick r0 (p + oddD n % 2 + 1) 2 ∧ g_pick r0 (p + oddD n % 2 + 1) 2 < (([(-1:Int),x].length:Nat):Int)) = true := fun x => decide_eq_true ⟨k1.1,k1.2⟩
  have k3:∀ x:Int,decide ((g_pick r0 (p + oddD n % 2 + 1) 2).toNat < [(-1:Int),x].length) = true := fun x => decide_eq_true (by show _ < 2; omega)
  rw [k2,k3]
  simp only [Bool.and_self,Bool.cond_self,Bool.or_true]
 ·unfold diskD g_Vs_l20Disk_3
  rw [w1,L]
  simp only [valO,Option.getD_some,op]
  simp (disch := first | omega | assumption) only [wrapL,noteP_f]
  simp only [Bool.cond_eq_ite]
  repeat' split
  all_goals omega
 ·unfold g_Vs_l20Disk_0
  rw [w1,L]
  simp only [valO,Option.getD_some,op]
  simp (disch := first | omega | assumption) only [wrapL,L3,Option.getD_some]
  have nt := note_f r0 (p + oddD n % 2 + 1) 1 (by omega) hr
  simp only [Bool.cond_eq_ite]
  have base:smallD l := ⟨by omega,p3⟩
  repeat' split
  all_goals first | exact base | exact L3s | exact smallD_one (by omega) p3 nt
theorem drawDiskOf_f (a:List Int) (h:∀ n ∈ a,(Lit.int .u8 n).wf = true):g_As_DrawDiskOf a = true ∧ smallD (g_Vs_DrawDiskOf_0 a) ∧ -1 ≤ g_Vs_DrawDiskOf_2 a ∧ g_Vs_DrawDiskOf_2 a ≤ 5 := by
 obtain ⟨h1,h2,h3⟩ := open_f a
 have hr := open_ok a h
 obtain ⟨d1,d2,d3⟩ := disk_f (g_Vs_l20Open_0 a) 0 9 (by omega) hr
 have hd:0 ≤ diskD (g_Vs_l20Open_0 a) 0 9 % 16384 ∧ diskD (g_Vs_l20Open_0 a) 0 9 % 16384 < 16384 := by omega
 have p1 := pickA_f' (g_Vs_l20Open_0 a) (g_Vs_l20Disk_3 (g_Vs_l20Open_0 a) 0 9) 7 (by rw [d2]; omega) (by decide) hr
 have p2 := pick_f (g_Vs_l20Open_0 a) (g_Vs_l20Disk_3 (g_Vs_l20Open_0 a) 0 9) 7 (by rw [d2]; omega) (by decide) hr
 unfold g_As_DrawDiskOf g_Vs_DrawDiskOf_0 g_Vs_DrawDiskOf_2
 rw [h1,h3,d1,p1,wrap64 (by omega)]
 exact ⟨rfl,d3,by omega,by omega⟩
theorem noteQ_bare {k t:Int} (hk:1 ≤ k ∧ k ≤ 4) (ht:0 ≤ t ∧ t ≤ 29):noteQ (k,t,[],[]) = true := by
 simp [noteQ,noteP,hk,ht]
theorem writesOf_f (l:List (ByteArray×Bool×List Int)) (hl:l.length ≤ 1048576) (hit:∀ w ∈ l,w.2.2.length ≤ 1048576):g_Ai_writesOf l = true ∧ g_Vi_writesOf_0 l = l := by
 have L:g_Li_writesOf_0 l (l.length:Int) ([],0) = some (l.map id) := by
  refine loop_app (e := WI_) (step := g_Si_writesOf_0 l (l.length:Int)) l (fun i r => (r,i)) id id (fun i r hi hr => ?_) (fun r hr => by simp only [g_Si_writesOf_0,RT.sel,cond_true,Int.lt_irrefl,decide_false,cond_false,id])
  have k1:(i:Int) < l.length := by omega
  have k2:(0:Int) ≤ (i:Int) := by omega
  have hx := hit _ (at_mem (e := WI_) hi)
  simp only [g_Si_writesOf_0,RT.sel,cond_true,k1,k2,decide_true,and_self,Int.toNat_natCast,g_Aslices_Clone_int_int_b,id]
  rw [cap0_f _ _ hx (by decide),capF_f _ _ _ (by simp only [List.length_cons,List.length_nil]; omega) (by decide),cond_true,cond_true,wrap64 (x := (i:Int) + 1) (by omega)]
  rfl
 rw [List.map_id] at L
 simp only [g_Ai_writesOf,g_Vi_writesOf_0,L,okO,valO,Option.isSome_some,Option.getD_some,and_self]
theorem i_noteCopied_f (k t:Int) (ls:List ByteArray) (ws:List (ByteArray×Bool×List Int)) (h1:ls.length ≤ 1048576) (h2:ws.length ≤ 1048576) (h3:∀ w ∈ ws,w.2.2.length ≤ 1048576):g_Ai_LogNote_copied k t ls ws = true := by
 obtain ⟨a,_⟩ := writesOf_f ws h2 h3
 rw [g_Ai_LogNote_copied,a,g_Aslices_Clone_string_string_b,cap0_f _ _ h1 (by decide)]
 rfl
theorem i_copied_f (l:List Note) (safe:Int) (hl:l.length ≤ 1048576) (hit:∀ x ∈ l,smallN x):g_Ai_LogDisk_copied l safe = true ∧ g_Vi_LogDisk_copied_0 l safe = l := by
 have L:g_Li_LogDisk_copied_0 l (l.length:Int) 0 [] safe (0,[]) = some (l.map id) := by
  refine loop_app (e := NI_) (step := g_Si_LogDisk_copied_0 l (l.length:Int) 0 [] safe) l (fun i r => (i,r)) id id (fun i r hi hr => ?_) (fun r hr => by simp only [g_Si_LogDisk_copied_0,RT.sel,cond_true,Int.lt_irrefl,decide_false,cond_false,id])
  have k1:(i:Int) < l.length := by omega
  have k2:(0:Int) ≤ (i:Int) := by omega
  have hx := hit _ (at_mem (e := NI_) hi)
  have c := i_noteCopied_f (at_ NI_ l i).1 (at_ NI_ l i).2.1 (at_ NI_ l i).2.2.1 (at_ NI_ l i).2.2.2 hx.1 hx.2.1 hx.2.2
  obtain ⟨_,c2⟩ := writesOf_f (at_ NI_ l i).2.2.2 hx.2.1 hx.2.2
  simp only [g_Si_LogDisk_copied_0,RT.sel,cond_true,k1,k2,decide_true,and_self,Int.toNat_natCast,c,c2,id]
  rw [capF_f _ _ _ (by simp only [List.length_cons,List.length_nil]; omega) (by decide),cond_true,wrap64 (x := (i:Int) + 1) (by omega)]
  rfl
 rw [List.map_id] at L
 simp only [g_Ai_LogDisk_copied,g_Vi_LogDisk_copied_0,L,okO,valO,Option.isSome_some,Option.getD_some,and_self]
theorem i_DiskAdd_f (l:List Note) (safe:Int) (n:Note) (b:Bool) (hl:l.length ≤ 1048576) (hit:∀ x ∈ l,smallN x) (hn:smallN n) :
  g_Ai_DiskAdd l safe n.1 n.2.1 n.2.2.1 n.2.2.2 b = true ∧ g_Vi_DiskAdd_0 l safe n.1 n.2.1 n.2.2.1 n.2.2.2 b = (addP_ l safe n b).1 ∧ g_Vi_DiskAdd_1 l safe n.1 n.2.1 n.2.2.1 n.2.2.2 b = (addP_ l safe n b).2.1 ∧ g_Vi_DiskAdd_2 l safe n.1 n.2.1 n.2.2.1 n.2.2.2 b = (addP_ l safe n b).2.2 := by
 obtain ⟨a1,a2⟩ := i_DiskOk_f l safe hl hit
 obtain ⟨b1,b2⟩ := i_NoteOk_f n.1 n.2.1 n.2.2.1 n.2.2.2 hn.1 hn.2.1 hn.2.2
 obtain ⟨c1,c2⟩ := i_copied_f l safe hl hit
 have d1 := i_noteCopied_f n.1 n.2.1 n.2.2.1 n.2.2.2 hn.1 hn.2.1 hn.2.2
 obtain ⟨_,d2⟩ := writesOf_f n.2.2.2 hn.2.1 hn.2.2
 have b2:g_Vi_NoteOk_0 n.1 n.2.1 n.2.2.1 n.2.2.2 = noteQ n := b2
 have e:∀ p:Note,decide ((List.length l + List.length [p]) * nat_lit 64 ≤ nat_lit 140737488355328 ∧ List.length l + List.length [p] ≤ nat_lit 9223372036854775807) = true := fun p => capF_f _ _ _ (by simp only [List.length_cons,List.length_nil]; omega) (by decide)
 simp only [g_Ai_DiskAdd,g_Vi_DiskAdd_0,g_Vi_DiskAdd_1,g_Vi_DiskAdd_2,g_Ai_LogDisk_add,g_Vi_LogDisk_add_0,g_Vi_LogDisk_add_1,g_Vi_LogDisk_add_2,a1,a2,b1,b2,c1,c2,d1,d2,len120,addP_,e]
 cases diskP l safe <;> cases noteQ n <;> cases decide (l.length = 120) <;> cases b <;> simp
def lessR (l:List Note) (s:List Item) (tx:Int):List Item ⊕ Unit := match g_ready l tx with | some m => .inl (doS s m.2.2.2) | none => .inr ()
theorem less_loop (tx safe:Int) (l:List Note) (s:List Item) (a5 a7 a9:Int) (a6 a8 a10:List Note) (a11:List Item) (hl:l.length ≤ 1048576) (hit:∀ x ∈ l,smallN x) (hs:s.length ≤ 1048576) (hs2:∀ x ∈ s,x.2.length ≤ 1048576):g_Lw_FnDiskLess_0 tx safe l s a5 a6 a7 a8 a9 a10 a11 ((l.length:Int) - 1) = some (lessR l s tx) := by
 have L:∃ r,g_Lw_FnDiskLess_0 tx safe l s a5 a6 a7 a8 a9 a10 a11 ((l.length:Int) - 1) = some r ∧ r = lessR l s tx := by
  refine loop_inv (step := g_Sw_FnDiskLess_0 tx safe l s a5 a6 a7 a8 a9 a10 a11) (fun x => -1 ≤ x ∧ x < l.length ∧ g_ready (l.take (x + 1).toNat) tx = g_ready l tx) _ (fun x => (x + 1).toNat) ?_ _ ⟨by omega,by omega,by rw [List.take_of_length_le (by omega)]⟩
  rintro x ⟨i1,i2,i3⟩
  by_cases hx:x ≥ 0
  ·have hn:x.toNat < l.length := by omega
   have hat:at_ NI_ l x.toNat = l[x.toNat] := at_eq (e := NI_) hn
   have v0:decide ((0:Int) ≤ x ∧ x < (l.length:Int)) = true := decide_eq_true ⟨hx,i2⟩
   have v2:decide (x.toNat < l.length) = true := decide_eq_true hn
   have hw:IntKind.wrap .i64 (x - 1) = x - 1 := wrap64 (by omega)
   rw [show (x + 1).toNat = x.toNat + 1 by omega,List.take_succ_eq_append_getElem hn,ready_snoc] at i3
   by_cases h1:l[x.toNat].1 = 1
   ·have h1':(l[x.toNat].1 == 1) = true := by simpa using h1
    by_cases h2:l[x.toNat].2.1 = tx
    ·have h2':(l[x.toNat].2.1 == tx) = true := by simpa using h2
     have:isR tx l[x.toNat] = true := by unfold isR; rw [decide_eq_true h1,decide_eq_true h2]; rfl
     rw [this,cond_true] at i3
     have hsm := hit _ (List.getElem_mem hn)
     obtain ⟨d1,d2⟩ := i_StoDo_f s l[x.toNat].2.2.2 hs hs2 hsm.2.1 hsm.2.2
     refine .inr ⟨.inl (doS s l[x.toNat].2.2.2),?_,by unfold lessR; rw [← i3]⟩
     simp only [g_Sw_FnDiskLess_0,RT.sel,decide_eq_true hx,cond_true,v0,v2,hat,h1',h2',d1,d2]
    ·have h2':(l[x.toNat].2.1 == tx) = false := by simpa using h2
     have:isR tx l[x.toNat] = false := by unfold isR; rw [decide_eq_false h2]; rfl
     rw [this,cond_false] at i3
     refine .inl ⟨x - 1,?_,⟨by omega,by omega,by rwa [show (x - 1 + 1).toNat = x.toNat by omega]⟩,by omega⟩
     simp only [g_Sw_FnDiskLess_0,RT.sel,decide_eq_true hx,cond_true,cond_false,v0,v2,hat,h1',h2',hw]
   ·have h1':(l[x.toNat].1 == 1) = false := by simpa using h1
    have:isR tx l[x.toNat] = false := by unfold isR; rw [decide_eq_false h1,Bool.and_false]
    rw [this,cond_false] at i3
    refine .inl ⟨x - 1,?_,⟨by omega,by omega,by rwa [show (x - 1 + 1).toNat = x.toNat by omega]⟩,by omega⟩
    simp only [g_Sw_FnDiskLess_0,RT.sel,decide_eq_true hx,cond_true,cond_false,v0,v2,hat,h1',hw]
  ·refine .inr ⟨.inr (),?_,?_⟩
   ·simp only [g_Sw_FnDiskLess_0,RT.sel,decide_eq_false hx,cond_true,cond_false]
   ·rw [show (x + 1).toNat = 0 by omega,List.take_zero,ready_nil] at i3
    unfold lessR
    rw [← i3]
 obtain ⟨r,r1,r2⟩ := L
 rw [r1,r2]
theorem add_bare {l:List Note} {safe tx k:Int} (hd:diskP l safe = true) (hc:¬ l.length = 120) (hk:1 ≤ k ∧ k ≤ 4) (ht:0 ≤ tx ∧ tx ≤ 29) :
  addP_ l safe (k,tx,[],[]) true = (l ++ [(k,tx,[],[])],(l.length:Int) + 1,true) ∧ diskP (l ++ [(k,tx,[],[])]) ((l.length:Int) + 1) = true := by
 have hq := noteQ_bare hk ht
 constructor
 ·unfold addP_
  rw [hd,hq,decide_eq_false hc]
  rfl
 ·simp only [diskP,Bool.and_eq_true,decide_eq_true_eq,List.all_eq_true] at hd ⊢
  refine ⟨by simp; omega,⟨by omega,by simp⟩,fun x hx => ?_⟩
  rcases List.mem_append.1 hx with hx | hx
  ·exact hd.2.2 x hx
  ·rw [List.mem_singleton] at hx
   rw [hx]
   exact hq
theorem fr_f (l:List Note) (safe:Int) (hl:l.length ≤ 1048576) (hit:∀ x ∈ l,smallN x):g_Ai_DiskFold_fr l safe = true ∧ g_Vi_DiskFold_fr_0 l safe = bif diskP l safe then foldP l else [] := i_DiskFold_f l safe hl hit
theorem bare_f {l:List Note} {safe tx k:Int} (hl:l.length ≤ 120) (s1:∀ x ∈ l,smallN x) (hd:diskP l safe = true) (hc:¬ l.length = 120) (hk:1 ≤ k ∧ k ≤ 4) (ht:0 ≤ tx ∧ tx ≤ 29) :
  g_Ai_DiskAdd l safe k tx [] [] true = true ∧ g_Vi_DiskAdd_0 l safe k tx [] [] true = l ++ [(k,tx,[],[])] ∧ g_Vi_DiskAdd_1 l safe k tx [] [] true = (l.length:Int) + 1 ∧
  g_Ai_DiskFold_fr (l ++ [(k,tx,[],[])]) ((l.length:Int) + 1) = true ∧ g_Vi_DiskFold_fr_0 (l ++ [(k,tx,[],[])]) ((l.length:Int) + 1) = stepF l (k,tx,[],[]) (foldP l) := by
 have hsn:smallN (k,tx,[],[]) := ⟨by simp,by simp,by simp⟩
 obtain ⟨e1,e2⟩ := add_bare hd hc hk ht
 obtain ⟨a1,a2,a3,_⟩ := i_DiskAdd_f l safe (k,tx,[],[]) true (by omega) s1 hsn
 rw [e1] at a2 a3
 obtain ⟨f1,f2⟩ := fr_f (l ++ [(k,tx,[],[])]) ((l.length:Int) + 1) (by simp; omega) (fun x hx => by
  rcases List.mem_append.1 hx with hx | hx
  ·exact s1 x hx
  ·rw [List.mem_singleton] at hx
   rw [hx]
   exact hsn)
 rw [e2,cond_true,foldP_snoc] at f2
 exact ⟨a1,a2,a3,f1,f2⟩
theorem pure_FnDiskLess (a:List Int) (ok:a.length ≤ maxLen ∧ ∀ n ∈ a,(Lit.int .u8 n).wf = true):Fw_FnDiskLess [argRV false (.sl 5 (.int .u8)) a] = some (true,.val false [.bool true],[]) := by
 show some (g_Aw_FnDiskLess a,RV.val false [Cell.bool (g_Vw_FnDiskLess_0 a)],[]) = _
 have key:g_Aw_FnDiskLess a = true ∧ g_Vw_FnDiskLess_0 a = true := by
  by_cases hl:(a.length:Int) > 1048576
  ·unfold g_Aw_FnDiskLess g_Vw_FnDiskLess_0
   rw [decide_eq_true hl]; exact ⟨rfl,rfl⟩
  ·obtain ⟨d1,d2,d3,d4⟩ := drawDiskOf_f a ok.2
   unfold g_Aw_FnDiskLess g_Vw_FnDiskLess_0
   rw [decide_eq_false hl,d1]
   generalize g_Vs_DrawDiskOf_0 a = l at d2
   generalize g_Vs_DrawDiskOf_1 a = safe
   generalize g_Vs_DrawDiskOf_2 a = tx at d3 d4
   have s1:∀ x ∈ l,smallN x := fun x hx => tiny_small (d2.2 x hx)
   have q1 := d2.1
   obtain ⟨a1,a2⟩ := fr_f l safe (by omega) s1
   obtain ⟨b1,b2⟩ := s_DiskFold_f l safe (by omega) s1
   obtain ⟨c1,c2⟩ := s_DiskOk_f l safe (by omega) s1
   have hst := foldP_store l
   have hb := store_mid hst
   rw [a1,a2,b1,b2,c1,c2,jaOk_f.1,jaOk_f.2]
   cases hd:diskP l safe
   ·obtain ⟨j1,j2⟩ := jaSto_self [] (by simp) (by simp)
    simp only [cond_false]
    rw [j1,j2]
    exact ⟨rfl,rfl⟩
   ·obtain ⟨j1,j2⟩ := jaSto_self (foldP l) (by omega) hb.2
    simp only [cond_true]
    rw [j1,j2]
    by_cases ht:tx < 0
    ·rw [decide_eq_true ht]
     exact ⟨rfl,rfl⟩
    ·rw [decide_eq_false ht,len120]
     by_cases hc:l.length = 120
     ·rw [decide_eq_true hc]
      exact ⟨rfl,rfl⟩
     ·have hl120 := (by simp only [diskP,Bool.and_eq_true,decide_eq_true_eq] at hd; exact hd.1:l.length ≤ 120)
      obtain ⟨m1,m2,m3,m4,m5⟩ := bare_f (k := 3) (tx := tx) hl120 s1 hd hc (by omega) (by omega)
      obtain ⟨n1,n2,n3,n4,n5⟩ := bare_f (k := 4) (tx := tx) hl120 s1 hd hc (by omega) (by omega)
      obtain ⟨o1,o2,o3,o4,o5⟩ := bare_f (k := 2) (tx := tx) hl120 s1 hd hc (by omega) (by omega)
      have m5:_ = foldP l := m5
      have n5:_ = foldP l := n5
      have o5:_ = (match g_ready l tx with | some m => doS (foldP l) m.2.2.2 | none => foldP l) := o5
      rw [decide_eq_false hc,m1,m2,m3,n1,n2,n3,o1,o2,o3,wrap64 (x := (l.length:Int) - 1) (by omega),less_loop tx safe l (foldP l) _ _ _ _ _ _ _ (by omega) s1 (by omega) hb.2,m4,m5,n4,n5,o4,o5,j1,j2]
      unfold lessR
      cases hr:g_ready l tx with
      | none =>
       simp only [okO,valO,isL,Option.isSome_some,Option.getD_some]
       rw [j1,j2]
       exact ⟨rfl,rfl⟩
      | some m =>
       have hm := doS_store (foldP l) m.2.2.2
       have hmb := store_mid hm
       obtain ⟨p1,p2⟩ := jaSto_self (doS (foldP l) m.2.2.2) (by omega) hmb.2
       simp only [okO,valO,isL,getL,Option.isSome_some,Option.getD_some]
       rw [p1,p2]
       exact ⟨rfl,rfl⟩
 rw [key.1,key.2]
end Go.Proofs.YtjoggjjjlafdmaaGreatDoor.E
