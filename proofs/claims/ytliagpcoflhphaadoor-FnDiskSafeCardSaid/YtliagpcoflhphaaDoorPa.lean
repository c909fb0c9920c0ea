/- What these values are, in plain words: for the proof (laws.FnDiskSafe): part 1. No conditions. -/
import Derived.Test.YtliagpcoflhphaaDoorGb
import Derived.Lib.SlTrimSet
set_option linter.all false
namespace Go.Proofs.YtliagpcoflhphaaDoor.E
open Go
set_option maxRecDepth 100000
set_option maxHeartbeats 0
theorem wrap64 {x:Int} (h:-9223372036854775808 ≤ x ∧ x < 9223372036854775808):IntKind.wrap .i64 x = x := by
 simp only [IntKind.wrap,IntKind.bits,IntKind.signed]
 simp
 omega
section
variable {σ ρ α β:Type} {step:σ → RT σ ρ}
theorem loop_all (mk:Nat → σ) (p:Nat → Bool) (e fin:ρ) (n:Nat) (h1:∀ i,i < n → (step (mk i)).sel = bif p i then .go (mk (i + 1)) else .out e) (h2:(step (mk n)).sel = .out fin) :
  loopO step (mk 0) = some (bif (List.range n).all p then fin else e) := by
 have key:∀ k i,i + k = n → loopO step (mk i) = some (bif (List.range' i k).all p then fin else e) := by
  intro k
  induction k with
  | zero =>
   intro i hi
   have hi:i = n := by omega
   subst hi
   rw [loopO_eq,h2]
   rfl
  | succ k ih =>
   intro i hi
   rw [loopO_eq,h1 i (by omega),List.range'_succ,List.all_cons]
   cases p i with
   | true => simp only [cond_true,Bool.true_and]; exact ih (i + 1) (by omega)
   | false => rfl
 rw [key n 0 (by omega),List.range_eq_range']
theorem range_all {e:Ty} (l:List e.den) (p:e.den → Bool):(List.range l.length).all (fun i => p (at_ e l i)) = l.all p := by
 rw [Bool.eq_iff_iff,List.all_eq_true,List.all_eq_true]
 constructor
 ·intro h x hx
  obtain ⟨i,hi,rfl⟩ := List.getElem_of_mem hx
  have := h i (List.mem_range.2 hi)
  simpa [at_,hi] using this
 ·intro h i hi
  have hi := List.mem_range.1 hi
  have := h l[i] (List.getElem_mem hi)
  simpa [at_,hi] using this
theorem at_mem {e:Ty} {l:List e.den} {i:Nat} (h:i < l.length):at_ e l i ∈ l := by
 have:at_ e l i = l[i] := by simp [at_,h]
 rw [this]
 exact List.getElem_mem h
theorem at_eq {e:Ty} {l:List e.den} {i:Nat} (h:i < l.length):at_ e l i = l[i] := by simp [at_,h]
theorem loop_list {e:Ty} (l:List e.den) (mk:Nat → σ) (p:e.den → Bool) (x fin:ρ) (h1:∀ i,i < l.length → (step (mk i)).sel = bif p (at_ e l i) then .go (mk (i + 1)) else .out x) (h2:(step (mk l.length)).sel = .out fin) :
  loopO step (mk 0) = some (bif l.all p then fin else x) := by
 rw [loop_all mk (fun i => p (at_ e l i)) x fin l.length h1 h2,range_all]
theorem loop_idx {e:Ty} (l:List e.den) {step:Int → RT Int (Int ⊕ Unit)} (q:e.den → Bool) (h1:∀ i:Nat,i < l.length → (step (i:Int)).sel = bif q (at_ e l i) then .out (.inl (i:Int)) else .go ((i + 1:Nat):Int))
  (h2:(step (l.length:Int)).sel = .out (.inr ())):∃ r,loopO step 0 = some r ∧ decide ((bif isL r then getL r else (-1:Int)) ≥ 0) = l.any q := by
 have key:∀ (k i:Nat),i + k = l.length → ∃ r,loopO step (i:Int) = some r ∧ decide ((bif isL r then getL r else (-1:Int)) ≥ 0) = (l.drop i).any q := by
  intro k
  induction k with
  | zero =>
   intro i hi
   have hi:i = l.length := by omega
   subst hi
   refine ⟨_,by rw [loopO_eq,h2],?_⟩
   simp [isL]
  | succ k ih =>
   intro i hi
   rw [loopO_eq,h1 i (by omega)]
   have hil:i < l.length := by omega
   rw [List.drop_eq_getElem_cons hil,List.any_cons,at_eq hil]
   cases hq:q l[i] with
   | true => exact ⟨_,rfl,by simp [isL,getL]⟩
   | false => simp only [cond_false,Bool.false_or]; exact ih (i + 1) (by omega)
 exact key l.length 0 (by omega)
end
theorem dropWhile_nil {α:Type} (p:α → Bool) (l:List α):l.dropWhile p = [] ↔ ∀ x ∈ l,p x = true := by
 induction l with
 | nil => simp
 | cons a l ih =>
  by_cases h:p a = true
  ·rw [List.dropWhile_cons_of_pos h,ih]; simp [h]
  ·rw [List.dropWhile_cons_of_neg h]; simp [h]
theorem trimS_nil (l cs:List UInt8):(Lib.trimS l cs = []) ↔ l.all (cs.contains ·) = true := by
 unfold Lib.trimS Lib.trimLeftS Lib.trimRightS
 constructor
 ·intro h
  rw [dropWhile_nil] at h
  rw [List.all_eq_true]
  intro x hx
  have h2:∀ (m:List UInt8),(∀ y ∈ (m.dropWhile (cs.contains ·)).reverse,cs.contains y = true) → ∀ y ∈ m,cs.contains y = true := by
   intro m
   induction m with
   | nil => intro _ y hy; cases hy
   | cons a m ih =>
    intro hm y hy
    by_cases ha:cs.contains a = true
    ·rw [List.dropWhile_cons_of_pos ha] at hm
     rcases List.mem_cons.1 hy with rfl | hy
     ·exact ha
     ·exact ih hm y hy
    ·rw [List.dropWhile_cons_of_neg ha] at hm
     exact hm y (List.mem_reverse.2 hy)
  exact h2 l.reverse (fun y hy => h y hy) x (by simpa using hx)
 ·intro h
  rw [List.all_eq_true] at h
  rw [dropWhile_nil]
  intro x hx
  have:x ∈ l := by
   have h3 := List.mem_reverse.1 hx
   have := (List.dropWhile_sublist (fun x => cs.contains x) (l := l.reverse)).subset h3
   simpa using this
  exact h x this
theorem byte_range (s:ByteArray) (i:Nat):0 ≤ byteAt s i ∧ byteAt s i < 256 := by
 unfold byteAt
 have := (s.data[i]?.getD 0).toNat_lt
 omega
theorem i_in_f (a b c:Int):g_Ai_in a b c = true ∧ g_Vi_in_0 a b c = decide (b ≤ a ∧ a ≤ c) := by
 constructor
 ·simp [g_Ai_in]
 ·unfold g_Vi_in_0
  by_cases h:a ≥ b
  ·simp [h]
  ·simp [h]
theorem s_l1In_f (a b c:Int):g_As_l1In a b c = true ∧ g_Vs_l1In_0 a b c = decide (b ≤ a ∧ a ≤ c) := by
 constructor
 ·simp [g_As_l1In]
 ·unfold g_Vs_l1In_0
  by_cases h:a ≥ b
  ·simp [h]
  ·simp [h]
def dig (b:UInt8):Bool := decide (48 ≤ b.toNat ∧ b.toNat ≤ 57)
def keyP (s:ByteArray):Bool := decide (2 ≤ s.size ∧ s.size ≤ 3)&&(decide (97 ≤ byteAt s 0 ∧ byteAt s 0 ≤ 122)&&(s.data.toList.drop 1).all dig)
def valP (l:List Int):Bool := decide (1 ≤ l.length ∧ l.length ≤ 3)&&l.all fun n => decide (0 ≤ n ∧ n ≤ 9999)
def wrtP (k:ByteArray) (d:Bool) (l:List Int):Bool := keyP k&&bif d then l.isEmpty else valP l
theorem dig_mem (b:UInt8):[48,49,50,51,52,53,54,55,56,57].contains b = dig b := by
 have h:∀ b:Fin 256,[48,49,50,51,52,53,54,55,56,57].contains (UInt8.ofNat b.val) = dig (UInt8.ofNat b.val) := by decide +kernel
 have := h ⟨b.toNat,b.toNat_lt⟩
 simpa using this
theorem i_keyOk_f (s:ByteArray):g_Ai_keyOk s = true ∧ g_Vi_keyOk_0 s = keyP s := by
 have hb := byte_range s 0
 have hw:IntKind.wrap .i64 (byteAt s 0) = byteAt s 0 := wrap64 (by omega)
 have e1:∀ n:Nat,decide ((2:Int) ≤ (n:Int) ∧ (n:Int) ≤ 3) = decide (2 ≤ n ∧ n ≤ 3) := fun n => decide_eq_decide.2 (by omega)
 constructor
 ·simp only [g_Ai_keyOk,(i_in_f _ _ _).1,(i_in_f _ _ _).2,hw,e1]
  by_cases h:2 ≤ s.size ∧ s.size ≤ 3
  ·have h1:(0:Int) < s.size := by omega
   have h2:(1:Int) ≤ s.size := by omega
   have h3:(s.extract 1 s.size).size ≤ 9223372036854775807 := by rw [ByteArray.size_extract]; omega
   have h4:g_ascii (lit [48,49,50,51,52,53,54,55,56,57]) = true := by decide +kernel
   simp only [h,h1,h2,h3,h4,and_self,decide_true,Bool.true_and,Bool.and_true,Bool.not_true,Bool.false_or,Int.le_refl,Bool.or_true,show (0:Int) ≤ 1 from by decide]
  ·simp [h]
 ·simp only [g_Vi_keyOk_0,(i_in_f _ _ _).2,hw,e1,keyP]
  have e2:(ByteArray.toList (g_trim (s.extract 1 s.size) (lit [48,49,50,51,52,53,54,55,56,57])) == []) = (s.data.toList.drop 1).all dig := by
   rw [ByteArray.toList_eq]
   show ((Lib.trimS (s.extract 1 s.size).data.toList [48,49,50,51,52,53,54,55,56,57]) == []) = _
   have e3:(s.extract 1 s.size).data.toList = s.data.toList.drop 1 := by
    simp only [ByteArray.data_extract,Array.toList_extract,List.extract_eq_take_drop]
    rw [List.take_of_length_le (by rw [List.length_drop,Array.length_toList]; exact Nat.le_refl _)]
   rw [e3,Bool.eq_iff_iff,beq_iff_eq]
   refine (trimS_nil (List.drop 1 s.data.toList) [48,49,50,51,52,53,54,55,56,57]).trans ?_
   simp only [dig_mem]
  rw [e2]
  cases decide (2 ≤ s.size ∧ s.size ≤ 3) <;> cases decide (97 ≤ byteAt s 0 ∧ byteAt s 0 ≤ 122) <;> rfl
theorem s_l1Key_loop (s:ByteArray) (hs:s.size < 1000) (h1:1 ≤ s.size):g_Ls_l1Key_0 s 1 = some (bif (s.data.toList.drop 1).all dig then .inr () else .inl false) := by
 have h := loop_all (step := g_Ss_l1Key_0 s) (fun i:Nat => ((i + 1:Nat):Int)) (fun i => dig ((s.data[i + 1]?).getD 0)) (Sum.inl false) (Sum.inr ()) (s.size - 1) (fun i hi => by
   have h1:((i + 1:Nat):Int) < s.size := by omega
   have h2:(0:Int) ≤ ((i + 1:Nat):Int) := by omega
   have hw:IntKind.wrap .i64 (((i + 1:Nat):Int) + 1) = ((i + 1 + 1:Nat):Int) := by rw [wrap64 (by omega)]; omega
   simp only [g_Ss_l1Key_0,RT.sel,cond_true,h1,h2,hw,decide_true,and_self,Int.toNat_natCast]
   have hb:byteAt s (i + 1) = (((s.data[i + 1]?).getD 0).toNat:Int) := rfl
   simp only [hb]
   generalize (s.data[i + 1]?).getD 0 = b
   unfold dig
   by_cases k1:b.toNat < 48
   ·have k2:¬ 48 ≤ b.toNat := by omega
    have k3:(b.toNat:Int) < 48 := by omega
    simp [k2,k3]
   ·have k2:48 ≤ b.toNat := by omega
    have k3:¬ (b.toNat:Int) < 48 := by omega
    by_cases k4:b.toNat ≤ 57
    ·have k5:¬ (b.toNat:Int) > 57 := by omega
     simp [k2,k3,k4,k5,RT.sel]
    ·have k5:(b.toNat:Int) > 57 := by omega
     simp [k2,k3,k4,k5,RT.sel]) (by
   have hn:((s.size - 1 + 1:Nat):Int) = (s.size:Int) := by omega
   simp only [g_Ss_l1Key_0,RT.sel,hn,cond_true,Int.lt_irrefl,decide_false,cond_false])
 unfold g_Ls_l1Key_0
 refine Eq.trans h ?_
 congr 2
 rw [Bool.eq_iff_iff,List.all_eq_true,List.all_eq_true]
 have hsz:s.size = s.data.toList.length := Array.length_toList.symm
 constructor
 ·intro h x hx
  obtain ⟨i,hi,rfl⟩ := List.getElem_of_mem hx
  have hi':i + 1 < s.data.toList.length := by simp at hi ⊢; omega
  have := h i (List.mem_range.2 (by omega))
  have e:(s.data[i + 1]?).getD 0 = s.data.toList[i + 1] := by rw [Array.getElem?_eq_getElem (by simpa using hi')]; simp
  rw [e] at this
  simpa [Nat.add_comm] using this
 ·intro h i hi
  have hi := List.mem_range.1 hi
  have hi':i + 1 < s.data.toList.length := by omega
  have e:(s.data[i + 1]?).getD 0 = s.data.toList[i + 1] := by rw [Array.getElem?_eq_getElem (by simpa using hi')]; simp
  rw [e]
  refine h _ ?_
  rw [List.mem_iff_getElem]
  exact ⟨i,by simp at hi' ⊢; omega,by simp [Nat.add_comm]⟩
theorem s_l1Key_f (s:ByteArray):g_As_l1Key s = true ∧ g_Vs_l1Key_0 s = keyP s := by
 have e1:∀ n:Nat,decide ((2:Int) ≤ (n:Int) ∧ (n:Int) ≤ 3) = decide (2 ≤ n ∧ n ≤ 3) := fun n => decide_eq_decide.2 (by omega)
 by_cases h:2 ≤ s.size ∧ s.size ≤ 3
 ·have h0:(0:Int) < s.size := by omega
  have hl := s_l1Key_loop s (by omega) (by omega)
  constructor
  ·simp only [g_As_l1Key,(s_l1In_f _ _ _).1,(s_l1In_f _ _ _).2,e1,hl,okO,h,h0,Option.isSome_some,and_self,decide_true,Bool.true_and,Bool.or_true,Int.le_refl]
  ·simp only [g_Vs_l1Key_0,(s_l1In_f _ _ _).2,e1,hl,okO,valO,keyP,Option.getD_some]
   by_cases k1:byteAt s 0 < 97
   ·simp [h,k1,show ¬ (97 ≤ byteAt s 0) by omega]
   ·by_cases k2:byteAt s 0 > 122
    ·simp [h,k1,k2,show ¬ (byteAt s 0 ≤ 122) by omega]
    ·simp only [h,k1,k2,show 97 ≤ byteAt s 0 by omega,show byteAt s 0 ≤ 122 by omega]
     cases (s.data.toList.drop 1).all dig <;> rfl
 ·constructor
  ·simp only [g_As_l1Key,(s_l1In_f _ _ _).1,(s_l1In_f _ _ _).2,e1]
   simp [h]
  ·simp only [g_Vs_l1Key_0,(s_l1In_f _ _ _).2,e1,keyP]
   simp [h]
theorem s_l1Val_loop (l:List Int) (hl:l.length ≤ 1048576):g_Ls_l1Val_0 l 0 = some (bif l.all (fun n => decide (0 ≤ n ∧ n ≤ 9999)) then .inr () else .inl false) := by
 refine loop_list (ρ := Bool ⊕ Unit) (e := .int .i64) l (fun i:Nat => (i:Int)) (fun n => decide (0 ≤ n ∧ n ≤ 9999)) (Sum.inl false) (Sum.inr ()) (fun i hi => ?_) ?_
 ·have h1:(i:Int) < l.length := by omega
  have h2:(0:Int) ≤ (i:Int) := by omega
  have hw:IntKind.wrap .i64 ((i:Int) + 1) = ((i + 1:Nat):Int) := by rw [wrap64 (by omega)]; omega
  simp only [g_Ss_l1Val_0,RT.sel,cond_true,h1,h2,hw,decide_true,and_self,Int.toNat_natCast,(s_l1In_f _ _ _).1,(s_l1In_f _ _ _).2]
  cases decide (0 ≤ at_ (.int .i64) l i ∧ at_ (.int .i64) l i ≤ 9999) <;> rfl
 ·simp [g_Ss_l1Val_0,RT.sel]
theorem s_l1Val_f (l:List Int) (hl:l.length ≤ 1048576):g_As_l1Val l = true ∧ g_Vs_l1Val_0 l = valP l := by
 have hk := s_l1Val_loop l hl
 have e1:decide ((1:Int) ≤ (l.length:Int) ∧ (l.length:Int) ≤ 3) = decide (1 ≤ l.length ∧ l.length ≤ 3) := decide_eq_decide.2 (by omega)
 constructor
 ·simp only [g_As_l1Val,hk,okO,valO,(s_l1In_f _ _ _).1]; simp
 ·simp only [g_Vs_l1Val_0,hk,valO,(s_l1In_f _ _ _).2,e1,valP,Option.getD_some]
  cases l.all (fun n => decide (0 ≤ n ∧ n ≤ 9999)) <;> cases decide (1 ≤ l.length ∧ l.length ≤ 3) <;> rfl
theorem i_valOk_1_f (n:Int):g_Ai_valOk_1 n = true ∧ g_Vi_valOk_1_0 n = !decide (0 ≤ n ∧ n ≤ 9999) := ⟨(i_in_f _ _ _).1,congrArg not (i_in_f _ _ _).2⟩
theorem i_valOk_f (l:List Int) (hl:l.length ≤ 1048576):g_Ai_valOk l = true ∧ g_Vi_valOk_0 l = valP l := by
 obtain ⟨r,h1,h2⟩ := loop_idx (e := .int .i64) l (step := g_Sslices_IndexFunc_int_int__i_valOk_1_0 l (l.length:Int)) (fun n => !decide (0 ≤ n ∧ n ≤ 9999)) (fun i hi => by
  have h1:(i:Int) < l.length := by omega
  have h2:(0:Int) ≤ (i:Int) := by omega
  have hw:IntKind.wrap .i64 ((i:Int) + 1) = ((i + 1:Nat):Int) := by rw [wrap64 (by omega)]; omega
  simp only [g_Sslices_IndexFunc_int_int__i_valOk_1_0,RT.sel,cond_true,h1,h2,hw,decide_true,and_self,Int.toNat_natCast,(i_valOk_1_f _).1,(i_valOk_1_f _).2]) (by simp [g_Sslices_IndexFunc_int_int__i_valOk_1_0,RT.sel])
 have h1:g_Lslices_IndexFunc_int_int__i_valOk_1_0 l (l.length:Int) 0 = some r := h1
 have e1:decide ((1:Int) ≤ (l.length:Int) ∧ (l.length:Int) ≤ 3) = decide (1 ≤ l.length ∧ l.length ≤ 3) := decide_eq_decide.2 (by omega)
 constructor
 ·simp [g_Ai_valOk,(i_in_f _ _ _).1,g_Aslices_ContainsFunc_int_int__i_valOk_1,g_Aslices_IndexFunc_int_int__i_valOk_1,h1,okO]
 ·simp only [g_Vi_valOk_0,(i_in_f _ _ _).2,e1,g_Vslices_ContainsFunc_int_int__i_valOk_1_0,g_Vslices_IndexFunc_int_int__i_valOk_1_0,h1,valO,Option.getD_some,h2,valP]
  rw [show (l.any fun n => !decide (0 ≤ n ∧ n ≤ 9999)) = !(l.all fun n => decide (0 ≤ n ∧ n ≤ 9999)) by rw [List.not_all_eq_any_not],Bool.not_not]
  cases decide (1 ≤ l.length ∧ l.length ≤ 3) <;> rfl
theorem s_WrtOk_f (k:ByteArray) (d:Bool) (l:List Int) (hl:l.length ≤ 1048576):g_As_WrtOk k d l = true ∧ g_Vs_WrtOk_0 k d l = wrtP k d l := by
 constructor
 ·simp [g_As_WrtOk,(s_l1Key_f _).1,(s_l1Val_f _ hl).1]
 ·simp only [g_Vs_WrtOk_0,(s_l1Key_f _).2,(s_l1Val_f _ hl).2,wrtP]
  cases d <;> cases keyP k <;> cases l <;> simp <;> omega
theorem wrapL {x:Int} (h:0 ≤ x ∧ x ≤ 100000):IntKind.wrap .i64 x = x := wrap64 (by omega)
theorem digit_size (n:Int):(g_Vs_l3Digit_0 n).size = 1 := rfl
theorem plain_f (a:Int) (h:0 ≤ a ∧ a ≤ 99):g_As_l3Plain a = true ∧ (g_Vs_l3Plain_0 a).size ≤ 2 := by
 have e0:(lit []).size = 0 := rfl
 have key:∃ r,g_Ls_l3Plain_0 (a,lit []) = some r ∧ r.2.size ≤ 1 := by
  by_cases h9:a > 9
  ·refine ⟨(Int.tdiv a 10,g_Vs_l3Digit_0 (Int.tmod a 10) ++ lit []),?_,?_⟩
   ·have d:Int.tdiv a 10 = a / 10 := Int.tdiv_eq_ediv_of_nonneg h.1
    have s1:(g_Ss_l3Plain_0 (a,lit [])).sel = .go (Int.tdiv a 10,g_Vs_l3Digit_0 (Int.tmod a 10) ++ lit []) := by
     rw [d]
     simp only [g_Ss_l3Plain_0,RT.sel,h9,decide_true,cond_true,digit_size,e0]
     rw [d,wrapL (by omega)]
     rfl
    unfold g_Ls_l3Plain_0
    rw [loopO_eq,s1]
    show loopO _ _ = _
    rw [loopO_eq]
    have s2:(g_Ss_l3Plain_0 (Int.tdiv a 10,g_Vs_l3Digit_0 (Int.tmod a 10) ++ lit [])).sel = .out (Int.tdiv a 10,g_Vs_l3Digit_0 (Int.tmod a 10) ++ lit []) := by
     rw [d]
     simp only [g_Ss_l3Plain_0,RT.sel,cond_true,decide_eq_false (by omega:¬ a / 10 > 9),cond_false]
    rw [s2]
   ·rw [ByteArray.size_append,digit_size,e0]; omega
  ·refine ⟨(a,lit []),?_,by rw [e0]; omega⟩
   unfold g_Ls_l3Plain_0
   rw [loopO_eq]
   have s2:(g_Ss_l3Plain_0 (a,lit [])).sel = .out (a,lit []) := by
    simp only [g_Ss_l3Plain_0,RT.sel,cond_true,decide_eq_false h9,cond_false]
   rw [s2]
 obtain ⟨r,h1,h2⟩ := key
 refine ⟨?_,?_⟩
 ·simp only [g_As_l3Plain,h1,okO,valO,Option.isSome_some,Option.getD_some,digit_size,Bool.true_and]
  exact decide_eq_true (by omega)
 ·simp only [g_Vs_l3Plain_0,h1,valO,Option.getD_some]
  rw [ByteArray.size_append,digit_size]
  omega
theorem loop_inv {σ ρ:Type} {step:σ → RT σ ρ} (I:σ → Prop) (R:ρ → Prop) (μ:σ → Nat) (h:∀ x,I x → (∃ y,(step x).sel = .go y ∧ I y ∧ μ y < μ x) ∨ ∃ r,(step x).sel = .out r ∧ R r):∀ x,I x → ∃ r,loopO step x = some r ∧ R r := by
 have key:∀ n x,μ x ≤ n → I x → ∃ r,loopO step x = some r ∧ R r := by
  intro n
  induction n with
  | zero =>
   intro x hx hI
   rcases h x hI with ⟨y,_,_,h3⟩ | ⟨r,h1,h2⟩
   ·omega
   ·exact ⟨r,by rw [loopO_eq,h1],h2⟩
  | succ n ih =>
   intro x hx hI
   rcases h x hI with ⟨y,h1,h2,h3⟩ | ⟨r,h1,h2⟩
   ·obtain ⟨r,e1,e2⟩ := ih y (by omega) h2
    exact ⟨r,by rw [loopO_eq,h1]; exact e1,e2⟩
   ·exact ⟨r,by rw [loopO_eq,h1],h2⟩
 exact fun x hI => key (μ x) x (Nat.le_refl _) hI
theorem wrapS {x:Int} (h:0 ≤ x ∧ x ≤ 100000):IntKind.wrap .i64 (x + 1) = x + 1 := wrap64 (by omega)
theorem pickA_f (r0:List Int) (r1 n:Int) (h:0 ≤ r1 ∧ r1 ≤ 100000) (hn:1 ≤ n) (hl:r0.length ≤ 1048576):g_pickA r0 r1 n = true := by
 have e1:IntKind.wrap .i64 (IntKind.wrap .i64 (r1 + 1) - 1) = r1 := by rw [wrapS h,wrap64 (by omega)]; omega
 have e2:IntKind.wrap .i64 (IntKind.wrap .i64 (r1 * 7) + 3) = r1 * 7 + 3 := by rw [wrap64 (x := r1 * 7) (by omega),wrap64 (by omega)]
 have e3:(n == 0) = false := by simpa using (by omega:n ≠ 0)
 unfold g_pickA
 simp only [g_As_l20Rd_pick0,e1,e2,e3]
 by_cases hz:r0.length = 0
 ·simp [hz]
 ·have hp:(0:Int) < (r0.length:Int) := by omega
  have t1:0 ≤ Int.tmod r1 r0.length := Int.tmod_nonneg _ h.1
  have t2:Int.tmod r1 r0.length < r0.length := Int.tmod_lt_of_pos _ hp
  have t3:0 ≤ Int.tmod (r1 * 7 + 3) r0.length := Int.tmod_nonneg _ (by omega)
  have t4:Int.tmod (r1 * 7 + 3) r0.length < r0.length := Int.tmod_lt_of_pos _ hp
  have z:((r0.length:Int) == 0) = false := by simpa using hz
  by_cases hlt:r1 < (r0.length:Int)
  ·simp [hlt,h.1]
  ·simp only [decide_eq_false hlt,cond_false,z,Bool.not_false,Bool.true_and,t1,t2,t3,t4,and_self,decide_true,Bool.or_true]
theorem oddA_f (r0:List Int) (r1 n:Int) (h:0 ≤ r1 ∧ r1 ≤ 100000) (hl:r0.length ≤ 1048576):g_As_l20Rd_odd r0 r1 n = true := by
 unfold g_As_l20Rd_odd
 by_cases hn:n > 0
 ·rw [pickA_f r0 r1 n h (by omega) hl]; simp
 ·simp [hn]
theorem open_f (a:List Int):g_As_l20Open a = true ∧ (g_Vs_l20Open_0 a).length ≤ 2000 ∧ g_Vs_l20Open_1 a = 0 := by
 refine ⟨?_,?_,?_⟩
 ·unfold g_As_l20Open
  by_cases h:(a.length:Int) > 2000
  ·have:(2000:Int) ≤ a.length := by omega
   simp [h,this]
  ·simp [h]
   cases decide ((2000:Int) ≤ a.length) <;> rfl
 ·unfold g_Vs_l20Open_0
  by_cases h:(a.length:Int) > 2000
  ·rw [decide_eq_true h,cond_true]; exact Nat.le_trans (by rw [List.length_drop]; exact Nat.sub_le _ _) (List.length_take_le 2000 a)
  ·rw [decide_eq_false h,cond_false]; omega
 ·unfold g_Vs_l20Open_1
  generalize decide ((a.length:Int) > 2000) = p
  cases p <;> rfl
def RdOk (r0:List Int):Prop := r0.length ≤ 1048576 ∧ ∀ n ∈ r0,0 ≤ n ∧ n < 256
theorem at_u8 {r0:List Int} (h:RdOk r0) (i:Nat):∃ x:Int,at_ (.int .u8) r0 i = x ∧ 0 ≤ x ∧ x < 256 := by
 by_cases hi:i < r0.length
 ·exact ⟨_,rfl,h.2 _ (at_mem (e := .int .u8) hi)⟩
 ·refine ⟨0,by simp [at_,List.getElem?_eq_none (by omega:r0.length ≤ i),Ty.zero],by omega,by omega⟩
theorem xor_small {x y:Int} (hx:0 ≤ x ∧ x < 16777216) (hy:0 ≤ y ∧ y < 16777216):((BitVec.toNat (BitVec.ofInt 64 x ^^^ BitVec.ofInt 64 y):Nat):Int) < 16777216 := by
 have key:∀ z:Int,0 ≤ z ∧ z < 16777216 → (BitVec.ofInt 64 z).toNat < 2 ^ 24 := by
  intro z hz
  rw [BitVec.toNat_ofInt]
  have:z % ((2 ^ 64:Nat):Int) = z := Int.emod_eq_of_lt hz.1 (by omega)
  rw [this]
  omega
 have := Nat.xor_lt_two_pow (key x hx) (key y hy)
 rw [BitVec.toNat_xor]
 omega
theorem pick_f (r0:List Int) (r1 n:Int) (h:0 ≤ r1 ∧ r1 ≤ 100000) (hn:1 ≤ n) (hr:RdOk r0):0 ≤ g_pick r0 r1 n ∧ g_pick r0 r1 n < n := by
 have e1:IntKind.wrap .i64 (IntKind.wrap .i64 (r1 + 1) - 1) = r1 := by rw [wrapS h,wrap64 (by omega)]; omega
 have e2:IntKind.wrap .i64 (IntKind.wrap .i64 (r1 * 7) + 3) = r1 * 7 + 3 := by rw [wrap64 (x := r1 * 7) (by omega),wrap64 (by omega)]
 have tm:∀ x:Int,0 ≤ x → 0 ≤ Int.tmod x n ∧ Int.tmod x n < n := fun x hx => ⟨Int.tmod_nonneg _ hx,Int.tmod_lt_of_pos _ (by omega)⟩
 unfold g_pick
 simp only [g_Vs_l20Rd_pick0_0,e1,e2]
 rw [decide_eq_false (by omega:¬ n < 1),cond_false]
 by_cases hz:r0.length = 0
 ·rw [show ((r0.length:Int) == 0) = true by simp [hz],cond_true]; omega
 ·have hp:(0:Int) < (r0.length:Int) := by omega
  rw [show ((r0.length:Int) == 0) = false by simpa using hz,cond_false]
  by_cases hlt:r1 < (r0.length:Int)
  ·rw [decide_eq_true hlt,cond_true]
   obtain ⟨x,e,b⟩ := at_u8 hr r1.toNat
   rw [e,wrap64 (by omega)]
   exact tm _ b.1
  ·rw [decide_eq_false hlt,cond_false]
   obtain ⟨x1,y1,b1⟩ := at_u8 hr (Int.tmod r1 r0.length).toNat
   obtain ⟨x2,y2,b2⟩ := at_u8 hr (Int.tmod (r1 * 7 + 3) r0.length).toNat
   have d0:0 ≤ Int.tdiv r1 r0.length := Int.tdiv_nonneg h.1 (by omega)
   have d1:Int.tdiv r1 r0.length ≤ r1 := by
    rw [Int.tdiv_eq_ediv_of_nonneg h.1]
    exact Int.ediv_le_self _ h.1
   rw [y1,y2]
   generalize Int.tdiv r1 r0.length = q at d0 d1 ⊢
   rw [wrap64 (x := x1) (by omega),wrap64 (x := x2) (by omega),wrap64 (x := x1 * 131) (by omega),wrap64 (x := x2 * 1117) (by omega),wrap64 (x := r1 * 29) (by omega),wrap64 (x := q) (by omega),wrap64 (x := q * 53) (by omega),wrap64 (x := x1 * 131 + x2 * 1117) (by omega),wrap64 (x := x1 * 131 + x2 * 1117 + r1 * 29) (by omega),wrap64 (x := x1 * 131 + x2 * 1117 + r1 * 29 + q * 53) (by omega)]
   generalize hX:x1 * 131 + x2 * 1117 + r1 * 29 + q * 53 = X
   have hX0:0 ≤ X ∧ X < 16777216 := by omega
   have hD:0 ≤ Int.tdiv X 64 ∧ Int.tdiv X 64 < 16777216 := by
    rw [Int.tdiv_eq_ediv_of_nonneg hX0.1]
    omega
   rw [wrap64 (x := Int.tdiv X 64) (by omega)]
   have hx := xor_small hX0 hD
   have hx:(((BitVec.ofInt (nat_lit 64) X ^^^ BitVec.ofInt (nat_lit 64) (Int.tdiv X 64)).toNat:Nat):Int) < 16777216 := hx
   generalize (BitVec.ofInt (nat_lit 64) X ^^^ BitVec.ofInt (nat_lit 64) (Int.tdiv X 64)).toNat = Y at hx ⊢
   rw [wrap64 (by omega)]
   exact tm _ (by omega)
theorem open_ok (a:List Int) (h:∀ n ∈ a,(Lit.int .u8 n).wf = true):RdOk (g_Vs_l20Open_0 a) := by
 have hb:∀ n ∈ a,0 ≤ n ∧ n < 256 := by
  intro n hn
  have := h n hn
  simp [Lit.wf,IntKind.min,IntKind.max,IntKind.bits,IntKind.signed] at this
  omega
 refine ⟨by have := (open_f a).2.1; omega,fun n hn => hb n ?_⟩
 unfold g_Vs_l20Open_0 at hn
 generalize decide ((a.length:Int) > 2000) = p at hn
 cases p
 ·exact hn
 ·exact List.mem_of_mem_take (List.mem_of_mem_drop hn)
theorem pickD_f (r0:List Int) (r1 n m:Int) (h:0 ≤ r1 ∧ r1 ≤ 100000) (hn:1 ≤ n ∧ n ≤ m) (hr:RdOk r0):decide (0 ≤ g_pick r0 r1 n ∧ g_pick r0 r1 n < m) = true := by
 have := pick_f r0 r1 n h hn.1 hr
 exact decide_eq_true ⟨this.1,by omega⟩
theorem pickN_f (r0:List Int) (r1 n:Int) (m:Nat) (h:0 ≤ r1 ∧ r1 ≤ 100000) (hn:1 ≤ n ∧ n ≤ m) (hr:RdOk r0):decide ((g_pick r0 r1 n).toNat < m) = true := by
 have := pick_f r0 r1 n h hn.1 hr
 exact decide_eq_true (by omega)
theorem pickA_f' (r0:List Int) (r1 n:Int) (h:0 ≤ r1 ∧ r1 ≤ 100000) (hn:1 ≤ n) (hr:RdOk r0):g_pickA r0 r1 n = true := pickA_f r0 r1 n h hn hr.1
theorem oddA_f' (r0:List Int) (r1 n:Int) (h:0 ≤ r1 ∧ r1 ≤ 100000) (hr:RdOk r0):g_As_l20Rd_odd r0 r1 n = true := oddA_f r0 r1 n h hr.1
def oddD (n:Int):Int := if n > 0 then 1 else 0
theorem oddP_f (r0:List Int) (r1 n:Int) (h:0 ≤ r1 ∧ r1 ≤ 99999):g_Vs_l20Rd_odd_2 r0 r1 n = r1 + oddD n % 2 := by
 unfold g_Vs_l20Rd_odd_2 oddD
 by_cases hn:n > 0
 ·simp only [hn,decide_true,cond_true,if_true]; rw [wrapL (by omega)]; omega
 ·simp only [hn,decide_false,cond_false,if_false]; omega
theorem at_all {e:Ty} {l:List e.den} {P:e.den → Prop} (hl:∀ x ∈ l,P x) {i:Nat} (hi:i < l.length):P (at_ e l i) := hl _ (at_mem hi)
theorem i_WrtOk_f (k:ByteArray) (d:Bool) (l:List Int) (hl:l.length ≤ 1048576):g_Ai_WrtOk k d l = true ∧ g_Vi_WrtOk_0 k d l = wrtP k d l := by
 constructor
 ·simp [g_Ai_WrtOk,(i_keyOk_f _).1,(i_valOk_f _ hl).1]
 ·simp only [g_Vi_WrtOk_0,(i_keyOk_f _).2,(i_valOk_f _ hl).2,wrtP]
  cases d <;> cases keyP k <;> cases l <;> simp <;> omega
theorem jaOk_f:g_Aw_jaOk = true ∧ g_Vw_jaOk_0 = true := by
 unfold g_Aw_jaOk g_Vw_jaOk_0
 obtain ⟨a,b⟩ := i_WrtOk_f (lit [97,49]) false [1] (by decide)
 rw [a,b]
 refine ⟨rfl,?_⟩
 decide +kernel
noncomputable def keyD (r0:List Int) (r1 n:Int):Int := g_Vs_l20Key_2 r0 r1 n - r1
theorem two_at (a b c:Int) (i:Nat) (ha:0 ≤ a ∧ a ≤ c) (hb:0 ≤ b ∧ b ≤ c) (hi:i < 2):0 ≤ at_ (.int .i64) [a,b] i ∧ at_ (.int .i64) [a,b] i ≤ c := by
 have:i = 0 ∨ i = 1 := by omega
 rcases this with rfl | rfl
 ·exact ha
 ·exact hb
theorem key_f (r0:List Int) (r1 n:Int) (h:0 ≤ r1 ∧ r1 ≤ 99990) (hr:RdOk r0):g_As_l20Key r0 r1 n = true ∧ g_Vs_l20Key_2 r0 r1 n = r1 + keyD r0 r1 n % 8 ∧ (g_Vs_l20Key_0 r0 r1 n).size ≤ 4 := by
 have p4 := pick_f r0 (r1 + 1) 4 (by omega) (by omega) hr
 have p30 := pick_f r0 (r1 + 1 + 1) 30 (by omega) (by omega) hr
 have p2 := pick_f r0 (r1 + 1 + 1 + 1) 2 (by omega) (by omega) hr
 have pl := two_at (g_pick r0 (r1 + 1) 4) (g_pick r0 (r1 + 1 + 1) 30) 29 (g_pick r0 (r1 + 1 + 1 + 1) 2).toNat (by omega) (by omega) (by omega)
 obtain ⟨q1,q2⟩ := plain_f (at_ (.int .i64) [g_pick r0 (r1 + 1) 4,g_pick r0 (r1 + 1 + 1) 30] (g_pick r0 (r1 + 1 + 1 + 1) 2).toNat) ⟨pl.1,Int.le_trans pl.2 (by decide)⟩
 have s1:∀ i,i < 5 → (at_ .str [lit [115],lit [99],lit [102],lit [117],lit [97]] i).size = 1 := fun i hi => at_all (e := .str) (P := fun x:ByteArray => x.size = 1) (by intro x hx; simp at hx; rcases hx with rfl | rfl | rfl | rfl | rfl <;> rfl) hi
 have s2:∀ i,i < 6 → (at_ .str [lit [],lit [115],lit [83,49],lit [115,49,50,51],lit [49,115],lit [115,97]] i).size ≤ 4 := fun i hi => at_all (e := .str) (P := fun x:ByteArray => x.size ≤ 4) (by intro x hx; simp at hx; rcases hx with rfl | rfl | rfl | rfl | rfl | rfl <;> decide) hi
 have p5 := pick_f r0 r1 5 (by omega) (by omega) hr
 have s1 := s1 (g_pick r0 r1 5).toNat (by omega)
 refine ⟨?_,?_,?_⟩
 ·unfold g_As_l20Key
  simp (disch := first | omega | assumption) only [wrapL,pickA_f',oddA_f',oddP_f,pickD_f,pickN_f,List.length_cons,List.length_nil,Bool.true_and,q1,s1]
  rw [decide_eq_true (by omega)]
  simp (disch := first | omega | assumption) [pickA_f',pickD_f,pickN_f]
 ·unfold keyD g_Vs_l20Key_2
  simp (disch := first | omega | assumption) only [wrapL,oddP_f]
  generalize g_Vs_l20Rd_odd_0 r0 _ n = b
  cases b <;> simp only [cond_true,cond_false] <;> omega
 ·unfold g_Vs_l20Key_0
  simp (disch := first | omega | assumption) only [wrapL,oddP_f]
  generalize g_Vs_l20Rd_odd_0 r0 _ n = b
  cases b
  ·rw [cond_false,ByteArray.size_append]; omega
  ·rw [cond_true]
   have p6 := pick_f r0 (r1 + 1 + 1 + 1 + 1 + oddD n % 2) 6 (by omega) (by omega) hr
   exact s2 _ (by omega)
noncomputable def valD (r0:List Int) (r1 n:Int):Int := g_Vs_l20Val_2 r0 r1 n - r1
theorem val_f (r0:List Int) (r1 n:Int) (h:0 ≤ r1 ∧ r1 ≤ 99980) (hr:RdOk r0):g_As_l20Val r0 r1 n = true ∧ g_Vs_l20Val_2 r0 r1 n = r1 + valD r0 r1 n % 16 ∧ (g_Vs_l20Val_0 r0 r1 n).length ≤ 4 := by
 have p4 := pick_f r0 r1 4 (by omega) (by omega) hr
 have p3 := pick_f r0 (r1 + 1) 3 (by omega) (by omega) hr
 have L:∃ r,g_Ls_l20Val_0 n r0 ([g_pick r0 r1 4],g_pick r0 (r1 + 1) 3,r1 + 1 + 1) = some r ∧ r.1.length ≤ 4 ∧ 0 ≤ r.2 - r1 ∧ r.2 - r1 ≤ 6 := by
  refine loop_inv (step := g_Ss_l20Val_0 n r0) (fun x => x.1.length + x.2.1.toNat ≤ 3 ∧ 0 ≤ x.2.2 - r1 ∧ x.2.2 - r1 + x.2.1.toNat ≤ 6) (fun r => r.1.length ≤ 4 ∧ 0 ≤ r.2 - r1 ∧ r.2 - r1 ≤ 6) (fun x => x.2.1.toNat) ?_ _ ⟨by simp; omega,by simp; omega,by simp; omega⟩
  rintro ⟨l,k,p⟩ ⟨i1,i2,i3⟩
  simp only at i1 i2 i3
  by_cases hk:k > 0
  ·refine .inl ⟨(l ++ [g_pick r0 p 12],k - 1,p + 1),?_,?_,?_⟩
   ·simp only [g_Ss_l20Val_0,RT.sel,hk,decide_true,cond_true]
    rw [pickA_f' r0 p 12 (by omega) (by omega) hr,cond_true,decide_eq_true (by simp only [List.length_cons,List.length_nil]; omega),cond_true,wrap64 (by omega),wrapL (by omega)]
   ·simp only [List.length_append,List.length_cons,List.length_nil]
    omega
   ·simp only; omega
  ·refine .inr ⟨(l,p),?_,?_⟩
   ·simp only [g_Ss_l20Val_0,RT.sel,hk,decide_false,cond_true,cond_false]
   ·simp only; omega
 obtain ⟨⟨l,p⟩,e,b1,b2,b3⟩ := L
 simp only at b1 b2 b3
 have s2:∀ i,i < 4 → (at_ (.sl 3 (.int .i64)) [[],[-1],[10000],[1,2,3,4]] i).length ≤ 4 := fun i hi => at_all (e := .sl 3 (.int .i64)) (P := fun x:List Int => x.length ≤ 4) (by intro x hx; simp at hx; rcases hx with rfl | rfl | rfl | rfl <;> decide) hi
 refine ⟨?_,?_,?_⟩
 ·unfold g_As_l20Val
  simp (disch := first | omega | assumption) only [wrapL,e,okO,valO,Option.isSome_some,Option.getD_some,pickA_f',oddA_f',oddP_f,pickD_f,pickN_f,Bool.true_and,Bool.and_true,Bool.or_true]
 ·unfold valD g_Vs_l20Val_2
  simp (disch := first | omega | assumption) only [wrapL,e,valO,Option.getD_some,oddP_f]
  generalize g_Vs_l20Rd_odd_0 r0 _ n = b
  cases b <;> simp only [cond_true,cond_false] <;> omega
 ·unfold g_Vs_l20Val_0
  simp (disch := first | omega | assumption) only [wrapL,e,valO,Option.getD_some,oddP_f]
  generalize g_Vs_l20Rd_odd_0 r0 _ n = b
  cases b
  ·exact b1
  ·rw [cond_true]
   have p6 := pick_f r0 (p + oddD n % 2) 4 (by omega) (by omega) hr
   exact s2 _ (by omega)
noncomputable def writeD (r0:List Int) (r1 n:Int):Int := g_Vs_l20Write_4 r0 r1 n - r1
theorem write_f (r0:List Int) (r1 n:Int) (h:0 ≤ r1 ∧ r1 ≤ 99900) (hr:RdOk r0):g_As_l20Write r0 r1 n = true ∧ g_Vs_l20Write_4 r0 r1 n = r1 + writeD r0 r1 n % 32 ∧ (g_Vs_l20Write_0 r0 r1 n).size ≤ 4 ∧ (g_Vs_l20Write_2 r0 r1 n).length ≤ 4 := by
 obtain ⟨k1,k2,k3⟩ := key_f r0 r1 n (by omega) hr
 have p3 := pick_f r0 (r1 + keyD r0 r1 n % 8) 3 (by omega) (by omega) hr
 obtain ⟨v1,v2,v3⟩ := val_f r0 (r1 + keyD r0 r1 n % 8 + 1) n (by omega) hr
 refine ⟨?_,?_,?_,?_⟩
 ·unfold g_As_l20Write
  simp (disch := first | omega | assumption) only [k1,k2,v1,wrapL,pickA_f',oddA_f',Bool.true_and,Bool.cond_self]
 ·unfold writeD g_Vs_l20Write_4
  simp (disch := first | omega | assumption) only [k2,v2,wrapL,oddP_f,Bool.cond_self]
  cases (g_pick r0 (r1 + keyD r0 r1 n % 8) 3 == 0) <;> simp only [cond_true,cond_false] <;> omega
 ·unfold g_Vs_l20Write_0
  simp only [Bool.cond_self]
  exact k3
 ·unfold g_Vs_l20Write_2
  simp (disch := first | omega | assumption) only [k2,wrapL]
  cases (g_pick r0 (r1 + keyD r0 r1 n % 8) 3 == 0)
  ·exact v3
  ·rw [cond_true]
   generalize g_Vs_l20Rd_odd_0 r0 _ n = b
   cases b <;> decide
theorem capD_f (a b k:Nat) (h:a + b ≤ 100000) (hk:k ≤ 1000):decide ((a + b) * k ≤ nat_lit 140737488355328 ∧ a + b ≤ nat_lit 9223372036854775807) = true := by
 refine decide_eq_true ⟨Nat.le_trans (Nat.mul_le_mul h hk) (by decide),by show a + b ≤ 9223372036854775807; omega⟩
def smallW (w:ByteArray×Bool×List Int):Prop := w.1.size ≤ 4 ∧ w.2.2.length ≤ 4
noncomputable def writesD (r0:List Int) (r1 n:Int):Int := g_Vs_l20Writes_2 r0 r1 n - r1
theorem writes_f (r0:List Int) (r1 n:Int) (h:0 ≤ r1 ∧ r1 ≤ 99000) (hr:RdOk r0):g_As_l20Writes r0 r1 n = true ∧ g_Vs_l20Writes_2 r0 r1 n = r1 + writesD r0 r1 n % 256 ∧ (g_Vs_l20Writes_0 r0 r1 n).length ≤ 6 ∧ ∀ w ∈ g_Vs_l20Writes_0 r0 r1 n,smallW w := by
 have p6 := pick_f r0 r1 6 (by omega) (by omega) hr
 have L:∃ r,g_Ls_l20Writes_0 n r0 ([],g_pick r0 r1 6,r1 + 1) = some r ∧ r.1.length ≤ 5 ∧ (∀ w ∈ r.1,smallW w) ∧ 0 ≤ r.2 - r1 ∧ r.2 - r1 ≤ 156 := by
  refine loop_inv (step := g_Ss_l20Writes_0 n r0) (fun x => x.1.length + x.2.1.toNat ≤ 5 ∧ (∀ w ∈ x.1,smallW w) ∧ 0 ≤ x.2.2 - r1 ∧ x.2.2 - r1 + 31 * x.2.1.toNat ≤ 156) (fun r => r.1.length ≤ 5 ∧ (∀ w ∈ r.1,smallW w) ∧ 0 ≤ r.2 - r1 ∧ r.2 - r1 ≤ 156) (fun x => x.2.1.toNat) ?_ _ ⟨by simp; omega,by simp,by simp; omega,by simp; omega⟩
  rintro ⟨l,k,p⟩ ⟨i1,i2,i3,i4⟩
  simp only at i1 i2 i3 i4
  by_cases hk:k > 0
  ·obtain ⟨w1,w2,w3,w4⟩ := write_f r0 p 0 (by omega) hr
   refine .inl ⟨(l ++ [(g_Vs_l20Write_0 r0 p 0,g_Vs_l20Write_1 r0 p 0,g_Vs_l20Write_2 r0 p 0)],k - 1,p + writeD r0 p 0 % 32),?_,?_,?_⟩
   ·simp only [g_Ss_l20Writes_0,RT.sel,hk,decide_true,cond_true,w1,w2]
    rw [capD_f _ _ _ (by simp only [List.length_cons,List.length_nil]; omega) (by decide),cond_true,wrap64 (by omega)]
   ·refine ⟨by simp only [List.length_append,List.length_cons,List.length_nil]; omega,?_,by simp only; omega,by simp only; omega⟩
    intro w hw
    simp only [List.mem_append,List.mem_cons,List.not_mem_nil,or_false] at hw
    rcases hw with hw | rfl
    ·exact i2 w hw
    ·exact ⟨w3,w4⟩
   ·simp only; omega
  ·refine .inr ⟨(l,p),?_,?_⟩
   ·simp only [g_Ss_l20Writes_0,RT.sel,hk,decide_false,cond_true,cond_false]
   ·exact ⟨by simp only; omega,i2,by simp only; omega,by simp only; omega⟩
 obtain ⟨⟨l,p⟩,e,b1,b2,b3,b4⟩ := L
 simp only at b1 b2 b3 b4
 obtain ⟨w1,w2,w3,w4⟩ := write_f r0 (p + oddD n % 2) 2 (by omega) hr
 refine ⟨?_,?_,?_,?_⟩
 ·unfold g_As_l20Writes
  simp (disch := first | omega | assumption) only [wrapL,e,okO,valO,Option.isSome_some,Option.getD_some,pickA_f',oddA_f',oddP_f,w1,Bool.true_and]
  rw [capD_f _ _ _ (by simp only [List.length_cons,List.length_nil]; omega) (by decide),Bool.or_true]
 ·unfold writesD g_Vs_l20Writes_2
  simp (disch := first | omega | assumption) only [wrapL,e,valO,Option.getD_some,oddP_f,w2]
  generalize g_Vs_l20Rd_odd_0 r0 _ n = b
  cases b <;> simp only [cond_true,cond_false] <;> omega
 ·unfold g_Vs_l20Writes_0
  simp (disch := first | omega | assumption) only [wrapL,e,valO,Option.getD_some,oddP_f]
  generalize g_Vs_l20Rd_odd_0 r0 _ n = b
  cases b
  ·rw [cond_false]; omega
  ·rw [cond_true,List.length_append,List.length_cons,List.length_nil]; omega
 ·unfold g_Vs_l20Writes_0
  simp (disch := first | omega | assumption) only [wrapL,e,valO,Option.getD_some,oddP_f]
  generalize g_Vs_l20Rd_odd_0 r0 _ n = b
  cases b
  ·exact b2
  ·rw [cond_true]
   intro w hw
   simp only [List.mem_append,List.mem_cons,List.not_mem_nil,or_false] at hw
   rcases hw with hw | rfl
   ·exact b2 w hw
   ·exact ⟨w3,w4⟩
def hasP (ls:List ByteArray) (s:ByteArray):Bool := ls.any fun x => x.toList == s.toList
def noteP (k t:Int) (ls:List ByteArray) (ws:List (ByteArray×Bool×List Int)):Bool :=
 decide (1 ≤ k ∧ k ≤ 4)&&(decide (0 ≤ t ∧ t ≤ 29)&&(decide (ls.length ≤ 12)&&(decide (ws.length ≤ 12)&&(ls.all keyP&&(ws.all (fun w => wrtP w.1 w.2.1 w.2.2&&hasP ls w.1)&&(decide (k = 1) || (ls.isEmpty&&ws.isEmpty)))))))
theorem isTx_f (n:Int):g_Ai_isTx n = true ∧ g_Vi_isTx_0 n = decide (0 ≤ n ∧ n ≤ 29) := i_in_f n 0 29
theorem beq_comm' (a b:List UInt8):(a == b) = (b == a) := by
 rw [Bool.eq_iff_iff,beq_iff_eq,beq_iff_eq]
 exact eq_comm
theorem containsS_f (ls:List ByteArray) (s:ByteArray) (hl:ls.length ≤ 1048576):g_Aslices_Contains_string_string ls s = true ∧ g_Vslices_Contains_string_string_0 ls s = hasP ls s := by
 obtain ⟨r,h1,h2⟩ := loop_idx (e := .str) ls (step := g_Sslices_Index_string_string_0 ls s (ls.length:Int)) (fun x => x.toList == s.toList) (fun i hi => by
  have h1:(i:Int) < ls.length := by omega
  have h2:(0:Int) ≤ (i:Int) := by omega
  have hw:IntKind.wrap .i64 ((i:Int) + 1) = ((i + 1:Nat):Int) := by rw [wrap64 (by omega)]; omega
  simp only [g_Sslices_Index_string_string_0,RT.sel,cond_true,h1,h2,hw,decide_true,and_self,Int.toNat_natCast,beq_comm' s.toList]) (by simp [g_Sslices_Index_string_string_0,RT.sel])
 have h1:g_Lslices_Index_string_string_0 ls s (ls.length:Int) 0 = some r := h1
 constructor
 ·simp [g_Aslices_Contains_string_string,g_Aslices_Index_string_string,h1,okO]
 ·simp only [g_Vslices_Contains_string_string_0,g_Vslices_Index_string_string_0,h1,valO,Option.getD_some,h2,hasP]
theorem l2Has_f (ls:List ByteArray) (s:ByteArray) (hl:ls.length ≤ 1048576):g_As_l2Has ls s = true ∧ g_Vs_l2Has_0 ls s = hasP ls s := by
 have h:g_Ls_l2Has_0 ls s 0 = some (bif ls.all (fun x => !(x.toList == s.toList)) then .inr () else .inl true) := by
  refine loop_list (ρ := Bool ⊕ Unit) (e := .str) ls (fun i:Nat => (i:Int)) (fun x => !(x.toList == s.toList)) (Sum.inl true) (Sum.inr ()) (fun i hi => ?_) ?_
  ·have h1:(i:Int) < ls.length := by omega
   have h2:(0:Int) ≤ (i:Int) := by omega
   have hw:IntKind.wrap .i64 ((i:Int) + 1) = ((i + 1:Nat):Int) := by rw [wrap64 (by omega)]; omega
   simp only [g_Ss_l2Has_0,RT.sel,cond_true,h1,h2,hw,decide_true,and_self,Int.toNat_natCast]
   cases (at_ .str ls i).toList == s.toList <;> rfl
  ·simp [g_Ss_l2Has_0,RT.sel]
 constructor
 ·simp [g_As_l2Has,h,okO]
 ·simp only [g_Vs_l2Has_0,h,valO,Option.getD_some,hasP,List.any_eq_not_all_not]
  cases ls.all (fun x => !(x.toList == s.toList)) <;> rfl
theorem anyKey_f (ls:List ByteArray) (hl:ls.length ≤ 1048576):g_Aslices_ContainsFunc_string_string__i_NoteOk_1 ls = true ∧ g_Vslices_ContainsFunc_string_string__i_NoteOk_1_0 ls = !ls.all keyP := by
 obtain ⟨r,h1,h2⟩ := loop_idx (e := .str) ls (step := g_Sslices_IndexFunc_string_string__i_NoteOk_1_0 ls (ls.length:Int)) (fun x => !keyP x) (fun i hi => by
  have h1:(i:Int) < ls.length := by omega
  have h2:(0:Int) ≤ (i:Int) := by omega
  have hw:IntKind.wrap .i64 ((i:Int) + 1) = ((i + 1:Nat):Int) := by rw [wrap64 (by omega)]; omega
  simp only [g_Sslices_IndexFunc_string_string__i_NoteOk_1_0,RT.sel,cond_true,h1,h2,hw,decide_true,and_self,Int.toNat_natCast,g_Ai_NoteOk_1,(i_keyOk_f _).1,(i_keyOk_f _).2]) (by simp [g_Sslices_IndexFunc_string_string__i_NoteOk_1_0,RT.sel])
 have h1:g_Lslices_IndexFunc_string_string__i_NoteOk_1_0 ls (ls.length:Int) 0 = some r := h1
 constructor
 ·simp [g_Aslices_ContainsFunc_string_string__i_NoteOk_1,g_Aslices_IndexFunc_string_string__i_NoteOk_1,h1,okO]
 ·simp only [g_Vslices_ContainsFunc_string_string__i_NoteOk_1_0,g_Vslices_IndexFunc_string_string__i_NoteOk_1_0,h1,valO,Option.getD_some,h2,List.not_all_eq_any_not]
theorem anyWrite_f (ws:List (ByteArray×Bool×List Int)) (c:Int×Int×List ByteArray×List (ByteArray×Bool×List Int)) (hl:ws.length ≤ 1048576) (hit:∀ w ∈ ws,w.2.2.length ≤ 1048576) (hc:c.2.2.1.length ≤ 1048576) :
  g_Aslices_ContainsFunc_i_StoWrite_i_StoWrite__i_NoteOk_2 ws c = true ∧ g_Vslices_ContainsFunc_i_StoWrite_i_StoWrite__i_NoteOk_2_0 ws c = !ws.all (fun w => wrtP w.1 w.2.1 w.2.2&&hasP c.2.2.1 w.1) := by
 obtain ⟨r,h1,h2⟩ := loop_idx (e := .pair .str (.pair .bool (.sl 3 (.int .i64)))) ws (step := g_Sslices_IndexFunc_i_StoWrite_i_StoWrite__i_NoteOk_2_0 ws c (ws.length:Int)) (fun w => !(wrtP w.1 w.2.1 w.2.2&&hasP c.2.2.1 w.1)) (fun i hi => by
  have h1:(i:Int) < ws.length := by omega
  have h2:(0:Int) ≤ (i:Int) := by omega
  have hw:IntKind.wrap .i64 ((i:Int) + 1) = ((i + 1:Nat):Int) := by rw [wrap64 (by omega)]; omega
  obtain ⟨q1,q2⟩ := i_WrtOk_f (at_ (.pair .str (.pair .bool (.sl 3 (.int .i64)))) ws i).1 (at_ (.pair .str (.pair .bool (.sl 3 (.int .i64)))) ws i).2.1 _ (hit _ (at_mem (e := .pair .str (.pair .bool (.sl 3 (.int .i64)))) hi))
  simp only [g_Sslices_IndexFunc_i_StoWrite_i_StoWrite__i_NoteOk_2_0,RT.sel,cond_true,h1,h2,hw,decide_true,and_self,Int.toNat_natCast,g_Ai_NoteOk_2,g_Vi_NoteOk_2_0,q1,q2,(containsS_f _ _ hc).1,(containsS_f _ _ hc).2,Bool.or_true,Bool.and_true]
  generalize wrtP _ _ _ = p
  generalize hasP _ _ = q
  cases p <;> cases q <;> rfl) (by simp [g_Sslices_IndexFunc_i_StoWrite_i_StoWrite__i_NoteOk_2_0,RT.sel])
 have h1:g_Lslices_IndexFunc_i_StoWrite_i_StoWrite__i_NoteOk_2_0 ws c (ws.length:Int) 0 = some r := h1
 constructor
 ·simp [g_Aslices_ContainsFunc_i_StoWrite_i_StoWrite__i_NoteOk_2,g_Aslices_IndexFunc_i_StoWrite_i_StoWrite__i_NoteOk_2,h1,okO]
 ·simp only [g_Vslices_ContainsFunc_i_StoWrite_i_StoWrite__i_NoteOk_2_0,g_Vslices_IndexFunc_i_StoWrite_i_StoWrite__i_NoteOk_2_0,h1,valO,Option.getD_some,h2,List.not_all_eq_any_not]
theorem i_NoteOk_f (k t:Int) (ls:List ByteArray) (ws:List (ByteArray×Bool×List Int)) (h1:ls.length ≤ 1048576) (h2:ws.length ≤ 1048576) (h3:∀ w ∈ ws,w.2.2.length ≤ 1048576):g_Ai_NoteOk k t ls ws = true ∧ g_Vi_NoteOk_0 k t ls ws = noteP k t ls ws := by
 obtain ⟨a1,a2⟩ := anyKey_f ls h1
 obtain ⟨b1,b2⟩ := anyWrite_f ws (k,t,ls,ws) h2 h3 h1
 constructor
 ·simp [g_Ai_NoteOk,(isTx_f _).1,(i_in_f _ _ _).1,a1,b1]
 ·simp only [g_Vi_NoteOk_0,(isTx_f _).2,(i_in_f _ _ _).2,a2,b2,noteP]
  by_cases e1:k = 1
  ·subst e1
   have e2:decide ((ls.length:Int) > 12) = !decide (ls.length ≤ 12) := by rw [Bool.eq_iff_iff]; simp; omega
   have e3:decide ((ws.length:Int) > 12) = !decide (ws.length ≤ 12) := by rw [Bool.eq_iff_iff]; simp; omega
   simp only [e2,e3]
   generalize decide (0 ≤ t ∧ t ≤ 29) = p1
   generalize decide (ls.length ≤ 12) = p2
   generalize decide (ws.length ≤ 12) = p3
   generalize ls.all keyP = p4
   generalize ws.all _ = p5
   cases p1 <;> cases p2 <;> cases p3 <;> cases p4 <;> cases p5 <;> rfl
  ·have e4:(k != 1) = true := by simpa using e1
   have e5:decide (k = 1) = false := by simpa using e1
   simp only [e4,e5,cond_true,Bool.false_or]
   cases ls with
   | nil =>
    cases ws with
    | nil =>
     generalize decide (0 ≤ t ∧ t ≤ 29) = p1
     generalize decide (1 ≤ k ∧ k ≤ 4) = p2
     cases p1 <;> cases p2 <;> rfl
    | cons w ws =>
     have e6:(((w :: ws).length:Int) == 0) = false := by simp; omega
     simp only [e6,List.isEmpty_cons,Bool.and_false]
     cases decide (0 ≤ t ∧ t ≤ 29) <;> cases decide (1 ≤ k ∧ k ≤ 4) <;> simp
   | cons l ls =>
    have e6:(((l :: ls).length:Int) == 0) = false := by simp; omega
    simp only [e6,List.isEmpty_cons,Bool.and_false,Bool.false_and]
    cases decide (0 ≤ t ∧ t ≤ 29) <;> cases decide (1 ≤ k ∧ k ≤ 4) <;> simp
theorem s_NoteOk_f (k t:Int) (ls:List ByteArray) (ws:List (ByteArray×Bool×List Int)) (h1:ls.length ≤ 1048576) (h2:ws.length ≤ 1048576) (h3:∀ w ∈ ws,w.2.2.length ≤ 1048576):g_As_NoteOk k t ls ws = true ∧ g_Vs_NoteOk_0 k t ls ws = noteP k t ls ws := by
 have l0:g_Ls_NoteOk_0 k t ls ws 0 = some (bif ls.all keyP then .inr () else .inl false) := by
  refine loop_list (ρ := Bool ⊕ Unit) (e := .str) ls (fun i:Nat => (i:Int)) keyP (Sum.inl false) (Sum.inr ()) (fun i hi => ?_) ?_
  ·have k1:(i:Int) < ls.length := by omega
   have k2:(0:Int) ≤ (i:Int) := by omega
   have hw:IntKind.wrap .i64 ((i:Int) + 1) = ((i + 1:Nat):Int) := by rw [wrap64 (by omega)]; omega
   simp only [g_Ss_NoteOk_0,RT.sel,cond_true,k1,k2,hw,decide_true,and_self,Int.toNat_natCast,(s_l1Key_f _).1,(s_l1Key_f _).2]
   cases keyP (at_ .str ls i) <;> rfl
  ·simp [g_Ss_NoteOk_0,RT.sel]
 have l2:g_Ls_NoteOk_2 k t ls ws 0 = some (bif ws.all (fun w => wrtP w.1 w.2.1 w.2.2&&hasP ls w.1) then .inr () else .inl false) := by
  refine loop_list (ρ := Bool ⊕ Unit) (e := .pair .str (.pair .bool (.sl 3 (.int .i64)))) ws (fun i:Nat => (i:Int)) (fun w => wrtP w.1 w.2.1 w.2.2&&hasP ls w.1) (Sum.inl false) (Sum.inr ()) (fun i hi => ?_) ?_
  ·have k1:(i:Int) < ws.length := by omega
   have k2:(0:Int) ≤ (i:Int) := by omega
   have hw:IntKind.wrap .i64 ((i:Int) + 1) = ((i + 1:Nat):Int) := by rw [wrap64 (by omega)]; omega
   obtain ⟨q1,q2⟩ := s_WrtOk_f (at_ (.pair .str (.pair .bool (.sl 3 (.int .i64)))) ws i).1 (at_ (.pair .str (.pair .bool (.sl 3 (.int .i64)))) ws i).2.1 _ (h3 _ (at_mem (e := .pair .str (.pair .bool (.sl 3 (.int .i64)))) hi))
   simp only [g_Ss_NoteOk_2,RT.sel,cond_true,k1,k2,hw,decide_true,and_self,Int.toNat_natCast,q1,q2,(l2Has_f _ _ h1).1,(l2Has_f _ _ h1).2]
   generalize wrtP _ _ _ = p
   generalize hasP _ _ = q
   cases p <;> cases q <;> rfl
  ·simp [g_Ss_NoteOk_2,RT.sel]
 have e2:decide ((ls.length:Int) > 12) = !decide (ls.length ≤ 12) := by rw [Bool.eq_iff_iff]; simp; omega
 have e3:decide ((ws.length:Int) > 12) = !decide (ws.length ≤ 12) := by rw [Bool.eq_iff_iff]; simp; omega
 have e4:(k == 1) = decide (k = 1) := rfl
 have e5:(IntKind.wrap .i64 ((ls.length:Int) + (ws.length:Int)) == 0) = (ls.isEmpty&&ws.isEmpty) := by
  rw [wrap64 (by omega)]
  cases ls <;> cases ws <;> simp <;> omega
 constructor
 ·simp [g_As_NoteOk,(s_l1In_f _ _ _).1,l0,l2,okO]
 ·simp only [g_Vs_NoteOk_0,(s_l1In_f _ _ _).2,l0,l2,valO,Option.getD_some,noteP,e2,e3,e4,e5]
  generalize decide (1 ≤ k ∧ k ≤ 4) = p0
  generalize decide (0 ≤ t ∧ t ≤ 29) = p1
  generalize decide (ls.length ≤ 12) = p2
  generalize decide (ws.length ≤ 12) = p3
  generalize ls.all keyP = p4
  generalize ws.all _ = p5
  generalize decide (k = 1) = p6
  generalize (ls.isEmpty&&ws.isEmpty) = p7
  cases p0 <;> cases p1 <;> cases p2 <;> cases p3 <;> cases p4 <;> cases p5 <;> cases p6 <;> cases p7 <;> rfl
theorem noteLoop_f (a b c:Int) (d:List ByteArray) (e:List (ByteArray×Bool×List Int)) (f g:Int) (ws:List (ByteArray×Bool×List Int)) (h:List Int) (i:Int) (hw:ws.length ≤ 1000) :
  g_Ls_l20Note_0 a b c d e f g ws h i (0,[]) = some (ws.map (·.1)) := by
 obtain ⟨r,h1,h2⟩ := loop_inv (step := g_Ss_l20Note_0 a b c d e f g ws h i) (fun x => 0 ≤ x.1 ∧ x.1.toNat ≤ ws.length ∧ x.2 = (ws.take x.1.toNat).map (·.1)) (fun r => r = ws.map (·.1)) (fun x => ws.length - x.1.toNat) (fun x hx => by
  obtain ⟨k,l⟩ := x
  obtain ⟨i1,i2,i3⟩ := hx
  simp only at i1 i2 i3
  by_cases hk:k < (ws.length:Int)
  ·have hn:k.toNat < ws.length := by omega
   have hl:l.length = k.toNat := by rw [i3,List.length_map,List.length_take]; omega
   refine .inl ⟨(k + 1,l ++ [ws[k.toNat].1]),?_,?_,?_⟩
   ·simp only [g_Ss_l20Note_0,RT.sel,hk,decide_true,cond_true,i1,and_self,hn]
    rw [capD_f _ _ _ (by simp only [List.length_cons,List.length_nil]; omega) (by decide),cond_true,wrap64 (by omega),at_eq hn]
   ·refine ⟨by simp only; omega,by simp only; omega,?_⟩
    simp only
    rw [i3,show (k + 1).toNat = k.toNat + 1 by omega,List.take_succ_eq_append_getElem hn,List.map_append]
    rfl
   ·simp only; omega
  ·refine .inr ⟨l,?_,?_⟩
   ·simp only [g_Ss_l20Note_0,RT.sel,hk,decide_false,cond_true,cond_false]
   ·rw [i3,List.take_of_length_le (by omega)]) (0,[]) ⟨by simp,by simp,by simp⟩
 rw [← h2]
 exact h1
noncomputable def noteD (r0:List Int) (r1 n:Int):Int := g_Vs_l20Note_5 r0 r1 n - r1
theorem noteA_f (r0:List Int) (r1 n:Int) (h:0 ≤ r1 ∧ r1 ≤ 98000) (hr:RdOk r0):g_As_l20Note r0 r1 n = true := by
 obtain ⟨w1,w2,w3,w4⟩ := writes_f r0 (r1 + 1 + 1) 0 (by omega) hr
 unfold g_As_l20Note
 simp (disch := first | omega | assumption) only [wrapL,pickA_f',oddA_f',pickD_f,pickN_f,Bool.true_and,w1,w2,noteLoop_f,okO,valO,Option.isSome_some,Option.getD_some,oddP_f,key_f,write_f,capD_f,List.length_map,List.length_append,List.length_cons,List.length_nil,Bool.and_true,Bool.or_true,Bool.cond_self]
theorem noteP_f (r0:List Int) (r1 n:Int) (h:0 ≤ r1 ∧ r1 ≤ 98000) (hr:RdOk r0):g_Vs_l20Note_5 r0 r1 n = r1 + noteD r0 r1 n % 1024 := by
 obtain ⟨w1,w2,w3,w4⟩ := writes_f r0 (r1 + 1 + 1) 0 (by omega) hr
 unfold noteD g_Vs_l20Note_5
 simp (disch := first | omega | assumption) only [wrapL,w2,oddP_f,key_f,write_f,Bool.cond_self]
 simp only [Bool.cond_eq_ite]
 repeat' split
 all_goals omega
theorem smallW_one (k:ByteArray) (d:Bool) (l:List Int) (hk:k.size ≤ 4) (hl:l.length ≤ 4) (ws:List (ByteArray×Bool×List Int)) (h:∀ w ∈ ws,smallW w):∀ w ∈ ws ++ [(k,d,l)],smallW w := by
 intro w hw
 simp only [List.mem_append,List.mem_cons,List.not_mem_nil,or_false] at hw
 rcases hw with hw | rfl
 ·exact h w hw
 ·exact ⟨hk,hl⟩
theorem noteS_f (r0:List Int) (r1 n:Int) (h:0 ≤ r1 ∧ r1 ≤ 98000) (hr:RdOk r0):(g_Vs_l20Note_2 r0 r1 n).length ≤ 8 ∧ (g_Vs_l20Note_3 r0 r1 n).length ≤ 7 ∧ ∀ w ∈ g_Vs_l20Note_3 r0 r1 n,smallW w := by
 obtain ⟨w1,w2,w3,w4⟩ := writes_f r0 (r1 + 1 + 1) 0 (by omega) hr
 refine ⟨?_,?_,?_⟩
 ·unfold g_Vs_l20Note_2
  simp (disch := first | omega | assumption) only [wrapL,w2,oddP_f,key_f,write_f,Bool.cond_self,noteLoop_f,valO,Option.getD_some]
  simp only [Bool.cond_eq_ite]
  repeat' split
  all_goals try simp only [List.length_append,List.length_map,List.length_cons,List.length_nil]
  all_goals omega
 ·unfold g_Vs_l20Note_3
  simp (disch := first | omega | assumption) only [wrapL,w2,oddP_f,key_f,write_f,Bool.cond_self,noteLoop_f,valO,Option.getD_some]
  simp only [Bool.cond_eq_ite]
  repeat' split
  all_goals try simp only [List.length_append,List.length_map,List.length_cons,List.length_nil]
  all_goals omega
 ·unfold g_Vs_l20Note_3
  simp (disch := first | omega | assumption) only [wrapL,w2,oddP_f,key_f,write_f,Bool.cond_self,noteLoop_f,valO,Option.getD_some]
  have nil:∀ w ∈ ([]:List (ByteArray×Bool×List Int)),smallW w := by simp
  simp only [Bool.cond_eq_ite]
  repeat' split
  all_goals first
   | exact w4
   | exact nil
   | exact smallW_one _ _ _ (by decide) (by decide) _ w4
   | exact smallW_one _ _ _ (by decide) (by decide) _ nil
   | exact smallW_one _ _ _ (write_f _ _ _ (by omega) hr).2.2.1 (write_f _ _ _ (by omega) hr).2.2.2 _ w4
   | exact smallW_one _ _ _ (write_f _ _ _ (by omega) hr).2.2.1 (write_f _ _ _ (by omega) hr).2.2.2 _ nil
theorem capF_f (a b k:Nat) (h:a + b ≤ 2200000) (hk:k ≤ 1000):decide ((a + b) * k ≤ nat_lit 140737488355328 ∧ a + b ≤ nat_lit 9223372036854775807) = true := by
 have:(a + b) * k ≤ 2200000 * 1000 := Nat.mul_le_mul h hk
 exact decide_eq_true ⟨Nat.le_trans this (by decide),Nat.le_trans h (by decide)⟩
theorem cap0_f (b k:Nat) (h:b ≤ 1048576) (hk:k ≤ 1000):decide ((nat_lit 0 + b) * k ≤ nat_lit 140737488355328 ∧ nat_lit 0 + b ≤ nat_lit 9223372036854775807) = true := capF_f 0 b k (by omega) hk
theorem loop_app {e:Ty} {σ ρ β:Type} {step:σ → RT σ ρ} (l:List e.den) (mk:Int → List β → σ) (g:e.den → β) (out:List β → ρ)
  (h1:∀ (i:Nat) (r:List β),i < l.length → r.length = i → (step (mk (i:Int) r)).sel = .go (mk ((i + 1:Nat):Int) (r ++ [g (at_ e l i)])))
  (h2:∀ r:List β,r.length = l.length → (step (mk (l.length:Int) r)).sel = .out (out r)):loopO step (mk 0 []) = some (out (l.map g)) := by
 have key:∀ (k i:Nat) (r:List β),i + k = l.length → r = (l.take i).map g → loopO step (mk (i:Int) r) = some (out (l.map g)) := by
  intro k
  induction k with
  | zero =>
   intro i r hi hr
   have hi:i = l.length := by omega
   subst hi
   rw [List.take_length] at hr
   rw [loopO_eq,h2 r (by rw [hr,List.length_map]),hr]
  | succ k ih =>
   intro i r hi hr
   have hil:i < l.length := by omega
   rw [loopO_eq,h1 i r hil (by rw [hr,List.length_map,List.length_take]; omega)]
   simp only
   refine ih (i + 1) _ (by omega) ?_
   rw [hr,at_eq hil,List.take_succ_eq_append_getElem hil,List.map_append]
   rfl
 exact key l.length 0 [] (by omega) (by simp)
abbrev Note:Type := Int×Int×List ByteArray×List (ByteArray×Bool×List Int)
abbrev NI_:Ty := .pair (.int .i64) (.pair (.int .i64) (.pair (.sl 9 .str) (.sl 76 (.pair .str (.pair .bool (.sl 3 (.int .i64)))))))
def smallN (x:Note):Prop := x.2.2.1.length ≤ 1048576 ∧ x.2.2.2.length ≤ 1048576 ∧ ∀ w ∈ x.2.2.2,w.2.2.length ≤ 1048576
def noteQ (x:Note):Bool := noteP x.1 x.2.1 x.2.2.1 x.2.2.2
def diskP (d:List Note) (safe:Int):Bool := decide (d.length ≤ 120)&&(decide (0 ≤ safe ∧ safe ≤ (d.length:Int))&&d.all noteQ)
theorem s_DiskOk_f (l:List Note) (safe:Int) (hl:l.length ≤ 1048576) (hit:∀ x ∈ l,smallN x):g_As_DiskOk l safe = true ∧ g_Vs_DiskOk_0 l safe = diskP l safe := by
 have h:g_Ls_DiskOk_0 l safe 0 = some (bif l.all noteQ then .inr () else .inl false) := by
  refine loop_list (ρ := Bool ⊕ Unit) (e := NI_) l (fun i:Nat => (i:Int)) noteQ (Sum.inl false) (Sum.inr ()) (fun i hi => ?_) ?_
  ·have k1:(i:Int) < l.length := by omega
   have k2:(0:Int) ≤ (i:Int) := by omega
   have hw:IntKind.wrap .i64 ((i:Int) + 1) = ((i + 1:Nat):Int) := by rw [wrap64 (by omega)]; omega
   have hh := hit _ (at_mem (e := NI_) hi)
   obtain ⟨q1,q2⟩ := s_NoteOk_f (at_ NI_ l i).1 (at_ NI_ l i).2.1 (at_ NI_ l i).2.2.1 (at_ NI_ l i).2.2.2 hh.1 hh.2.1 hh.2.2
   have q2:g_Vs_NoteOk_0 (at_ NI_ l i).1 (at_ NI_ l i).2.1 (at_ NI_ l i).2.2.1 (at_ NI_ l i).2.2.2 = noteQ (at_ NI_ l i) := q2
   simp only [g_Ss_DiskOk_0,RT.sel,cond_true,k1,k2,hw,decide_true,and_self,Int.toNat_natCast,q1,q2]
   generalize noteQ _ = p
   cases p <;> rfl
  ·simp [g_Ss_DiskOk_0,RT.sel]
 have e2:decide ((l.length:Int) > 120) = !decide (l.length ≤ 120) := by rw [Bool.eq_iff_iff]; simp; omega
 constructor
 ·simp [g_As_DiskOk,h,okO,(s_l1In_f _ _ _).1]
 ·simp only [g_Vs_DiskOk_0,h,valO,Option.getD_some,e2,(s_l1In_f _ _ _).2,diskP]
  generalize l.all noteQ = p
  generalize decide (l.length ≤ 120) = q
  generalize decide (0 ≤ safe ∧ safe ≤ (l.length:Int)) = r
  cases p <;> cases q <;> cases r <;> rfl
theorem i_DiskOk_f (l:List Note) (safe:Int) (hl:l.length ≤ 1048576) (hit:∀ x ∈ l,smallN x):g_Ai_DiskOk l safe = true ∧ g_Vi_DiskOk_0 l safe = diskP l safe := by
 obtain ⟨r,h1,h2⟩ := loop_idx (e := NI_) l (step := g_Sslices_IndexFunc_i_LogNote_i_LogNote__i_DiskOk_1_0 l (l.length:Int)) (fun x => !noteQ x) (fun i hi => by
  have h1:(i:Int) < l.length := by omega
  have h2:(0:Int) ≤ (i:Int) := by omega
  have hw:IntKind.wrap .i64 ((i:Int) + 1) = ((i + 1:Nat):Int) := by rw [wrap64 (by omega)]; omega
  have hh := hit _ (at_mem (e := NI_) hi)
  obtain ⟨q1,q2⟩ := i_NoteOk_f (at_ NI_ l i).1 (at_ NI_ l i).2.1 (at_ NI_ l i).2.2.1 (at_ NI_ l i).2.2.2 hh.1 hh.2.1 hh.2.2
  have q2:g_Vi_NoteOk_0 (at_ NI_ l i).1 (at_ NI_ l i).2.1 (at_ NI_ l i).2.2.1 (at_ NI_ l i).2.2.2 = noteQ (at_ NI_ l i) := q2
  simp only [g_Sslices_IndexFunc_i_LogNote_i_LogNote__i_DiskOk_1_0,RT.sel,cond_true,h1,h2,hw,decide_true,and_self,Int.toNat_natCast,g_Ai_DiskOk_1,q1,q2]) (by simp [g_Sslices_IndexFunc_i_LogNote_i_LogNote__i_DiskOk_1_0,RT.sel])
 have h1:g_Lslices_IndexFunc_i_LogNote_i_LogNote__i_DiskOk_1_0 l (l.length:Int) 0 = some r := h1
 have a1:g_Aslices_ContainsFunc_i_LogNote_i_LogNote__i_DiskOk_1 l = true := by simp [g_Aslices_ContainsFunc_i_LogNote_i_LogNote__i_DiskOk_1,g_Aslices_IndexFunc_i_LogNote_i_LogNote__i_DiskOk_1,h1,okO]
 have a2:g_Vslices_ContainsFunc_i_LogNote_i_LogNote__i_DiskOk_1_0 l = !l.all noteQ := by simp only [g_Vslices_ContainsFunc_i_LogNote_i_LogNote__i_DiskOk_1_0,g_Vslices_IndexFunc_i_LogNote_i_LogNote__i_DiskOk_1_0,h1,valO,Option.getD_some,h2,List.not_all_eq_any_not]
 have e2:decide ((l.length:Int) ≤ 120) = decide (l.length ≤ 120) := decide_eq_decide.2 (by omega)
 constructor
 ·simp [g_Ai_DiskOk,a1,(i_in_f _ _ _).1]
 ·simp only [g_Vi_DiskOk_0,a2,e2,(i_in_f _ _ _).2,diskP]
  generalize l.all noteQ = p
  generalize decide (l.length ≤ 120) = q
  generalize decide (0 ≤ safe ∧ safe ≤ (l.length:Int)) = r
  cases p <;> cases q <;> cases r <;> rfl
abbrev WI_:Ty := .pair .str (.pair .bool (.sl 3 (.int .i64)))
theorem s_l2Note_f (k t:Int) (ls:List ByteArray) (ws:List (ByteArray×Bool×List Int)) (h1:ls.length ≤ 1048576) (h2:ws.length ≤ 1048576) (h3:∀ w ∈ ws,w.2.2.length ≤ 1048576):g_As_l2Note k t ls ws = true ∧ g_Vs_l2Note_0 k t ls ws = ls ∧ g_Vs_l2Note_1 k t ls ws = ws := by
 have L:g_Ls_l2Note_0 k t ls ws 0 0 [] [] k t ([] ++ ls) (0,[]) = some (ws.map id) := by
  refine loop_app (e := WI_) (step := g_Ss_l2Note_0 k t ls ws 0 0 [] [] k t ([] ++ ls)) ws (fun i r => (i,r)) id id (fun i r hi hr => ?_) (fun r hr => by simp only [g_Ss_l2Note_0,RT.sel,cond_true,Int.lt_irrefl,decide_false,cond_false,id])
  have k1:(i:Int) < ws.length := by omega
  have k2:(0:Int) ≤ (i:Int) := by omega
  have hx := h3 _ (at_mem (e := WI_) hi)
  simp only [g_Ss_l2Note_0,RT.sel,cond_true,k1,k2,decide_true,and_self,Int.toNat_natCast,List.nil_append,id]
  rw [cap0_f _ _ hx (by decide),capF_f _ _ _ (by simp only [List.length_cons,List.length_nil]; omega) (by decide),cond_true,cond_true,wrap64 (x := (i:Int) + 1) (by omega)]
  rfl
 rw [List.map_id] at L
 unfold g_As_l2Note g_Vs_l2Note_0 g_Vs_l2Note_1
 rw [L,cap0_f _ 16 h1 (by decide)]
 exact ⟨rfl,rfl,rfl⟩
theorem s_l2Copy_f (l:List Note) (safe:Int) (hl:l.length ≤ 1048576) (hit:∀ x ∈ l,smallN x):g_As_l2Copy l safe = true ∧ g_Vs_l2Copy_0 l safe = l := by
 have L:g_Ls_l2Copy_0 l safe 0 [] safe (0,[]) = some (l.map id) := by
  refine loop_app (e := NI_) (step := g_Ss_l2Copy_0 l safe 0 [] safe) l (fun i r => (i,r)) id id (fun i r hi hr => ?_) (fun r hr => by simp only [g_Ss_l2Copy_0,RT.sel,cond_true,Int.lt_irrefl,decide_false,cond_false,id])
  have k1:(i:Int) < l.length := by omega
  have k2:(0:Int) ≤ (i:Int) := by omega
  have hx := hit _ (at_mem (e := NI_) hi)
  obtain ⟨c1,c2,c3⟩ := s_l2Note_f (at_ NI_ l i).1 (at_ NI_ l i).2.1 (at_ NI_ l i).2.2.1 (at_ NI_ l i).2.2.2 hx.1 hx.2.1 hx.2.2
  simp only [g_Ss_l2Copy_0,RT.sel,cond_true,k1,k2,decide_true,and_self,Int.toNat_natCast,c1,c2,c3,id]
  rw [capF_f _ _ _ (by simp only [List.length_cons,List.length_nil]; omega) (by decide),cond_true,wrap64 (x := (i:Int) + 1) (by omega)]
  rfl
 rw [List.map_id] at L
 simp only [g_As_l2Copy,g_Vs_l2Copy_0,L,okO,valO,Option.isSome_some,Option.getD_some,and_self]
def addP_ (l:List Note) (safe:Int) (n:Note) (b:Bool):List Note×Int×Bool :=
 bif diskP l safe&&noteQ n then bif decide (l.length = 120) then (l,safe,false) else (l ++ [n],bif b then (l.length:Int) + 1 else safe,true) else ([],0,false)
theorem len120 (l:List Note):((l.length:Int) == 120) = decide (l.length = 120) := by
 rw [Bool.eq_iff_iff,beq_iff_eq,decide_eq_true_eq]; omega
theorem s_DiskAdd_f (l:List Note) (safe:Int) (n:Note) (b:Bool) (hl:l.length ≤ 1048576) (hit:∀ x ∈ l,smallN x) (hn:smallN n) :
  g_As_DiskAdd l safe n.1 n.2.1 n.2.2.1 n.2.2.2 b = true ∧ g_Vs_DiskAdd_0 l safe n.1 n.2.1 n.2.2.1 n.2.2.2 b = (addP_ l safe n b).1 ∧ g_Vs_DiskAdd_1 l safe n.1 n.2.1 n.2.2.1 n.2.2.2 b = (addP_ l safe n b).2.1 ∧ g_Vs_DiskAdd_2 l safe n.1 n.2.1 n.2.2.1 n.2.2.2 b = (addP_ l safe n b).2.2 := by
 obtain ⟨a1,a2⟩ := s_DiskOk_f l safe hl hit
 obtain ⟨b1,b2⟩ := s_NoteOk_f n.1 n.2.1 n.2.2.1 n.2.2.2 hn.1 hn.2.1 hn.2.2
 obtain ⟨c1,c2⟩ := s_l2Copy_f l safe hl hit
 obtain ⟨d1,d2,d3⟩ := s_l2Note_f n.1 n.2.1 n.2.2.1 n.2.2.2 hn.1 hn.2.1 hn.2.2
 have b2:g_Vs_NoteOk_0 n.1 n.2.1 n.2.2.1 n.2.2.2 = noteQ n := b2
 have e:∀ p:Note,decide ((List.length l + List.length [p]) * nat_lit 64 ≤ nat_lit 140737488355328 ∧ List.length l + List.length [p] ≤ nat_lit 9223372036854775807) = true := fun p => capF_f _ _ _ (by simp only [List.length_cons,List.length_nil]; omega) (by decide)
 simp only [g_As_DiskAdd,g_Vs_DiskAdd_0,g_Vs_DiskAdd_1,g_Vs_DiskAdd_2,a1,a2,b1,b2,c1,c2,d1,d2,d3,len120,addP_,e]
 cases diskP l safe <;> cases noteQ n <;> cases decide (l.length = 120) <;> cases b <;> simp
def tinyN (x:Note):Prop := x.2.2.1.length ≤ 8 ∧ x.2.2.2.length ≤ 7 ∧ ∀ w ∈ x.2.2.2,smallW w
theorem tiny_small {x:Note} (h:tinyN x):smallN x := ⟨by have := h.1; omega,by have := h.2.1; omega,fun w hw => by have := (h.2.2 w hw).2; omega⟩
theorem note_f (r0:List Int) (r1 n:Int) (h:0 ≤ r1 ∧ r1 ≤ 98000) (hr:RdOk r0):tinyN (g_Vs_l20Note_0 r0 r1 n,g_Vs_l20Note_1 r0 r1 n,g_Vs_l20Note_2 r0 r1 n,g_Vs_l20Note_3 r0 r1 n) := noteS_f r0 r1 n h hr
theorem add_small {l:List Note} {safe:Int} {n:Note} {b:Bool} {k:Nat} (h1:l.length ≤ k) (h2:∀ x ∈ l,tinyN x) (h3:tinyN n):(addP_ l safe n b).1.length ≤ k + 1 ∧ ∀ x ∈ (addP_ l safe n b).1,tinyN x := by
 unfold addP_
 cases diskP l safe&&noteQ n
 ·simp
 ·cases decide (l.length = 120)
  ·refine ⟨by simp only [cond_true,cond_false,List.length_append,List.length_cons,List.length_nil]; omega,fun x hx => ?_⟩
   simp only [cond_true,cond_false,List.mem_append,List.mem_singleton] at hx
   rcases hx with hx | rfl
   ·exact h2 x hx
   ·exact h3
  ·exact ⟨by simp only [cond_true]; omega,h2⟩
theorem diskLoop_f (r0:List Int) (r1 n c:Int) (hc:0 ≤ c ∧ c < 10) (h:0 ≤ r1 ∧ r1 ≤ 80001) (hr:RdOk r0) :
  ∃ r,g_Ls_l20Disk_0 n 0 [] r0 (c,0,[],r1) = some r ∧ (r1 ≤ r.2.2 ∧ r.2.2 ≤ r1 + 11000) ∧ r.2.1.length ≤ 10 ∧ ∀ x ∈ r.2.1,tinyN x := by
 refine loop_inv (step := g_Ss_l20Disk_0 n 0 [] r0) (fun x => 0 ≤ x.1 ∧ x.1 ≤ 10 ∧ (r1 ≤ x.2.2.2 ∧ x.2.2.2 ≤ r1 + (10 - x.1) * 1100) ∧ (x.2.2.1.length:Int) ≤ 10 - x.1 ∧ ∀ y ∈ x.2.2.1,tinyN y) _ (fun x => x.1.toNat) ?_ _ ⟨by simp only; omega,by simp only; omega,by simp only; omega,by simp only [List.length_nil]; omega,by simp⟩
 rintro ⟨k,s,l,p⟩ ⟨i1,i2,i3,i4,i5⟩
 simp only at i1 i2 i3 i4 i5
 by_cases hk:k > 0
 ·have hp:0 ≤ p ∧ p ≤ 98000 := by omega
  have a := noteA_f r0 p 0 hp hr
  have b := noteP_f r0 p 0 hp hr
  have t := note_f r0 p 0 hp hr
  have hb:0 ≤ noteD r0 p 0 % 1024 ∧ noteD r0 p 0 % 1024 < 1024 := by omega
  have pa := pickA_f' r0 (g_Vs_l20Note_5 r0 p 0) 2 (by rw [b]; omega) (by decide) hr
  obtain ⟨d1,d2,d3,_⟩ := s_DiskAdd_f l s (g_Vs_l20Note_0 r0 p 0,g_Vs_l20Note_1 r0 p 0,g_Vs_l20Note_2 r0 p 0,g_Vs_l20Note_3 r0 p 0) (g_pick r0 (g_Vs_l20Note_5 r0 p 0) 2 == 0) (by omega) (fun x hx => tiny_small (i5 x hx)) (tiny_small t)
  simp only at d1 d2 d3
  have ad := add_small (safe := s) (b := g_pick r0 (g_Vs_l20Note_5 r0 p 0) 2 == 0) (Nat.le_refl l.length) i5 t
  refine .inl ⟨(k - 1,(addP_ l s (g_Vs_l20Note_0 r0 p 0,g_Vs_l20Note_1 r0 p 0,g_Vs_l20Note_2 r0 p 0,g_Vs_l20Note_3 r0 p 0) (g_pick r0 (g_Vs_l20Note_5 r0 p 0) 2 == 0)).2.1,(addP_ l s (g_Vs_l20Note_0 r0 p 0,g_Vs_l20Note_1 r0 p 0,g_Vs_l20Note_2 r0 p 0,g_Vs_l20Note_3 r0 p 0) (g_pick r0 (g_Vs_l20Note_5 r0 p 0) 2 == 0)).1,g_Vs_l20Note_5 r0 p 0 + 1),?_,?_,?_⟩
  ·simp only [g_Ss_l20Disk_0,RT.sel,hk,decide_true,cond_true,a,pa,d1,d2,d3]
   rw [wrap64 (x := k - 1) (by omega),wrap64 (x := g_Vs_l20Note_5 r0 p 0 + 1) (by rw [b]; omega)]
  ·refine ⟨by simp only; omega,by simp only; omega,by simp only; rw [b]; omega,by simp only; have := ad.1; omega,ad.2⟩
  ·simp only; omega
 ·refine .inr ⟨(s,l,p),?_,?_⟩
  ·simp only [g_Ss_l20Disk_0,RT.sel,hk,decide_false,cond_true,cond_false]
  ·exact ⟨⟨by simp only; omega,by simp only; omega⟩,by simp only; omega,i5⟩
def smallD (l:List Note):Prop := l.length ≤ 125 ∧ ∀ x ∈ l,tinyN x
theorem tiny_no:tinyN ((3:Int),(0:Int),[],[]) := ⟨by simp,by simp,by simp⟩
theorem smallD_one {l:List Note} (h1:l.length ≤ 120) (h2:∀ x ∈ l,tinyN x) {n:Note} (hn:tinyN n):smallD (l ++ [n]) := by
 refine ⟨by rw [List.length_append,List.length_cons,List.length_nil]; omega,fun x hx => ?_⟩
 simp only [List.mem_append,List.mem_cons,List.not_mem_nil,or_false] at hx
 rcases hx with hx | rfl
 ·exact h2 x hx
 ·exact hn
theorem diskLoop3_f (a:Int) (b:List Note) (c:Int) (d:List Int) (e:Int) (l:List Note) (h1:l.length ≤ 120) (h2:∀ x ∈ l,tinyN x):∃ r,g_Ls_l20Disk_3 a b c d e l = some r ∧ smallD r := by
 refine loop_inv (step := g_Ss_l20Disk_3 a b c d e) (fun y => y.length ≤ 121 ∧ ∀ x ∈ y,tinyN x) _ (fun y => 200 - y.length) ?_ _ ⟨by omega,h2⟩
 rintro y ⟨i1,i2⟩
 by_cases hk:(y.length:Int) ≤ 120
 ·refine .inl ⟨y ++ [((3:Int),(0:Int),[],[])],?_,?_,?_⟩
  ·simp only [g_Ss_l20Disk_3,RT.sel,hk,decide_true,cond_true]
   rw [capF_f y.length 1 64 (by omega) (by decide),cond_true]
  ·exact ⟨by rw [List.length_append,List.length_cons,List.length_nil]; omega,(smallD_one (by omega) i2 tiny_no).2⟩
  ·rw [List.length_append,List.length_cons,List.length_nil]; omega
 ·refine .inr ⟨y,?_,by omega,i2⟩
  simp only [g_Ss_l20Disk_3,RT.sel,hk,decide_false,cond_true,cond_false]
noncomputable def diskD (r0:List Int) (r1 n:Int):Int := g_Vs_l20Disk_3 r0 r1 n - r1
theorem disk_f (r0:List Int) (r1 n:Int) (h:0 ≤ r1 ∧ r1 ≤ 80000) (hr:RdOk r0):g_As_l20Disk r0 r1 n = true ∧ g_Vs_l20Disk_3 r0 r1 n = r1 + diskD r0 r1 n % 16384 ∧ smallD (g_Vs_l20Disk_0 r0 r1 n) := by
 have pk := pick_f r0 r1 10 ⟨h.1,by omega⟩ (by decide) hr
 obtain ⟨⟨s,l,p⟩,L,p1,p2,p3⟩ := diskLoop_f r0 (r1 + 1) n (g_pick r0 r1 10) ⟨pk.1,pk.2⟩ (by omega) hr
 simp only at p1 p2 p3
 have w1:IntKind.wrap .i64 (r1 + 1) = r1 + 1 := wrap64 (by omega)
 have od := oddA_f' r0 p n (by omega) hr
 have op := oddP_f r0 p n (by omega)
 have hod:0 ≤ oddD n % 2 ∧ oddD n % 2 < 2 := by omega
 obtain ⟨l3,L3,L3s⟩ := diskLoop3_f 0 [] s r0 (p + oddD n % 2 + 1) l (by omega) p3
 refine ⟨?_,?_,?_⟩
 ·unfold g_As_l20Disk
  rw [w1,L]
  simp only [valO,Option.getD_some,od,op]
  have nA := noteA_f r0 (p + oddD n % 2 + 1) 1 (by omega) hr
  simp (disch := first | omega | assumption) only [wrapL,pickA_f',Bool.true_and,okO,Option.isSome_some,nA,L3,Bool.and_true,Bool.or_true,Bool.cond_self,pickN_f]
  rw [capF_f l.length _ 64 (by show l.length + 1 ≤ _; omega) (by decide)]
  have k1 := pick_f r0 (p + oddD n % 2 + 1) 2 (by omega) (by decide) hr
  have k2:∀ x:Int,decide (0 ≤ g_pick r0 (p + oddD n % 2 + 1) 2 ∧ g_pick r0 (p + oddD n % 2 + 1) 2 < (([(-1:Int),x].length:Nat):Int)) = true := fun x => decide_eq_true ⟨k1.1,k1.2⟩
  have k3:∀ x:Int,decide ((g_pick r0 (p + oddD n % 2 + 1) 2).toNat < [(-1:Int),x].length) = true := fun x => decide_eq_true (by show _ < 2; omega)
  rw [k2,k3]
  simp only [Bool.and_self,Bool.cond_self,Bool.or_true]
 ·unfold diskD g_Vs_l20Disk_3
  rw [w1,L]
  simp only [valO,Option.getD_some,op]
  simp (disch := first | omega | assumption) only [wrapL,noteP_f]
  simp only [Bool.cond_eq_ite]
  repeat' split
  all_goals omega
 ·unfold g_Vs_l20Disk_0
  rw [w1,L]
  simp only [valO,Option.getD_some,op]
  simp (disch := first | omega | assumption) only [wrapL,L3,Option.getD_some]
  have nt := note_f r0 (p + oddD n % 2 + 1) 1 (by omega) hr
  simp only [Bool.cond_eq_ite]
  have base:smallD l := ⟨by omega,p3⟩
  repeat' split
  all_goals first | exact base | exact L3s | exact smallD_one (by omega) p3 nt
theorem addP_ok {l:List Note} {safe:Int} {n:Note} {b:Bool} (h1:diskP l safe = true) (h2:noteQ n = true) (h3:l.length ≠ 120):diskP (l ++ [n]) (bif b then (l.length:Int) + 1 else safe) = true := by
 simp only [diskP,Bool.and_eq_true,decide_eq_true_eq,List.all_eq_true] at h1 ⊢
 refine ⟨by rw [List.length_append,List.length_cons,List.length_nil]; omega,?_,fun x hx => ?_⟩
 ·rw [List.length_append,List.length_cons,List.length_nil]
  cases b
  ·simp only [cond_false]; omega
  ·simp only [cond_true]; omega
 ·rcases List.mem_append.1 hx with hx | hx
  ·exact h1.2.2 x hx
  ·rw [List.mem_singleton.1 hx]; exact h2
theorem jaInts_self (l:List Int) (hl:l.length ≤ 1048576):g_Aw_jaInts l l = true ∧ g_Vw_jaInts_0 l l = true := by
 have h:g_Lw_jaInts_0 l l 0 = some (.inr ()) := by
  have := loop_all (step := g_Sw_jaInts_0 l l) (fun i:Nat => (i:Int)) (fun _ => true) (.inl false) (.inr ()) l.length (fun i hi => by
   have k1:(i:Int) < l.length := by omega
   have k2:(0:Int) ≤ (i:Int) := by omega
   have hw:IntKind.wrap .i64 ((i:Int) + 1) = ((i + 1:Nat):Int) := by rw [wrap64 (by omega)]; omega
   simp only [g_Sw_jaInts_0,RT.sel,cond_true,k1,k2,hw,decide_true,and_self,Int.toNat_natCast,bne_self_eq_false,BEq.rfl,Bool.not_true,cond_false]) (by simp [g_Sw_jaInts_0,RT.sel])
  rw [show (List.range l.length).all (fun _ => true) = true by simp] at this
  exact this
 simp [g_Aw_jaInts,g_Vw_jaInts_0,h,okO,valO,isL]
theorem jaTexts_self (l:List ByteArray) (hl:l.length ≤ 1048576):g_Aw_jaTexts l l = true ∧ g_Vw_jaTexts_0 l l = true := by
 have h:g_Lw_jaTexts_0 l l 0 = some (.inr ()) := by
  have := loop_all (step := g_Sw_jaTexts_0 l l) (fun i:Nat => (i:Int)) (fun _ => true) (.inl false) (.inr ()) l.length (fun i hi => by
   have k1:(i:Int) < l.length := by omega
   have k2:(0:Int) ≤ (i:Int) := by omega
   have hw:IntKind.wrap .i64 ((i:Int) + 1) = ((i + 1:Nat):Int) := by rw [wrap64 (by omega)]; omega
   simp only [g_Sw_jaTexts_0,RT.sel,cond_true,k1,k2,hw,decide_true,and_self,Int.toNat_natCast,bne_self_eq_false,BEq.rfl,Bool.not_true,cond_false]) (by simp [g_Sw_jaTexts_0,RT.sel])
  rw [show (List.range l.length).all (fun _ => true) = true by simp] at this
  exact this
 simp [g_Aw_jaTexts,g_Vw_jaTexts_0,h,okO,valO,isL]
theorem jaWrites_self (l:List (ByteArray×Bool×List Int)) (hl:l.length ≤ 1048576) (hit:∀ w ∈ l,w.2.2.length ≤ 1048576):g_Aw_jaWrites l l = true ∧ g_Vw_jaWrites_0 l l = true := by
 have h:g_Lw_jaWrites_0 l l 0 = some (.inr ()) := by
  have := loop_all (step := g_Sw_jaWrites_0 l l) (fun i:Nat => (i:Int)) (fun _ => true) (.inl false) (.inr ()) l.length (fun i hi => by
   have k1:(i:Int) < l.length := by omega
   have k2:(0:Int) ≤ (i:Int) := by omega
   have hw:IntKind.wrap .i64 ((i:Int) + 1) = ((i + 1:Nat):Int) := by rw [wrap64 (by omega)]; omega
   obtain ⟨q1,q2⟩ := jaInts_self _ (hit _ (at_mem (e := .pair .str (.pair .bool (.sl 3 (.int .i64)))) hi))
   simp only [g_Sw_jaWrites_0,RT.sel,cond_true,k1,k2,hw,decide_true,and_self,Int.toNat_natCast,bne_self_eq_false,BEq.rfl,Bool.not_true,cond_false,q1,q2]) (by simp [g_Sw_jaWrites_0,RT.sel])
  rw [show (List.range l.length).all (fun _ => true) = true by simp] at this
  exact this
 simp [g_Aw_jaWrites,g_Vw_jaWrites_0,h,okO,valO,isL]
theorem jaNote_self (x:Note) (h:smallN x):g_Aw_jaNote x.1 x.2.1 x.2.2.1 x.2.2.2 x.1 x.2.1 x.2.2.1 x.2.2.2 = true ∧ g_Vw_jaNote_0 x.1 x.2.1 x.2.2.1 x.2.2.2 x.1 x.2.1 x.2.2.1 x.2.2.2 = true := by
 obtain ⟨p1,p2⟩ := jaTexts_self x.2.2.1 h.1
 obtain ⟨q1,q2⟩ := jaWrites_self x.2.2.2 h.2.1 h.2.2
 simp [g_Aw_jaNote,g_Vw_jaNote_0,p1,p2,q1,q2]
theorem jaNotes_self (l:List (Int×Int×List ByteArray×List (ByteArray×Bool×List Int))) (hl:l.length ≤ 1048576) (hit:∀ x ∈ l,smallN x):g_Aw_jaNotes l l = true ∧ g_Vw_jaNotes_0 l l = true := by
 have h:g_Lw_jaNotes_0 l l 0 = some (.inr ()) := by
  have := loop_all (step := g_Sw_jaNotes_0 l l) (fun i:Nat => (i:Int)) (fun _ => true) (.inl false) (.inr ()) l.length (fun i hi => by
   have k1:(i:Int) < l.length := by omega
   have k2:(0:Int) ≤ (i:Int) := by omega
   have hw:IntKind.wrap .i64 ((i:Int) + 1) = ((i + 1:Nat):Int) := by rw [wrap64 (by omega)]; omega
   obtain ⟨q1,q2⟩ := jaNote_self _ (hit _ (at_mem (e := NI_) hi))
   simp only [g_Sw_jaNotes_0,RT.sel,cond_true,k1,k2,hw,decide_true,and_self,Int.toNat_natCast,bne_self_eq_false,BEq.rfl,Bool.not_true,cond_false,q1,q2]) (by simp [g_Sw_jaNotes_0,RT.sel])
  rw [show (List.range l.length).all (fun _ => true) = true by simp] at this
  exact this
 simp [g_Aw_jaNotes,g_Vw_jaNotes_0,h,okO,valO,isL]
theorem jaDisk_self (l:List Note) (safe:Int) (hl:l.length ≤ 1048576) (hit:∀ x ∈ l,smallN x):g_Aw_jaDisk l safe l safe = true ∧ g_Vw_jaDisk_0 l safe l safe = true := by
 obtain ⟨p1,p2⟩ := jaNotes_self l hl hit
 simp [g_Aw_jaDisk,g_Vw_jaDisk_0,p1,p2]
theorem drawLoop_f (a b c d e f g h i) (l:List Note) (h1:l.length ≤ 125) (h2:∀ x ∈ l,tinyN x):∃ r,g_Ls_DrawDiskAdd_0 a b c d e f g h i l = some r ∧ smallD r := by
 refine loop_inv (step := g_Ss_DrawDiskAdd_0 a b c d e f g h i) (fun y => y.length ≤ 125 ∧ ∀ x ∈ y,tinyN x) _ (fun y => 200 - y.length) ?_ _ ⟨h1,h2⟩
 rintro y ⟨i1,i2⟩
 by_cases hk:(y.length:Int) < 120
 ·refine .inl ⟨y ++ [((3:Int),(0:Int),[],[])],?_,?_,?_⟩
  ·simp only [g_Ss_DrawDiskAdd_0,RT.sel,hk,decide_true,cond_true]
   rw [capF_f y.length 1 64 (by omega) (by decide),cond_true]
  ·exact ⟨by rw [List.length_append,List.length_cons,List.length_nil]; omega,(smallD_one (by omega) i2 tiny_no).2⟩
  ·rw [List.length_append,List.length_cons,List.length_nil]; omega
 ·refine .inr ⟨y,?_,by omega,i2⟩
  simp only [g_Ss_DrawDiskAdd_0,RT.sel,hk,decide_false,cond_true,cond_false]
theorem drawDiskAdd_f (a:List Int) (h:∀ n ∈ a,(Lit.int .u8 n).wf = true):g_As_DrawDiskAdd a = true ∧ smallD (g_Vs_DrawDiskAdd_0 a) ∧ tinyN (g_Vs_DrawDiskAdd_2 a,g_Vs_DrawDiskAdd_3 a,g_Vs_DrawDiskAdd_4 a,g_Vs_DrawDiskAdd_5 a) := by
 obtain ⟨h1,h2,h3⟩ := open_f a
 have hr := open_ok a h
 obtain ⟨d1,d2,d3⟩ := disk_f (g_Vs_l20Open_0 a) 0 12 (by omega) hr
 have hd:0 ≤ diskD (g_Vs_l20Open_0 a) 0 12 % 16384 ∧ diskD (g_Vs_l20Open_0 a) 0 12 % 16384 < 16384 := by omega
 have od := oddA_f' (g_Vs_l20Open_0 a) (g_Vs_l20Disk_3 (g_Vs_l20Open_0 a) 0 12) 20 (by rw [d2]; omega) hr
 have op := oddP_f (g_Vs_l20Open_0 a) (g_Vs_l20Disk_3 (g_Vs_l20Open_0 a) 0 12) 20 (by rw [d2]; omega)
 have hod:0 ≤ oddD 20 % 2 ∧ oddD 20 % 2 < 2 := by omega
 have hp:0 ≤ g_Vs_l20Rd_odd_2 (g_Vs_l20Open_0 a) (g_Vs_l20Disk_3 (g_Vs_l20Open_0 a) 0 12) 20 ∧ g_Vs_l20Rd_odd_2 (g_Vs_l20Open_0 a) (g_Vs_l20Disk_3 (g_Vs_l20Open_0 a) 0 12) 20 ≤ 98000 := by rw [op,d2]; omega
 have nA := noteA_f (g_Vs_l20Open_0 a) _ 9 hp hr
 have nP := noteP_f (g_Vs_l20Open_0 a) _ 9 hp hr
 have nt := note_f (g_Vs_l20Open_0 a) _ 9 hp hr
 have pk := pickA_f' (g_Vs_l20Open_0 a) (g_Vs_l20Note_5 (g_Vs_l20Open_0 a) (g_Vs_l20Rd_odd_2 (g_Vs_l20Open_0 a) (g_Vs_l20Disk_3 (g_Vs_l20Open_0 a) 0 12) 20) 9) 2 (by rw [nP]; omega) (by decide) hr
 obtain ⟨r,L,Ls⟩ := drawLoop_f 0 [] 0 0 [] [] (g_Vs_l20Disk_1 (g_Vs_l20Open_0 a) 0 12) (g_Vs_l20Open_0 a) (g_Vs_l20Rd_odd_2 (g_Vs_l20Open_0 a) (g_Vs_l20Disk_3 (g_Vs_l20Open_0 a) 0 12) 20) _ d3.1 d3.2
 unfold g_As_DrawDiskAdd g_Vs_DrawDiskAdd_0 g_Vs_DrawDiskAdd_2 g_Vs_DrawDiskAdd_3 g_Vs_DrawDiskAdd_4 g_Vs_DrawDiskAdd_5
 rw [h1,h3]
 simp only [d1,od,nA,pk,L,okO,valO,Option.isSome_some,Option.getD_some,Bool.and_true,Bool.and_self,Bool.cond_self,true_and]
 refine ⟨?_,nt⟩
 cases g_Vs_l20Rd_odd_0 (g_Vs_l20Open_0 a) (g_Vs_l20Disk_3 (g_Vs_l20Open_0 a) 0 12) 20
 ·exact d3
 ·exact Ls
theorem writesOf_f (l:List (ByteArray×Bool×List Int)) (hl:l.length ≤ 1048576) (hit:∀ w ∈ l,w.2.2.length ≤ 1048576):g_Ai_writesOf l = true ∧ g_Vi_writesOf_0 l = l := by
 have L:g_Li_writesOf_0 l (l.length:Int) ([],0) = some (l.map id) := by
  refine loop_app (e := WI_) (step := g_Si_writesOf_0 l (l.length:Int)) l (fun i r => (r,i)) id id (fun i r hi hr => ?_) (fun r hr => by simp only [g_Si_writesOf_0,RT.sel,cond_true,Int.lt_irrefl,decide_false,cond_false,id])
  have k1:(i:Int) < l.length := by omega
  have k2:(0:Int) ≤ (i:Int) := by omega
  have hx := hit _ (at_mem (e := WI_) hi)
  simp only [g_Si_writesOf_0,RT.sel,cond_true,k1,k2,decide_true,and_self,Int.toNat_natCast,g_Aslices_Clone_int_int_b,id]
  rw [cap0_f _ _ hx (by decide),capF_f _ _ _ (by simp only [List.length_cons,List.length_nil]; omega) (by decide),cond_true,cond_true,wrap64 (x := (i:Int) + 1) (by omega)]
  rfl
 rw [List.map_id] at L
 simp only [g_Ai_writesOf,g_Vi_writesOf_0,L,okO,valO,Option.isSome_some,Option.getD_some,and_self]
theorem i_noteCopied_f (k t:Int) (ls:List ByteArray) (ws:List (ByteArray×Bool×List Int)) (h1:ls.length ≤ 1048576) (h2:ws.length ≤ 1048576) (h3:∀ w ∈ ws,w.2.2.length ≤ 1048576):g_Ai_LogNote_copied k t ls ws = true := by
 obtain ⟨a,_⟩ := writesOf_f ws h2 h3
 rw [g_Ai_LogNote_copied,a,g_Aslices_Clone_string_string_b,cap0_f _ _ h1 (by decide)]
 rfl
theorem i_copied_f (l:List Note) (safe:Int) (hl:l.length ≤ 1048576) (hit:∀ x ∈ l,smallN x):g_Ai_LogDisk_copied l safe = true ∧ g_Vi_LogDisk_copied_0 l safe = l := by
 have L:g_Li_LogDisk_copied_0 l (l.length:Int) 0 [] safe (0,[]) = some (l.map id) := by
  refine loop_app (e := NI_) (step := g_Si_LogDisk_copied_0 l (l.length:Int) 0 [] safe) l (fun i r => (i,r)) id id (fun i r hi hr => ?_) (fun r hr => by simp only [g_Si_LogDisk_copied_0,RT.sel,cond_true,Int.lt_irrefl,decide_false,cond_false,id])
  have k1:(i:Int) < l.length := by omega
  have k2:(0:Int) ≤ (i:Int) := by omega
  have hx := hit _ (at_mem (e := NI_) hi)
  have c := i_noteCopied_f (at_ NI_ l i).1 (at_ NI_ l i).2.1 (at_ NI_ l i).2.2.1 (at_ NI_ l i).2.2.2 hx.1 hx.2.1 hx.2.2
  obtain ⟨_,c2⟩ := writesOf_f (at_ NI_ l i).2.2.2 hx.2.1 hx.2.2
  simp only [g_Si_LogDisk_copied_0,RT.sel,cond_true,k1,k2,decide_true,and_self,Int.toNat_natCast,c,c2,id]
  rw [capF_f _ _ _ (by simp only [List.length_cons,List.length_nil]; omega) (by decide),cond_true,wrap64 (x := (i:Int) + 1) (by omega)]
  rfl
 rw [List.map_id] at L
 simp only [g_Ai_LogDisk_copied,g_Vi_LogDisk_copied_0,L,okO,valO,Option.isSome_some,Option.getD_some,and_self]
theorem i_DiskAdd_f (l:List Note) (safe:Int) (n:Note) (b:Bool) (hl:l.length ≤ 1048576) (hit:∀ x ∈ l,smallN x) (hn:smallN n) :
  g_Ai_DiskAdd l safe n.1 n.2.1 n.2.2.1 n.2.2.2 b = true ∧ g_Vi_DiskAdd_0 l safe n.1 n.2.1 n.2.2.1 n.2.2.2 b = (addP_ l safe n b).1 ∧ g_Vi_DiskAdd_1 l safe n.1 n.2.1 n.2.2.1 n.2.2.2 b = (addP_ l safe n b).2.1 ∧ g_Vi_DiskAdd_2 l safe n.1 n.2.1 n.2.2.1 n.2.2.2 b = (addP_ l safe n b).2.2 := by
 obtain ⟨a1,a2⟩ := i_DiskOk_f l safe hl hit
 obtain ⟨b1,b2⟩ := i_NoteOk_f n.1 n.2.1 n.2.2.1 n.2.2.2 hn.1 hn.2.1 hn.2.2
 obtain ⟨c1,c2⟩ := i_copied_f l safe hl hit
 have d1 := i_noteCopied_f n.1 n.2.1 n.2.2.1 n.2.2.2 hn.1 hn.2.1 hn.2.2
 obtain ⟨_,d2⟩ := writesOf_f n.2.2.2 hn.2.1 hn.2.2
 have b2:g_Vi_NoteOk_0 n.1 n.2.1 n.2.2.1 n.2.2.2 = noteQ n := b2
 have e:∀ p:Note,decide ((List.length l + List.length [p]) * nat_lit 64 ≤ nat_lit 140737488355328 ∧ List.length l + List.length [p] ≤ nat_lit 9223372036854775807) = true := fun p => capF_f _ _ _ (by simp only [List.length_cons,List.length_nil]; omega) (by decide)
 simp only [g_Ai_DiskAdd,g_Vi_DiskAdd_0,g_Vi_DiskAdd_1,g_Vi_DiskAdd_2,g_Ai_LogDisk_add,g_Vi_LogDisk_add_0,g_Vi_LogDisk_add_1,g_Vi_LogDisk_add_2,a1,a2,b1,b2,c1,c2,d1,d2,len120,addP_,e]
 cases diskP l safe <;> cases noteQ n <;> cases decide (l.length = 120) <;> cases b <;> simp
def fallN (l:List Note) (safe keep:Int):Int := safe + (if (if (l.length:Int) - safe < keep then (l.length:Int) - safe else keep) > 0 then (if (l.length:Int) - safe < keep then (l.length:Int) - safe else keep) else 0)
theorem fallN_bound {l:List Note} {safe keep:Int} (h:diskP l safe = true):safe ≤ fallN l safe keep ∧ 0 ≤ fallN l safe keep ∧ fallN l safe keep ≤ l.length := by
 simp only [diskP,Bool.and_eq_true,decide_eq_true_eq] at h
 unfold fallN
 split <;> split <;> omega
def fallP (l:List Note) (safe keep:Int):List Note := bif diskP l safe then l.take (fallN l safe keep).toNat else []
def fallQ (l:List Note) (safe keep:Int):Int := bif diskP l safe then fallN l safe keep else 0
theorem fall_wrap {l:List Note} {safe keep:Int} (h:diskP l safe = true):IntKind.wrap .i64 (safe + if (if IntKind.wrap .i64 ((l.length:Int) - safe) < keep then IntKind.wrap .i64 ((l.length:Int) - safe) else keep) > (0:Int) then if IntKind.wrap .i64 ((l.length:Int) - safe) < keep then IntKind.wrap .i64 ((l.length:Int) - safe) else keep else (0:Int)) = fallN l safe keep := by
 have b := fallN_bound (keep := keep) h
 have h' := h
 simp only [diskP,Bool.and_eq_true,decide_eq_true_eq] at h'
 rw [wrap64 (x := (l.length:Int) - safe) (by omega)]
 have e:(safe + if (if (l.length:Int) - safe < keep then (l.length:Int) - safe else keep) > (0:Int) then if (l.length:Int) - safe < keep then (l.length:Int) - safe else keep else (0:Int)) = fallN l safe keep := rfl
 rw [e,wrap64 (by omega)]
theorem i_DiskFall_f (l:List Note) (safe keep:Int) (hl:l.length ≤ 1048576) (hit:∀ x ∈ l,smallN x):g_Ai_DiskFall l safe keep = true ∧ g_Vi_DiskFall_0 l safe keep = fallP l safe keep ∧ g_Vi_DiskFall_1 l safe keep = fallQ l safe keep := by
 obtain ⟨a1,a2⟩ := i_DiskOk_f l safe hl hit
 obtain ⟨c1,c2⟩ := i_copied_f l safe hl hit
 unfold g_Ai_DiskFall g_Vi_DiskFall_0 g_Vi_DiskFall_1 fallP fallQ
 rw [a1,a2,c1,c2]
 cases h:diskP l safe
 ·exact ⟨rfl,rfl,rfl⟩
 ·have b := fallN_bound (keep := keep) h
  rw [fall_wrap h,decide_eq_true ⟨b.2.1,b.2.2⟩]
  have hlen:(l.take (fallN l safe keep).toNat).length = (fallN l safe keep).toNat := by rw [List.length_take]; omega
  have e:∀ m:List Note,List.drop (nat_lit 0) m = m := fun m => rfl
  have e2:∀ m:List Note,List.take (Int.toNat (m.length:Int)) m = m := fun m => by rw [Int.toNat_natCast,List.take_length]
  have e3:∀ m:List Note,(0:Int) ≤ m.length ∧ (m.length:Int) ≤ m.length := fun m => ⟨by omega,Int.le_refl _⟩
  generalize l.take (fallN l safe keep).toNat = m at hlen ⊢
  simp only [g_Aslices_Clip_i_LogNote_i_LogNote,g_Vslices_Clip_i_LogNote_i_LogNote_0,e,e2,decide_eq_true (e3 m),decide_true,cond_true,Bool.not_true,cond_false,Bool.true_and,Bool.false_or,Bool.and_self,true_and]
  omega
theorem addP_yes {l:List Note} {s:Int} {n:Note} (h:(addP_ l s n true).2.2 = true):diskP l s = true ∧ noteQ n = true ∧ l.length ≠ 120 ∧ ∀ b,addP_ l s n b = (l ++ [n],bif b then (l.length:Int) + 1 else s,true) := by
 unfold addP_ at h
 cases hd:diskP l s
 ·simp [hd] at h
 ·cases hq:noteQ n
  ·simp [hd,hq] at h
  ·by_cases hc:l.length = 120
   ·simp [hd,hq,hc] at h
   ·refine ⟨rfl,rfl,hc,fun b => ?_⟩
    unfold addP_
    rw [hd,hq,decide_eq_false hc]
    rfl
theorem fall_all {l:List Note} {s keep:Int} (h:diskP l s = true) (e:fallN l s keep = l.length):fallP l s keep = l ∧ fallQ l s keep = l.length := by
 unfold fallP fallQ
 rw [h,e,Int.toNat_natCast,List.take_length]
 exact ⟨rfl,rfl⟩
theorem pure_FnDiskSafe (a:List Int) (ok:a.length ≤ maxLen ∧ ∀ n ∈ a,(Lit.int .u8 n).wf = true):Fw_FnDiskSafe [argRV false (.sl 5 (.int .u8)) a] = some (true,.val false [.bool true],[]) := by
 show some (g_Aw_FnDiskSafe a,RV.val false [Cell.bool (g_Vw_FnDiskSafe_0 a)],[]) = _
 have key:g_Aw_FnDiskSafe a = true ∧ g_Vw_FnDiskSafe_0 a = true := by
  by_cases hlen:(a.length:Int) > 1048576
  ·unfold g_Aw_FnDiskSafe g_Vw_FnDiskSafe_0
   rw [decide_eq_true hlen]; exact ⟨rfl,rfl⟩
  ·obtain ⟨d1,d2,d3⟩ := drawDiskAdd_f a ok.2
   unfold g_Aw_FnDiskSafe g_Vw_FnDiskSafe_0
   rw [decide_eq_false hlen,d1]
   generalize g_Vs_DrawDiskAdd_0 a = l at d2 ⊢
   generalize g_Vs_DrawDiskAdd_1 a = s
   have t3 := tiny_small d3
   obtain ⟨n,hn⟩:∃ n:Note,n = (g_Vs_DrawDiskAdd_2 a,g_Vs_DrawDiskAdd_3 a,g_Vs_DrawDiskAdd_4 a,g_Vs_DrawDiskAdd_5 a) := ⟨_,rfl⟩
   rw [← hn] at t3
   have e1:g_Vs_DrawDiskAdd_2 a = n.1 := by rw [hn]
   have e2:g_Vs_DrawDiskAdd_3 a = n.2.1 := by rw [hn]
   have e3:g_Vs_DrawDiskAdd_4 a = n.2.2.1 := by rw [hn]
   have e4:g_Vs_DrawDiskAdd_5 a = n.2.2.2 := by rw [hn]
   rw [e1,e2,e3,e4]
   clear e1 e2 e3 e4 hn d3 d1
   have q1 := d2.1
   have hl:l.length ≤ 1048576 := by omega
   have hit:∀ x ∈ l,smallN x := fun x hx => tiny_small (d2.2 x hx)
   obtain ⟨i1,i2,i3,i4⟩ := i_DiskAdd_f l s n true hl hit t3
   obtain ⟨s1,s2,s3,s4⟩ := s_DiskAdd_f l s n true hl hit t3
   obtain ⟨k1,k2,k3,k4⟩ := i_DiskAdd_f l s n false hl hit t3
   rw [i1,i2,i3,i4,s1,s2,s3,s4,k1,k2,k3,jaOk_f.1,jaOk_f.2]
   have hl2:(l ++ [n]).length ≤ 1048576 := by rw [List.length_append,List.length_cons,List.length_nil]; omega
   have hit2:∀ x ∈ l ++ [n],smallN x := fun x hx => by
    rcases List.mem_append.1 hx with hx | hx
    ·exact hit x hx
    ·rw [List.mem_singleton.1 hx]; exact t3
   have hself:∀ b:Bool,(!b == b) = false := fun b => by cases b <;> rfl
   rw [hself]
   have jx:g_Aw_jaDisk (addP_ l s n true).1 (addP_ l s n true).2.1 (addP_ l s n true).1 (addP_ l s n true).2.1 = true ∧ g_Vw_jaDisk_0 (addP_ l s n true).1 (addP_ l s n true).2.1 (addP_ l s n true).1 (addP_ l s n true).2.1 = true := by
    refine jaDisk_self _ _ ?_ ?_
    ·unfold addP_
     cases diskP l s&&noteQ n
     ·simp
     ·cases decide (l.length = 120)
      ·exact hl2
      ·exact hl
    ·unfold addP_
     cases diskP l s&&noteQ n
     ·simp
     ·cases decide (l.length = 120)
      ·exact hit2
      ·exact hit
   rw [jx.1,jx.2]
   cases ho:(addP_ l s n true).2.2
   ·exact ⟨rfl,rfl⟩
   ·obtain ⟨hd,hq,h3,hb⟩ := addP_yes ho
    have bd:l.length ≤ 120 ∧ 0 ≤ s ∧ s ≤ l.length := by
     simp only [diskP,Bool.and_eq_true,decide_eq_true_eq] at hd
     exact ⟨hd.1,hd.2.1.1,hd.2.1.2⟩
    have okT := addP_ok (b := true) hd hq h3
    have okF := addP_ok (b := false) hd hq h3
    have hbT := hb true
    have hbF := hb false
    simp only [cond_true] at okT hbT
    simp only [cond_false] at okF hbF
    rw [hbT,hbF] at *
    have hll:(l ++ [n]).length = l.length + 1 := by rw [List.length_append,List.length_cons,List.length_nil]
    have w1:IntKind.wrap .i64 (IntKind.wrap .i64 ((l.length:Int) - s) + 1) = (l.length:Int) - s + 1 := by rw [wrap64 (x := (l.length:Int) - s) (by omega),wrap64 (by omega)]
    rw [w1]
    obtain ⟨f1,f2,f3⟩ := i_DiskFall_f (l ++ [n]) s ((l.length:Int) - s + 1) hl2 hit2
    obtain ⟨g1,g2,g3⟩ := i_DiskFall_f (l ++ [n]) ((l.length:Int) + 1) 0 hl2 hit2
    obtain ⟨h1,h2,_⟩ := i_DiskFall_f (l ++ [n]) s 0 hl2 hit2
    have nF:fallN (l ++ [n]) s ((l.length:Int) - s + 1) = (l ++ [n]).length := by
     unfold fallN
     rw [hll]
     split <;> split <;> omega
    have nG:fallN (l ++ [n]) ((l.length:Int) + 1) 0 = (l ++ [n]).length := by
     unfold fallN
     rw [hll]
     split <;> split <;> omega
    have nH:fallN (l ++ [n]) s 0 = s := by
     unfold fallN
     rw [hll]
     split <;> split <;> omega
    have aF := (fall_all okF nF).1
    have aG := fall_all okT nG
    have aH:(fallP (l ++ [n]) s 0).length = s.toNat := by
     unfold fallP
     rw [okF,nH,cond_true,List.length_take]
     omega
    have e5:(((fallP (l ++ [n]) s 0).length:Int) == s) = true := by
     rw [aH,beq_iff_eq]
     omega
    have e6:fallQ (l ++ [n]) ((l.length:Int) + 1) 0 = (l.length:Int) + 1 := by rw [aG.2,hll]; omega
    obtain ⟨j3,j4⟩ := jaDisk_self (l ++ [n]) ((l.length:Int) + 1) hl2 hit2
    obtain ⟨j5,j6⟩ := jaNotes_self (l ++ [n]) hl2 hit2
    simp only [f1,f2,g1,g2,g3,h1,h2,aF,aG.1,e5,e6,j3,j4,j5,j6,Bool.not_true,cond_false,cond_true,Bool.false_or,Bool.true_and,Bool.and_self,and_self]
    first | done | exact ⟨rfl,rfl⟩
 rw [key.1,key.2]
end Go.Proofs.YtliagpcoflhphaaDoor.E
