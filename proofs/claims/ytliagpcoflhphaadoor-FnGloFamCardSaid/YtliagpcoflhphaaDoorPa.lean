/- What these values are, in plain words: for the proof (laws.FnGloFam): part 1. No conditions. -/
import Derived.Test.YtliagpcoflhphaaDoorGb
import Derived.Lib.SlTrimSet
set_option linter.all false
namespace Go.Proofs.YtliagpcoflhphaaDoor.E
open Go
set_option maxRecDepth 100000
set_option maxHeartbeats 0
theorem wrap64 {x:Int} (h:-9223372036854775808 ≤ x ∧ x < 9223372036854775808):IntKind.wrap .i64 x = x := by
 simp only [IntKind.wrap,IntKind.bits,IntKind.signed]
 simp
 omega
section
variable {σ ρ α β:Type} {step:σ → RT σ ρ}
theorem loop_all (mk:Nat → σ) (p:Nat → Bool) (e fin:ρ) (n:Nat) (h1:∀ i,i < n → (step (mk i)).sel = bif p i then .go (mk (i + 1)) else .out e) (h2:(step (mk n)).sel = .out fin) :
  loopO step (mk 0) = some (bif (List.range n).all p then fin else e) := by
 have key:∀ k i,i + k = n → loopO step (mk i) = some (bif (List.range' i k).all p then fin else e) := by
  intro k
  induction k with
  | zero =>
   intro i hi
   have hi:i = n := by omega
   subst hi
   rw [loopO_eq,h2]
   rfl
  | succ k ih =>
   intro i hi
   rw [loopO_eq,h1 i (by omega),List.range'_succ,List.all_cons]
   cases p i with
   | true => simp only [cond_true,Bool.true_and]; exact ih (i + 1) (by omega)
   | false => rfl
 rw [key n 0 (by omega),List.range_eq_range']
theorem at_mem {e:Ty} {l:List e.den} {i:Nat} (h:i < l.length):at_ e l i ∈ l := by
 have:at_ e l i = l[i] := by simp [at_,h]
 rw [this]
 exact List.getElem_mem h
theorem at_eq {e:Ty} {l:List e.den} {i:Nat} (h:i < l.length):at_ e l i = l[i] := by simp [at_,h]
theorem loop_idx {e:Ty} (l:List e.den) {step:Int → RT Int (Int ⊕ Unit)} (q:e.den → Bool) (h1:∀ i:Nat,i < l.length → (step (i:Int)).sel = bif q (at_ e l i) then .out (.inl (i:Int)) else .go ((i + 1:Nat):Int))
  (h2:(step (l.length:Int)).sel = .out (.inr ())):∃ r,loopO step 0 = some r ∧ decide ((bif isL r then getL r else (-1:Int)) ≥ 0) = l.any q := by
 have key:∀ (k i:Nat),i + k = l.length → ∃ r,loopO step (i:Int) = some r ∧ decide ((bif isL r then getL r else (-1:Int)) ≥ 0) = (l.drop i).any q := by
  intro k
  induction k with
  | zero =>
   intro i hi
   have hi:i = l.length := by omega
   subst hi
   refine ⟨_,by rw [loopO_eq,h2],?_⟩
   simp [isL]
  | succ k ih =>
   intro i hi
   rw [loopO_eq,h1 i (by omega)]
   have hil:i < l.length := by omega
   rw [List.drop_eq_getElem_cons hil,List.any_cons,at_eq hil]
   cases hq:q l[i] with
   | true => exact ⟨_,rfl,by simp [isL,getL]⟩
   | false => simp only [cond_false,Bool.false_or]; exact ih (i + 1) (by omega)
 exact key l.length 0 (by omega)
end
theorem dropWhile_nil {α:Type} (p:α → Bool) (l:List α):l.dropWhile p = [] ↔ ∀ x ∈ l,p x = true := by
 induction l with
 | nil => simp
 | cons a l ih =>
  by_cases h:p a = true
  ·rw [List.dropWhile_cons_of_pos h,ih]; simp [h]
  ·rw [List.dropWhile_cons_of_neg h]; simp [h]
theorem trimS_nil (l cs:List UInt8):(Lib.trimS l cs = []) ↔ l.all (cs.contains ·) = true := by
 unfold Lib.trimS Lib.trimLeftS Lib.trimRightS
 constructor
 ·intro h
  rw [dropWhile_nil] at h
  rw [List.all_eq_true]
  intro x hx
  have h2:∀ (m:List UInt8),(∀ y ∈ (m.dropWhile (cs.contains ·)).reverse,cs.contains y = true) → ∀ y ∈ m,cs.contains y = true := by
   intro m
   induction m with
   | nil => intro _ y hy; cases hy
   | cons a m ih =>
    intro hm y hy
    by_cases ha:cs.contains a = true
    ·rw [List.dropWhile_cons_of_pos ha] at hm
     rcases List.mem_cons.1 hy with rfl | hy
     ·exact ha
     ·exact ih hm y hy
    ·rw [List.dropWhile_cons_of_neg ha] at hm
     exact hm y (List.mem_reverse.2 hy)
  exact h2 l.reverse (fun y hy => h y hy) x (by simpa using hx)
 ·intro h
  rw [List.all_eq_true] at h
  rw [dropWhile_nil]
  intro x hx
  have:x ∈ l := by
   have h3 := List.mem_reverse.1 hx
   have := (List.dropWhile_sublist (fun x => cs.contains x) (l := l.reverse)).subset h3
   simpa using this
  exact h x this
theorem byte_range (s:ByteArray) (i:Nat):0 ≤ byteAt s i ∧ byteAt s i < 256 := by
 unfold byteAt
 have := (s.data[i]?.getD 0).toNat_lt
 omega
theorem i_in_f (a b c:Int):g_Ai_in a b c = true ∧ g_Vi_in_0 a b c = decide (b ≤ a ∧ a ≤ c) := by
 constructor
 ·simp [g_Ai_in]
 ·unfold g_Vi_in_0
  by_cases h:a ≥ b
  ·simp [h]
  ·simp [h]
theorem s_l1In_f (a b c:Int):g_As_l1In a b c = true ∧ g_Vs_l1In_0 a b c = decide (b ≤ a ∧ a ≤ c) := by
 constructor
 ·simp [g_As_l1In]
 ·unfold g_Vs_l1In_0
  by_cases h:a ≥ b
  ·simp [h]
  ·simp [h]
def dig (b:UInt8):Bool := decide (48 ≤ b.toNat ∧ b.toNat ≤ 57)
def keyP (s:ByteArray):Bool := decide (2 ≤ s.size ∧ s.size ≤ 3)&&(decide (97 ≤ byteAt s 0 ∧ byteAt s 0 ≤ 122)&&(s.data.toList.drop 1).all dig)
def valP (l:List Int):Bool := decide (1 ≤ l.length ∧ l.length ≤ 3)&&l.all fun n => decide (0 ≤ n ∧ n ≤ 9999)
def wrtP (k:ByteArray) (d:Bool) (l:List Int):Bool := keyP k&&bif d then l.isEmpty else valP l
theorem dig_mem (b:UInt8):[48,49,50,51,52,53,54,55,56,57].contains b = dig b := by
 have h:∀ b:Fin 256,[48,49,50,51,52,53,54,55,56,57].contains (UInt8.ofNat b.val) = dig (UInt8.ofNat b.val) := by decide +kernel
 have := h ⟨b.toNat,b.toNat_lt⟩
 simpa using this
theorem i_keyOk_f (s:ByteArray):g_Ai_keyOk s = true ∧ g_Vi_keyOk_0 s = keyP s := by
 have hb := byte_range s 0
 have hw:IntKind.wrap .i64 (byteAt s 0) = byteAt s 0 := wrap64 (by omega)
 have e1:∀ n:Nat,decide ((2:Int) ≤ (n:Int) ∧ (n:Int) ≤ 3) = decide (2 ≤ n ∧ n ≤ 3) := fun n => decide_eq_decide.2 (by omega)
 constructor
 ·simp only [g_Ai_keyOk,(i_in_f _ _ _).1,(i_in_f _ _ _).2,hw,e1]
  by_cases h:2 ≤ s.size ∧ s.size ≤ 3
  ·have h1:(0:Int) < s.size := by omega
   have h2:(1:Int) ≤ s.size := by omega
   have h3:(s.extract 1 s.size).size ≤ 9223372036854775807 := by rw [ByteArray.size_extract]; omega
   have h4:g_ascii (lit [48,49,50,51,52,53,54,55,56,57]) = true := by decide +kernel
   simp only [h,h1,h2,h3,h4,and_self,decide_true,Bool.true_and,Bool.and_true,Bool.not_true,Bool.false_or,Int.le_refl,Bool.or_true,show (0:Int) ≤ 1 from by decide]
  ·simp [h]
 ·simp only [g_Vi_keyOk_0,(i_in_f _ _ _).2,hw,e1,keyP]
  have e2:(ByteArray.toList (g_trim (s.extract 1 s.size) (lit [48,49,50,51,52,53,54,55,56,57])) == []) = (s.data.toList.drop 1).all dig := by
   rw [ByteArray.toList_eq]
   show ((Lib.trimS (s.extract 1 s.size).data.toList [48,49,50,51,52,53,54,55,56,57]) == []) = _
   have e3:(s.extract 1 s.size).data.toList = s.data.toList.drop 1 := by
    simp only [ByteArray.data_extract,Array.toList_extract,List.extract_eq_take_drop]
    rw [List.take_of_length_le (by rw [List.length_drop,Array.length_toList]; exact Nat.le_refl _)]
   rw [e3,Bool.eq_iff_iff,beq_iff_eq]
   refine (trimS_nil (List.drop 1 s.data.toList) [48,49,50,51,52,53,54,55,56,57]).trans ?_
   simp only [dig_mem]
  rw [e2]
  cases decide (2 ≤ s.size ∧ s.size ≤ 3) <;> cases decide (97 ≤ byteAt s 0 ∧ byteAt s 0 ≤ 122) <;> rfl
theorem i_valOk_1_f (n:Int):g_Ai_valOk_1 n = true ∧ g_Vi_valOk_1_0 n = !decide (0 ≤ n ∧ n ≤ 9999) := ⟨(i_in_f _ _ _).1,congrArg not (i_in_f _ _ _).2⟩
theorem i_valOk_f (l:List Int) (hl:l.length ≤ 1048576):g_Ai_valOk l = true ∧ g_Vi_valOk_0 l = valP l := by
 obtain ⟨r,h1,h2⟩ := loop_idx (e := .int .i64) l (step := g_Sslices_IndexFunc_int_int__i_valOk_1_0 l (l.length:Int)) (fun n => !decide (0 ≤ n ∧ n ≤ 9999)) (fun i hi => by
  have h1:(i:Int) < l.length := by omega
  have h2:(0:Int) ≤ (i:Int) := by omega
  have hw:IntKind.wrap .i64 ((i:Int) + 1) = ((i + 1:Nat):Int) := by rw [wrap64 (by omega)]; omega
  simp only [g_Sslices_IndexFunc_int_int__i_valOk_1_0,RT.sel,cond_true,h1,h2,hw,decide_true,and_self,Int.toNat_natCast,(i_valOk_1_f _).1,(i_valOk_1_f _).2]) (by simp [g_Sslices_IndexFunc_int_int__i_valOk_1_0,RT.sel])
 have h1:g_Lslices_IndexFunc_int_int__i_valOk_1_0 l (l.length:Int) 0 = some r := h1
 have e1:decide ((1:Int) ≤ (l.length:Int) ∧ (l.length:Int) ≤ 3) = decide (1 ≤ l.length ∧ l.length ≤ 3) := decide_eq_decide.2 (by omega)
 constructor
 ·simp [g_Ai_valOk,(i_in_f _ _ _).1,g_Aslices_ContainsFunc_int_int__i_valOk_1,g_Aslices_IndexFunc_int_int__i_valOk_1,h1,okO]
 ·simp only [g_Vi_valOk_0,(i_in_f _ _ _).2,e1,g_Vslices_ContainsFunc_int_int__i_valOk_1_0,g_Vslices_IndexFunc_int_int__i_valOk_1_0,h1,valO,Option.getD_some,h2,valP]
  rw [show (l.any fun n => !decide (0 ≤ n ∧ n ≤ 9999)) = !(l.all fun n => decide (0 ≤ n ∧ n ≤ 9999)) by rw [List.not_all_eq_any_not],Bool.not_not]
  cases decide (1 ≤ l.length ∧ l.length ≤ 3) <;> rfl
theorem leq_not:∀ a b:List UInt8,(Go.Op.bytesLess a b || a == b) = !(Go.Op.bytesLess b a)
 | [],[] => rfl
 | [],_ :: _ => rfl
 | _ :: _,[] => rfl
 | a :: x,b :: y => by
  have ih := leq_not x y
  simp only [Go.Op.bytesLess]
  rcases Nat.lt_trichotomy a.toNat b.toNat with h | h | h
  ·have h1:decide (a < b) = true := decide_eq_true (UInt8.lt_iff_toNat_lt.2 h)
   have h2:decide (b < a) = false := decide_eq_false (fun e => by have := UInt8.lt_iff_toNat_lt.1 e; omega)
   have h3:(b == a) = false := by rw [beq_eq_false_iff_ne]; rintro rfl; omega
   simp [h1,h2,h3]
  ·obtain rfl:a = b := UInt8.toNat_inj.1 h
   have h1:decide (a < a) = false := decide_eq_false (fun e => by have := UInt8.lt_iff_toNat_lt.1 e; omega)
   have h2:(a :: x == a :: y) = (x == y) := by simp
   rw [h2,h1]
   simpa using ih
  ·have h1:decide (a < b) = false := decide_eq_false (fun e => by have := UInt8.lt_iff_toNat_lt.1 e; omega)
   have h2:decide (b < a) = true := decide_eq_true (UInt8.lt_iff_toNat_lt.2 h)
   have h3:(a == b) = false := by rw [beq_eq_false_iff_ne]; rintro rfl; omega
   have h4:(a :: x == b :: y) = false := by rw [beq_eq_false_iff_ne]; intro e; injection e with e1 _; subst e1; omega
   rw [h1,h2,h3,h4]
   simp
abbrev TI_:Ty := .pair .str (.sl 3 (.int .i64))
def risesP (l:List (ByteArray×List Int)) (i:Nat):Bool := decide (i = 0) || Op.bytesLess (at_ TI_ l (i - 1)).1.toList (at_ TI_ l i).1.toList
def itemP (l:List (ByteArray×List Int)) (i:Nat):Bool := keyP (at_ TI_ l i).1&&(valP (at_ TI_ l i).2&&risesP l i)
def storeP (l:List (ByteArray×List Int)):Bool := decide (l.length ≤ 40)&&(List.range l.length).all (itemP l)
theorem i_StoOk_loop (l:List (ByteArray×List Int)) (hl:l.length ≤ 1048576) (hit:∀ x ∈ l,x.2.length ≤ 1048576):g_Li_StoOk_0 l (l.length:Int) l 0 = some (bif (List.range l.length).all (itemP l) then .inr () else .inl false) := by
 refine loop_all (ρ := Bool ⊕ Unit) (step := g_Si_StoOk_0 l (l.length:Int) l) (fun i:Nat => (i:Int)) (itemP l) (Sum.inl false) (Sum.inr ()) l.length (fun i hi => ?_) ?_
 ·have k1:(i:Int) < l.length := by omega
  have k2:(0:Int) ≤ (i:Int) := by omega
  have hw:IntKind.wrap .i64 ((i:Int) + 1) = ((i + 1:Nat):Int) := by rw [wrap64 (by omega)]; omega
  obtain ⟨q1,q2⟩ := i_valOk_f (at_ TI_ l i).2 (hit _ (at_mem (e := TI_) hi))
  simp only [g_Si_StoOk_0,RT.sel,cond_true,k1,k2,hw,decide_true,and_self,Int.toNat_natCast,(i_keyOk_f _).1,(i_keyOk_f _).2,q1,q2,itemP,risesP,leq_not]
  generalize keyP (at_ TI_ l i).1 = p
  generalize valP (at_ TI_ l i).2 = q
  by_cases h0:i = 0
  ·subst h0
   cases p <;> cases q <;> simp [RT.sel]
  ·have h1:(i:Int) > 0 := by omega
   have h2:IntKind.wrap .i64 ((i:Int) - 1) = ((i - 1:Nat):Int) := by rw [wrap64 (by omega)]; omega
   have h3:(0:Int) ≤ ((i - 1:Nat):Int) ∧ ((i - 1:Nat):Int) < l.length := by omega
   simp only [h1,h2,h3,decide_true,cond_true,and_self,Int.toNat_natCast,RT.sel,h0,decide_false,Bool.false_or]
   generalize Op.bytesLess _ _ = r
   cases p <;> cases q <;> cases r <;> rfl
 ·simp [g_Si_StoOk_0,RT.sel]
theorem i_StoOk_f (l:List (ByteArray×List Int)) (hl:l.length ≤ 1048576) (hit:∀ x ∈ l,x.2.length ≤ 1048576):g_Ai_StoOk l = true ∧ g_Vi_StoOk_0 l = storeP l := by
 have h := i_StoOk_loop l hl hit
 have e2:decide ((l.length:Int) ≤ 40) = decide (l.length ≤ 40) := decide_eq_decide.2 (by omega)
 constructor
 ·simp [g_Ai_StoOk,h,okO]
 ·simp only [g_Vi_StoOk_0,h,valO,Option.getD_some,e2,storeP]
  cases (List.range l.length).all (itemP l) <;> cases decide (l.length ≤ 40) <;> rfl
def placeP (place:Int) (x:ByteArray×List Int):Bool :=
 let c := byteAt x.1 0
 let n := x.2.length
 let who := at_ (.int .i64) x.2 0
 bif decide (place = 1) then decide (c = 115)&&(decide (x.1.size = 2)&&(decide (n = 1)&&decide (who ≤ 9)))
 else bif decide (place = 2) then decide (x.1.size = 2)&&(decide (who ≤ 9)&&((decide (c = 99)&&decide (n = 2)) || (decide (c = 102)&&(decide (n = 3)&&(decide (1 ≤ at_ (.int .i64) x.2 1 ∧ at_ (.int .i64) x.2 1 ≤ 99)&&decide (at_ (.int .i64) x.2 2 ≤ 1))))))
 else bif decide (place = 3) then decide (c = 97)&&decide (n = 1) else false
structure ItemOk (x:ByteArray×List Int):Prop where
 size:2 ≤ x.1.size ∧ x.1.size ≤ 3
 len:1 ≤ x.2.length ∧ x.2.length ≤ 3
 pos:∀ i,i < x.2.length → 0 ≤ at_ (.int .i64) x.2 i
theorem itemOk_of {x:ByteArray×List Int} (h1:keyP x.1 = true) (h2:valP x.2 = true):ItemOk x := by
 simp only [keyP,valP,Bool.and_eq_true,decide_eq_true_eq,List.all_eq_true] at h1 h2
 exact ⟨h1.1,h2.1,fun i hi => (h2.2 _ (at_mem (e := .int .i64) hi)).1⟩
theorem i_itemOk_f (place:Int) (x:ByteArray×List Int) (h:ItemOk x):g_Ai_itemOk place x.1 x.2 = true ∧ g_Vi_itemOk_0 place x.1 x.2 = placeP place x := by
 obtain ⟨k,v⟩ := x
 obtain ⟨hs,hl,hp⟩ := h
 simp only at hs hl hp ⊢
 have k0:(0:Int) < (k.size:Int) := by omega
 have k1:(0:Int) < (v.length:Int) := by omega
 have p0 := hp 0 (by omega)
 have e0:decide ((0:Int) ≤ at_ (.int .i64) v 0 ∧ at_ (.int .i64) v 0 ≤ 9) = decide (at_ (.int .i64) v 0 ≤ 9) := decide_eq_decide.2 ⟨fun h => h.2,fun h => ⟨p0,h⟩⟩
 have es:((k.size:Int) == 2) = decide (k.size = 2) := by rw [Bool.eq_iff_iff]; simp; omega
 have e1:((v.length:Int) == 1) = decide (v.length = 1) := by rw [Bool.eq_iff_iff]; simp; omega
 have e2:((v.length:Int) == 2) = decide (v.length = 2) := by rw [Bool.eq_iff_iff]; simp; omega
 have e3:((v.length:Int) == 3) = decide (v.length = 3) := by rw [Bool.eq_iff_iff]; simp; omega
 have i1:∀ a b:Int,(a == b) = decide (a = b) := fun _ _ => rfl
 constructor
 ·simp only [g_Ai_itemOk,k0,k1,(i_in_f _ _ _).1,(i_in_f _ _ _).2,es,e1,e2,e3,Int.le_refl,decide_true,and_self,Bool.true_and,Bool.or_true,Bool.and_true]
  by_cases h3:v.length = 3
  ·have k2:(1:Int) < (v.length:Int) := by omega
   have k3:(2:Int) < (v.length:Int) := by omega
   simp [k2,k3]
  ·simp [h3]
 ·simp only [g_Vi_itemOk_0,(i_in_f _ _ _).2,es,e0,e1,e2,e3,placeP,i1]
  by_cases p1:place = 1
  ·subst p1
   simp only [decide_true,cond_true]
   generalize decide (byteAt k 0 = 115) = b1
   generalize decide (k.size = 2) = b2
   generalize decide (v.length = 1) = b3
   generalize decide (at_ (.int .i64) v 0 ≤ 9) = b4
   cases b1 <;> cases b2 <;> cases b3 <;> cases b4 <;> rfl
  ·by_cases p2:place = 2
   ·subst p2
    simp only [decide_true,cond_true,show ¬ ((2:Int) = 1) by decide,decide_false,cond_false]
    have c1:byteAt k 0 = 99 → decide (byteAt k 0 = 102) = false := fun h => by rw [h]; rfl
    have c2:v.length = 3 → decide (v.length = 2) = false := fun h => by rw [h]; rfl
    by_cases hc:byteAt k 0 = 99
    ·rw [c1 hc,decide_eq_true hc]
     generalize decide (k.size = 2) = b2
     generalize decide (v.length = 2) = b3
     generalize decide (at_ (.int .i64) v 0 ≤ 9) = b4
     cases b2 <;> cases b3 <;> cases b4 <;> simp
    ·rw [decide_eq_false hc]
     generalize decide (byteAt k 0 = 102) = b1
     by_cases h3:v.length = 3
     ·rw [c2 h3,decide_eq_true h3]
      generalize decide (k.size = 2) = b2
      generalize decide (at_ (.int .i64) v 0 ≤ 9) = b4
      generalize decide (1 ≤ at_ (.int .i64) v 1 ∧ at_ (.int .i64) v 1 ≤ 99) = b5
      generalize decide (at_ (.int .i64) v 2 ≤ 1) = b6
      cases b1 <;> cases b2 <;> cases b4 <;> cases b5 <;> cases b6 <;> rfl
     ·rw [decide_eq_false h3]
      generalize decide (v.length = 2) = b3
      generalize decide (k.size = 2) = b2
      generalize decide (at_ (.int .i64) v 0 ≤ 9) = b4
      cases b1 <;> cases b2 <;> cases b3 <;> cases b4 <;> rfl
   ·simp only [p1,p2,decide_false,cond_false]
    generalize decide (place = 3) = b0
    generalize decide (byteAt k 0 = 97) = b1
    generalize decide (v.length = 1) = b3
    cases b0 <;> cases b1 <;> cases b3 <;> rfl
def plcP (place:Int) (l:List (ByteArray×List Int)):Bool := decide (1 ≤ place ∧ place ≤ 3)&&(storeP l&&l.all (placeP place))
theorem storeP_item {l:List (ByteArray×List Int)} (h:storeP l = true):∀ x ∈ l,ItemOk x := by
 intro x hx
 simp only [storeP,Bool.and_eq_true,List.all_eq_true,itemP] at h
 obtain ⟨i,hi,rfl⟩ := List.getElem_of_mem hx
 have := h.2 i (List.mem_range.2 hi)
 rw [at_eq (e := TI_) hi] at this
 exact itemOk_of this.1 this.2.1
theorem storeP_len {l:List (ByteArray×List Int)} (h:storeP l = true):l.length ≤ 40 := by
 simp only [storeP,Bool.and_eq_true,decide_eq_true_eq] at h
 exact h.1
theorem anyItem_f (place:Int) (l:List (ByteArray×List Int)) (hl:l.length ≤ 1048576) (hit:∀ x ∈ l,ItemOk x):g_Aslices_ContainsFunc_i_StoItem_i_StoItem__i_PlcOk_1 l place = true ∧ g_Vslices_ContainsFunc_i_StoItem_i_StoItem__i_PlcOk_1_0 l place = !l.all (placeP place) := by
 obtain ⟨r,h1,h2⟩ := loop_idx (e := TI_) l (step := g_Sslices_IndexFunc_i_StoItem_i_StoItem__i_PlcOk_1_0 l place (l.length:Int)) (fun x => !placeP place x) (fun i hi => by
  have h1:(i:Int) < l.length := by omega
  have h2:(0:Int) ≤ (i:Int) := by omega
  have hw:IntKind.wrap .i64 ((i:Int) + 1) = ((i + 1:Nat):Int) := by rw [wrap64 (by omega)]; omega
  obtain ⟨q1,q2⟩ := i_itemOk_f place _ (hit _ (at_mem (e := TI_) hi))
  simp only [g_Sslices_IndexFunc_i_StoItem_i_StoItem__i_PlcOk_1_0,RT.sel,cond_true,h1,h2,hw,decide_true,and_self,Int.toNat_natCast,g_Ai_PlcOk_1,q1,q2]) (by simp [g_Sslices_IndexFunc_i_StoItem_i_StoItem__i_PlcOk_1_0,RT.sel])
 have h1:g_Lslices_IndexFunc_i_StoItem_i_StoItem__i_PlcOk_1_0 l place (l.length:Int) 0 = some r := h1
 constructor
 ·simp [g_Aslices_ContainsFunc_i_StoItem_i_StoItem__i_PlcOk_1,g_Aslices_IndexFunc_i_StoItem_i_StoItem__i_PlcOk_1,h1,okO]
 ·simp only [g_Vslices_ContainsFunc_i_StoItem_i_StoItem__i_PlcOk_1_0,g_Vslices_IndexFunc_i_StoItem_i_StoItem__i_PlcOk_1_0,h1,valO,Option.getD_some,h2,List.not_all_eq_any_not]
theorem i_PlcOk_f (place:Int) (l:List (ByteArray×List Int)) (hl:l.length ≤ 1048576) (hit:∀ x ∈ l,x.2.length ≤ 1048576):g_Ai_PlcOk place l = true ∧ g_Vi_PlcOk_0 place l = plcP place l := by
 obtain ⟨a1,a2⟩ := i_StoOk_f l hl hit
 by_cases hp:1 ≤ place ∧ place ≤ 3
 ·by_cases hs:storeP l = true
  ·obtain ⟨b1,b2⟩ := anyItem_f place l hl (storeP_item hs)
   simp [g_Ai_PlcOk,g_Vi_PlcOk_0,g_Ai_isService,g_Vi_isService_0,(i_in_f _ _ _).1,(i_in_f _ _ _).2,a1,a2,b1,b2,hp,hs,plcP]
  ·simp [g_Ai_PlcOk,g_Vi_PlcOk_0,g_Ai_isService,g_Vi_isService_0,(i_in_f _ _ _).1,(i_in_f _ _ _).2,a1,a2,hp,hs,plcP]
 ·simp [g_Ai_PlcOk,g_Vi_PlcOk_0,g_Ai_isService,g_Vi_isService_0,(i_in_f _ _ _).1,(i_in_f _ _ _).2,hp,plcP]
theorem less_irrefl:∀ a:List UInt8,Op.bytesLess a a = false
 | [] => rfl
 | x :: a => by simp [Op.bytesLess,less_irrefl a]
theorem less_trans:∀ a b c:List UInt8,Op.bytesLess a b = true → Op.bytesLess b c = true → Op.bytesLess a c = true
 | [],[],_,h,_ => by simp [Op.bytesLess] at h
 | [],_ :: _,[],_,h => by simp [Op.bytesLess] at h
 | [],_ :: _,_ :: _,_,_ => rfl
 | _ :: _,[],_,h,_ => by simp [Op.bytesLess] at h
 | _ :: _,_ :: _,[],_,h => by simp [Op.bytesLess] at h
 | x :: a,y :: b,z :: c,h1,h2 => by
  simp only [Op.bytesLess] at h1 h2 ⊢
  have t := less_trans a b c
  simp only [Bool.or_eq_true,Bool.and_eq_true,decide_eq_true_eq,beq_iff_eq] at h1 h2 ⊢
  simp only [UInt8.lt_iff_toNat_lt] at h1 h2 ⊢
  rcases h1 with h1 | ⟨rfl,h1⟩
  ·rcases h2 with h2 | ⟨rfl,h2⟩
   ·left; omega
   ·left; exact h1
  ·rcases h2 with h2 | ⟨rfl,h2⟩
   ·left; exact h2
   ·right; exact ⟨rfl,t h1 h2⟩
theorem compare_lt:∀ a b:List UInt8,decide (Lib.compareBytes a b < 0) = Op.bytesLess a b
 | [],[] => rfl
 | [],_ :: _ => rfl
 | _ :: _,[] => rfl
 | x :: a,y :: b => by
  simp only [Lib.compareBytes,Op.bytesLess]
  by_cases h:x < y
  ·simp [h]
  ·by_cases h2:y < x
   ·have:x ≠ y := fun e => by subst e; exact h h2
    simp [h,h2,this]
   ·have:x = y := by
     apply UInt8.toNat_inj.1
     rw [UInt8.lt_iff_toNat_lt] at h h2
     omega
    subst this
    simp [h,compare_lt a b]
theorem compare_eq:∀ a b:List UInt8,(Lib.compareBytes a b == 0) = (a == b)
 | [],[] => rfl
 | [],_ :: _ => rfl
 | _ :: _,[] => rfl
 | x :: a,y :: b => by
  simp only [Lib.compareBytes]
  by_cases h:x < y
  ·have:x ≠ y := fun e => by subst e; rw [UInt8.lt_iff_toNat_lt] at h; omega
   simp [h,this]
  ·by_cases h2:y < x
   ·have:x ≠ y := fun e => by subst e; exact h h2
    simp [h,h2,this]
   ·have:x = y := by
     apply UInt8.toNat_inj.1
     rw [UInt8.lt_iff_toNat_lt] at h h2
     omega
    subst this
    have := compare_eq a b
    simp [h]
    simpa using this
theorem rises_lt {l:List (ByteArray×List Int)} (h:storeP l = true):∀ (d i:Nat),i + (d + 1) < l.length → Op.bytesLess (at_ TI_ l i).1.toList (at_ TI_ l (i + (d + 1))).1.toList = true := by
 simp only [storeP,Bool.and_eq_true,List.all_eq_true,itemP] at h
 have one:∀ i,i + 1 < l.length → Op.bytesLess (at_ TI_ l i).1.toList (at_ TI_ l (i + 1)).1.toList = true := by
  intro i hi
  have := (h.2 (i + 1) (List.mem_range.2 hi)).2.2
  simpa [risesP] using this
 intro d
 induction d with
 | zero => intro i hi; exact one i hi
 | succ d ih =>
  intro i hi
  exact less_trans _ _ _ (ih i (by omega)) (one (i + (d + 1)) (by omega))
def posP (l:List (ByteArray×List Int)) (key:ByteArray):Nat := (l.takeWhile fun x => Op.bytesLess x.1.toList key.toList).length
theorem pos_le (l:List (ByteArray×List Int)) (key:ByteArray):posP l key ≤ l.length := (List.takeWhile_sublist _).length_le
theorem pos_lt {l:List (ByteArray×List Int)} (h:storeP l = true) (key:ByteArray) (i:Nat) (hi:i < l.length):Op.bytesLess (at_ TI_ l i).1.toList key.toList = decide (i < posP l key) := by
 have h1:∀ (l:List (ByteArray×List Int)) (i:Nat),i < posP l key → ∃ h:i < l.length,Op.bytesLess (l[i]'h).1.toList key.toList = true := by
  intro l
  induction l with
  | nil => intro i hi; simp [posP] at hi
  | cons x l ih =>
   intro i hi
   unfold posP at hi
   by_cases hx:Op.bytesLess x.1.toList key.toList = true
   ·rw [List.takeWhile_cons_of_pos (p := fun x:ByteArray×List Int => Op.bytesLess x.1.toList key.toList) hx] at hi
    cases i with
    | zero => exact ⟨by simp,hx⟩
    | succ i =>
     obtain ⟨a,b⟩ := ih i (by unfold posP; simpa using hi)
     exact ⟨by simp; omega,by simpa using b⟩
   ·rw [List.takeWhile_cons_of_neg (p := fun x:ByteArray×List Int => Op.bytesLess x.1.toList key.toList) hx] at hi
    simp at hi
 have h2:∀ (l:List (ByteArray×List Int)) (h:posP l key < l.length),Op.bytesLess (l[posP l key]'h).1.toList key.toList = false := by
  intro l
  induction l with
  | nil => intro h; simp at h
  | cons x l ih =>
   intro h
   by_cases hx:Op.bytesLess x.1.toList key.toList = true
   ·have e:posP (x :: l) key = posP l key + 1 := by unfold posP; rw [List.takeWhile_cons_of_pos (p := fun x:ByteArray×List Int => Op.bytesLess x.1.toList key.toList) hx]; rfl
    have := ih (by rw [e] at h; simpa using h)
    simp only [e,List.getElem_cons_succ]
    exact this
   ·have e:posP (x :: l) key = 0 := by unfold posP; rw [List.takeWhile_cons_of_neg (p := fun x:ByteArray×List Int => Op.bytesLess x.1.toList key.toList) hx]; rfl
    simp only [e,List.getElem_cons_zero]
    simpa using hx
 by_cases hp:i < posP l key
 ·obtain ⟨a,b⟩ := h1 l i hp
  rw [at_eq (e := TI_) hi,decide_eq_true hp]
  exact b
 ·rw [decide_eq_false hp]
  have hp2:posP l key < l.length := by omega
  have hb := h2 l hp2
  cases hl:Op.bytesLess (at_ TI_ l i).1.toList key.toList with
  | false => rfl
  | true =>
   exfalso
   by_cases e:i = posP l key
   ·subst e
    rw [at_eq (e := TI_) hi] at hl
    rw [hl] at hb
    cases hb
   ·have hr := rises_lt h (i - posP l key - 1) (posP l key) (by omega)
    rw [show posP l key + (i - posP l key - 1 + 1) = i by omega] at hr
    have := less_trans _ _ _ hr hl
    rw [at_eq (e := TI_) hp2] at this
    rw [this] at hb
    cases hb
def getP (l:List (ByteArray×List Int)) (key:ByteArray):Option (List Int) := (l.find? fun x => x.1.toList == key.toList).map (·.2)
theorem pos_of {l:List (ByteArray×List Int)} (h:storeP l = true) {key:ByteArray} {i:Nat} (hi:i < l.length) (he:(at_ TI_ l i).1.toList = key.toList):i = posP l key := by
 have h1 := pos_lt h key i hi
 rw [he,less_irrefl] at h1
 have h1:¬ i < posP l key := by simpa using h1.symm
 by_cases e:i = posP l key
 ·exact e
 ·exfalso
  have hp2:posP l key < l.length := by omega
  have hr := rises_lt h (i - posP l key - 1) (posP l key) (by omega)
  rw [show posP l key + (i - posP l key - 1 + 1) = i by omega,he] at hr
  have := pos_lt h key (posP l key) hp2
  rw [hr] at this
  simp at this
theorem get_pos {l:List (ByteArray×List Int)} (h:storeP l = true) (key:ByteArray):getP l key = if posP l key < l.length ∧ (at_ TI_ l (posP l key)).1.toList = key.toList then some (at_ TI_ l (posP l key)).2 else none := by
 unfold getP
 split
 ·rename_i hp
  have:l.find? (fun x => x.1.toList == key.toList) = some (at_ TI_ l (posP l key)) := by
   rw [List.find?_eq_some_iff_getElem]
   refine ⟨by simpa using hp.2,posP l key,hp.1,(at_eq (e := TI_) hp.1).symm,fun j hj => ?_⟩
   have hjl:j < l.length := by omega
   simp only [Bool.not_eq_true',beq_eq_false_iff_ne]
   intro e
   have := pos_of (key := key) h hjl (by rw [at_eq (e := TI_) hjl]; exact e)
   omega
  rw [this]
  rfl
 ·rename_i hp
  have:l.find? (fun x => x.1.toList == key.toList) = none := by
   rw [List.find?_eq_none]
   intro x hx e
   obtain ⟨i,hi,rfl⟩ := List.getElem_of_mem hx
   have e:l[i].1.toList = key.toList := by simpa using e
   have hi2 := pos_of h (key := key) hi (by rw [at_eq (e := TI_) hi]; exact e)
   apply hp
   rw [← hi2]
   exact ⟨hi,by rw [at_eq (e := TI_) hi]; exact e⟩
  rw [this]
  rfl
theorem loop_inv {σ ρ:Type} {step:σ → RT σ ρ} (I:σ → Prop) (R:ρ → Prop) (μ:σ → Nat) (h:∀ x,I x → (∃ y,(step x).sel = .go y ∧ I y ∧ μ y < μ x) ∨ ∃ r,(step x).sel = .out r ∧ R r):∀ x,I x → ∃ r,loopO step x = some r ∧ R r := by
 have key:∀ n x,μ x ≤ n → I x → ∃ r,loopO step x = some r ∧ R r := by
  intro n
  induction n with
  | zero =>
   intro x hx hI
   rcases h x hI with ⟨y,_,_,h3⟩ | ⟨r,h1,h2⟩
   ·omega
   ·exact ⟨r,by rw [loopO_eq,h1],h2⟩
  | succ n ih =>
   intro x hx hI
   rcases h x hI with ⟨y,h1,h2,h3⟩ | ⟨r,h1,h2⟩
   ·obtain ⟨r,e1,e2⟩ := ih y (by omega) h2
    exact ⟨r,by rw [loopO_eq,h1]; exact e1,e2⟩
   ·exact ⟨r,by rw [loopO_eq,h1],h2⟩
 exact fun x hI => key (μ x) x (Nat.le_refl _) hI
theorem cond_f' (a b:Bool):(bif a then b else false) = (a&&b) := by cases a <;> rfl
theorem capE_f (a b k:Nat) (h:a + b ≤ 1100000) (hk:k ≤ 1000):decide ((a + b) * k ≤ nat_lit 140737488355328 ∧ a + b ≤ nat_lit 9223372036854775807) = true := by
 refine decide_eq_true ⟨Nat.le_trans (Nat.mul_le_mul h hk) (by decide),by show a + b ≤ 9223372036854775807; omega⟩
def wr (k:ByteArray) (d:Bool) (v:List Int):Bool → List (ByteArray×List Int) → List (ByteArray×List Int)×Bool
 | done,[] => ([],done)
 | done,it :: r =>
  let ins := !done&&Op.bytesLess k.toList it.1.toList
  let pre := bif ins then [(k,v)] else []
  bif it.1.toList == k.toList then
   bif !d then (pre ++ (k,v) :: (wr k d v true r).1,(wr k d v true r).2)
   else (pre ++ (wr k d v (done || ins) r).1,(wr k d v (done || ins) r).2)
  else (pre ++ it :: (wr k d v (done || ins) r).1,(wr k d v (done || ins) r).2)
def writeS (l:List (ByteArray×List Int)) (k:ByteArray) (d:Bool) (v:List Int):List (ByteArray×List Int) := bif (wr k d v d l).2 then (wr k d v d l).1 else (wr k d v d l).1 ++ [(k,v)]
def doL:List (ByteArray×List Int) → List (ByteArray×Bool×List Int) → Option (List (ByteArray×List Int))
 | l,[] => some l
 | l,w :: ws => bif wrtP w.1 w.2.1 w.2.2 then bif decide ((writeS l w.1 w.2.1 w.2.2).length ≤ 40) then doL (writeS l w.1 w.2.1 w.2.2) ws else none else none
def doS (l:List (ByteArray×List Int)) (ws:List (ByteArray×Bool×List Int)):List (ByteArray×List Int) := bif storeP l then (doL l ws).getD [] else []
abbrev Item:Type := ByteArray×List Int
abbrev Wrt:Type := ByteArray×Bool×List Int
def Lt (a b:ByteArray):Prop := Op.bytesLess a.toList b.toList = true
def Srt (l:List Item):Prop := l.Pairwise fun a b => Lt a.1 b.1
instance (a b:ByteArray):Decidable (Lt a b) := by unfold Lt; infer_instance
theorem toList_inj {a b:ByteArray} (h:a.toList = b.toList):a = b := by
 rw [ByteArray.toList_eq,ByteArray.toList_eq] at h
 cases a; cases b
 congr
 exact Array.toList_inj.1 h
theorem lt_irrefl (a:ByteArray):¬ Lt a a := by unfold Lt; rw [less_irrefl]; simp
theorem lt_trans {a b c:ByteArray} (h1:Lt a b) (h2:Lt b c):Lt a c := less_trans _ _ _ h1 h2
theorem lt_asymm {a b:ByteArray} (h1:Lt a b) (h2:Lt b a):False := lt_irrefl a (lt_trans h1 h2)
theorem lt_tri (a b:ByteArray):Lt a b ∨ a = b ∨ Lt b a := by
 have h := leq_not a.toList b.toList
 unfold Lt
 cases h1:Op.bytesLess a.toList b.toList
 ·rw [h1,Bool.false_or] at h
  cases h2:Op.bytesLess b.toList a.toList
  ·rw [h2] at h
   exact .inr (.inl (toList_inj (by simpa using h)))
  ·exact .inr (.inr rfl)
 ·exact .inl rfl
theorem lt_ne {a b:ByteArray} (h:Lt a b):a ≠ b := fun e => by subst e; exact lt_irrefl _ h
theorem beq_list (a b:ByteArray):(a.toList == b.toList) = decide (a = b) := by
 rw [Bool.eq_iff_iff,beq_iff_eq,decide_eq_true_eq]
 exact ⟨toList_inj,fun e => by rw [e]⟩
theorem less_not {a b:ByteArray} (h:¬ Lt a b):Op.bytesLess a.toList b.toList = false := by
 unfold Lt at h; simpa using h
def okI' (x:Item):Bool := keyP x.1&&valP x.2
theorem storeP_iff (l:List Item):storeP l = true ↔ l.length ≤ 40 ∧ (∀ x ∈ l,okI' x = true) ∧ Srt l := by
 constructor
 ·intro h
  have h' := h
  simp only [storeP,Bool.and_eq_true,decide_eq_true_eq,List.all_eq_true,itemP] at h
  refine ⟨h.1,fun x hx => ?_,?_⟩
  ·obtain ⟨i,hi,rfl⟩ := List.getElem_of_mem hx
   have := h.2 i (List.mem_range.2 hi)
   rw [at_eq (e := TI_) hi] at this
   simp [okI',this.1,this.2.1]
  ·unfold Srt
   rw [List.pairwise_iff_getElem]
   intro i j hi hj hij
   have := rises_lt h' (j - i - 1) i (by omega)
   rw [show i + (j - i - 1 + 1) = j by omega,at_eq (e := TI_) hi,at_eq (e := TI_) hj] at this
   exact this
 ·rintro ⟨h1,h2,h3⟩
  simp only [storeP,Bool.and_eq_true,decide_eq_true_eq,List.all_eq_true,itemP]
  refine ⟨h1,fun i hi => ?_⟩
  have hi := List.mem_range.1 hi
  have a := h2 _ (List.getElem_mem hi)
  rw [at_eq (e := TI_) hi]
  simp only [okI',Bool.and_eq_true] at a
  refine ⟨a.1,a.2,?_⟩
  unfold risesP
  by_cases e:i = 0
  ·simp [e]
  ·have := (List.pairwise_iff_getElem.1 h3) (i - 1) i (by omega) hi (by omega)
   rw [at_eq (e := TI_) hi,at_eq (e := TI_) (show i - 1 < l.length by omega)]
   unfold Lt at this
   simp only [this,Bool.or_true]
theorem srt_tail {x:Item} {l:List Item} (h:Srt (x :: l)):Srt l ∧ ∀ y ∈ l,Lt x.1 y.1 := by
 unfold Srt at h
 rw [List.pairwise_cons] at h
 exact ⟨h.2,h.1⟩
theorem wr_true (k:ByteArray) (d:Bool) (v:List Int):∀ r:List Item,(∀ x ∈ r,Lt k x.1) → wr k d v true r = (r,true)
 | [],_ => rfl
 | it :: r,h => by
  have h1 := h it List.mem_cons_self
  have ih := wr_true k d v r (fun x hx => h x (List.mem_cons_of_mem _ hx))
  have e:(it.1.toList == k.toList) = false := by rw [beq_list]; exact decide_eq_false fun e => lt_ne h1 e.symm
  simp only [wr,e,Bool.not_true,Bool.false_and,Bool.or_false,ih,cond_false,List.nil_append]
theorem writeS_nil (k:ByteArray) (d:Bool) (v:List Int):writeS [] k d v = bif d then [] else [(k,v)] := by
 cases d <;> rfl
theorem writeS_lt {k:ByteArray} {it:Item} (h:Lt it.1 k) (d:Bool) (v:List Int) (r:List Item):writeS (it :: r) k d v = it :: writeS r k d v := by
 have e:(it.1.toList == k.toList) = false := by rw [beq_list]; exact decide_eq_false (lt_ne h)
 have e2:Op.bytesLess k.toList it.1.toList = false := less_not fun h2 => lt_asymm h h2
 simp only [writeS,wr,e,e2,Bool.and_false,Bool.or_false,cond_false,List.nil_append]
 cases (wr k d v d r).2 <;> rfl
theorem writeS_eq {k:ByteArray} {it:Item} (h:it.1 = k) (d:Bool) (v:List Int) (r:List Item) (hr:∀ x ∈ r,Lt k x.1):writeS (it :: r) k d v = bif d then r else (k,v) :: r := by
 have e:(it.1.toList == k.toList) = true := by rw [h]; simp
 have e2:Op.bytesLess k.toList it.1.toList = false := by rw [h]; exact less_irrefl _
 cases d
 ·simp only [writeS,wr,e,e2,Bool.and_false,Bool.or_false,cond_false,cond_true,List.nil_append,Bool.not_false,wr_true k false v r hr]
 ·simp only [writeS,wr,e,e2,Bool.and_false,Bool.or_false,cond_false,cond_true,List.nil_append,Bool.not_true,wr_true k true v r hr]
theorem writeS_gt {k:ByteArray} {it:Item} (h:Lt k it.1) (d:Bool) (v:List Int) (r:List Item) (hr:∀ x ∈ r,Lt k x.1):writeS (it :: r) k d v = bif d then it :: r else (k,v) :: it :: r := by
 have e:(it.1.toList == k.toList) = false := by rw [beq_list]; exact decide_eq_false fun e => lt_ne h e.symm
 have e2:Op.bytesLess k.toList it.1.toList = true := h
 cases d
 ·simp only [writeS,wr,e,e2,Bool.not_false,Bool.and_true,Bool.or_true,Bool.true_and,cond_false,cond_true,List.cons_append,List.nil_append,wr_true k false v r hr]
 ·simp only [writeS,wr,e,e2,Bool.not_true,Bool.false_and,Bool.or_false,cond_false,cond_true,List.nil_append,wr_true k true v r hr]
theorem writeS_mem {k:ByteArray} (d:Bool) (v:List Int):∀ {l:List Item},Srt l → ∀ x ∈ writeS l k d v,x ∈ l ∨ (d = false ∧ x = (k,v))
 | [],_,x,hx => by
  rw [writeS_nil] at hx
  cases d
  ·exact .inr ⟨rfl,by simpa using hx⟩
  ·cases hx
 | it :: r,hs,x,hx => by
  obtain ⟨h1,h2⟩ := srt_tail hs
  rcases lt_tri it.1 k with h | h | h
  ·rw [writeS_lt h] at hx
   rcases List.mem_cons.1 hx with rfl | hx
   ·exact .inl List.mem_cons_self
   ·rcases writeS_mem d v h1 x hx with h | h
    ·exact .inl (List.mem_cons_of_mem _ h)
    ·exact .inr h
  ·rw [writeS_eq h d v r (fun y hy => h ▸ h2 y hy)] at hx
   cases d
   ·rcases List.mem_cons.1 hx with rfl | hx
    ·exact .inr ⟨rfl,rfl⟩
    ·exact .inl (List.mem_cons_of_mem _ hx)
   ·exact .inl (List.mem_cons_of_mem _ hx)
  ·rw [writeS_gt h d v r (fun y hy => lt_trans h (h2 y hy))] at hx
   cases d
   ·rcases List.mem_cons.1 hx with rfl | hx
    ·exact .inr ⟨rfl,rfl⟩
    ·exact .inl hx
   ·exact .inl hx
theorem writeS_srt {k:ByteArray} (d:Bool) (v:List Int):∀ {l:List Item},Srt l → Srt (writeS l k d v)
 | [],_ => by rw [writeS_nil]; cases d <;> simp [Srt]
 | it :: r,hs => by
  obtain ⟨h1,h2⟩ := srt_tail hs
  rcases lt_tri it.1 k with h | h | h
  ·rw [writeS_lt h]
   refine List.pairwise_cons.2 ⟨fun x hx => ?_,writeS_srt d v h1⟩
   rcases writeS_mem d v h1 x hx with hx | ⟨_,rfl⟩
   ·exact h2 x hx
   ·exact h
  ·rw [writeS_eq h d v r (fun y hy => h ▸ h2 y hy)]
   cases d
   ·exact List.pairwise_cons.2 ⟨fun x hx => h ▸ h2 x hx,h1⟩
   ·exact h1
  ·rw [writeS_gt h d v r (fun y hy => lt_trans h (h2 y hy))]
   cases d
   ·refine List.pairwise_cons.2 ⟨fun x hx => ?_,hs⟩
    rcases List.mem_cons.1 hx with rfl | hx
    ·exact h
    ·exact lt_trans h (h2 x hx)
   ·exact hs
theorem writeS_store {l:List Item} (h:storeP l = true) {k:ByteArray} {d:Bool} {v:List Int} (hw:wrtP k d v = true) (hl:(writeS l k d v).length ≤ 40):storeP (writeS l k d v) = true := by
 rw [storeP_iff] at h ⊢
 refine ⟨hl,fun x hx => ?_,writeS_srt d v h.2.2⟩
 rcases writeS_mem d v h.2.2 x hx with hx | ⟨rfl,rfl⟩
 ·exact h.2.1 x hx
 ·simpa [wrtP,okI'] using hw
theorem doL_store:∀ (ws:List Wrt) (l r:List Item),storeP l = true → doL l ws = some r → storeP r = true
 | [],l,r,h,e => by simp only [doL,Option.some.injEq] at e; subst e; exact h
 | w :: ws,l,r,h,e => by
  simp only [doL] at e
  cases hw:wrtP w.1 w.2.1 w.2.2
  ·rw [hw] at e; cases e
  ·rw [hw,cond_true] at e
   by_cases hl:(writeS l w.1 w.2.1 w.2.2).length ≤ 40
   ·rw [decide_eq_true hl,cond_true] at e
    exact doL_store ws _ r (writeS_store h hw hl) e
   ·rw [decide_eq_false hl] at e; cases e
theorem storeP_nil:storeP [] = true := by decide
theorem doS_store (l:List Item) (ws:List Wrt):storeP (doS l ws) = true := by
 unfold doS
 cases h:storeP l
 ·exact storeP_nil
 ·rw [cond_true]
  cases e:doL l ws with
  | none => exact storeP_nil
  | some r => exact doL_store ws l r h e
theorem getP_cons (it:Item) (l:List Item) (key:ByteArray):getP (it :: l) key = bif decide (it.1 = key) then some it.2 else getP l key := by
 unfold getP
 rw [List.find?_cons,beq_list]
 cases decide (it.1 = key) <;> rfl
theorem getP_gt {key:ByteArray}:∀ {l:List Item},(∀ x ∈ l,Lt key x.1) → getP l key = none
 | [],_ => rfl
 | it :: l,h => by
  rw [getP_cons,decide_eq_false fun e => lt_ne (h it List.mem_cons_self) e.symm,cond_false]
  exact getP_gt fun x hx => h x (List.mem_cons_of_mem _ hx)
theorem getP_write {k:ByteArray} (d:Bool) (v:List Int) (key:ByteArray):∀ {l:List Item},Srt l → getP (writeS l k d v) key = bif decide (k = key) then (bif d then none else some v) else getP l key
 | [],_ => by
  rw [writeS_nil]
  cases d
  ·rw [cond_false,getP_cons]; rfl
  ·cases decide (k = key) <;> rfl
 | it :: r,hs => by
  obtain ⟨h1,h2⟩ := srt_tail hs
  rcases lt_tri it.1 k with h | h | h
  ·rw [writeS_lt h,getP_cons,getP_cons,getP_write d v key h1]
   by_cases e:k = key
   ·subst e
    rw [decide_eq_true rfl,decide_eq_false (lt_ne h)]
    rfl
   ·rw [decide_eq_false e]
    rfl
  ·rw [writeS_eq h d v r (fun y hy => h ▸ h2 y hy),getP_cons,h]
   cases d
   ·rw [cond_false,getP_cons]
    cases decide (k = key) <;> rfl
   ·rw [cond_true]
    by_cases e:k = key
    ·subst e
     rw [decide_eq_true rfl]
     exact getP_gt fun y hy => h ▸ h2 y hy
    ·rw [decide_eq_false e]; rfl
  ·rw [writeS_gt h d v r (fun y hy => lt_trans h (h2 y hy))]
   cases d
   ·rw [cond_false,getP_cons]; rfl
   ·rw [cond_true]
    by_cases e:k = key
    ·subst e
     rw [decide_eq_true rfl,cond_true,getP_gt]
     ·rfl
     ·intro x hx
      rcases List.mem_cons.1 hx with rfl | hx
      ·exact h
      ·exact lt_trans h (h2 x hx)
    ·rw [decide_eq_false e]; rfl
theorem posP_cons (it:Item) (l:List Item) (key:ByteArray):posP (it :: l) key = if Lt it.1 key then posP l key + 1 else 0 := by
 unfold posP
 by_cases h:Lt it.1 key
 ·rw [if_pos h,List.takeWhile_cons_of_pos (p := fun x:Item => Op.bytesLess x.1.toList key.toList) h]; rfl
 ·rw [if_neg h,List.takeWhile_cons_of_neg (p := fun x:Item => Op.bytesLess x.1.toList key.toList) (by simp only [less_not h]; simp)]; rfl
def putP (l:List Item) (k:ByteArray) (d:Bool) (v:List Int):List Item :=
 if (getP l k).isSome then (bif d then l.eraseIdx (posP l k) else l.set (posP l k) (k,v)) else bif d then l else l.take (posP l k) ++ (k,v) :: l.drop (posP l k)
theorem write_put (k:ByteArray) (d:Bool) (v:List Int):∀ {l:List Item},Srt l → writeS l k d v = putP l k d v
 | [],_ => by rw [writeS_nil]; cases d <;> rfl
 | it :: r,hs => by
  obtain ⟨h1,h2⟩ := srt_tail hs
  rcases lt_tri it.1 k with h | h | h
  ·rw [writeS_lt h,write_put k d v h1]
   unfold putP
   rw [getP_cons,decide_eq_false (lt_ne h),cond_false,posP_cons,if_pos h]
   split
   ·cases d <;> rfl
   ·cases d
    ·simp
    ·rfl
  ·rw [writeS_eq h d v r (fun y hy => h ▸ h2 y hy)]
   unfold putP
   rw [getP_cons,decide_eq_true h,cond_true,if_pos (show (some it.2).isSome = true from rfl),posP_cons,if_neg (by rw [h]; exact lt_irrefl k)]
   cases d <;> simp
  ·rw [writeS_gt h d v r (fun y hy => lt_trans h (h2 y hy))]
   unfold putP
   rw [getP_gt,posP_cons,if_neg (fun h2 => lt_asymm h h2)]
   ·cases d <;> simp
   ·intro x hx
    rcases List.mem_cons.1 hx with rfl | hx
    ·exact h
    ·exact lt_trans h (h2 x hx)
abbrev Plan:Type := Bool×List ByteArray×List Wrt
abbrev nth (v:List Int) (n:Nat):Int := at_ (.int .i64) v n
noncomputable abbrev nm (c:Nat) (n:Int):ByteArray := lit [c] ++ g_Vs_l3Digit_0 n
noncomputable abbrev nmA (n:Int):ByteArray := lit [97] ++ g_Vs_l3Plain_0 n
def noP (ls:List ByteArray):Plan := (false,ls,[])
noncomputable def inP (l:List Item) (k w i:Int):Plan :=
 match getP l (nm 115 i) with
 | none => bif k == 1 then (true,[nm 115 i],[(nm 115 i,false,[w])]) else noP [nm 115 i]
 | some v => bif k == 1 then noP [nm 115 i] else bif nth v 0 == w then (true,[nm 115 i],bif k == 5 then [(nm 115 i,true,[])] else []) else noP [nm 115 i]
noncomputable def tradeP (l:List Item) (c s f:Int):Plan :=
 match getP l (nm 99 c) with
 | none => noP [nm 99 c,nm 102 f]
 | some v => bif (getP l (nm 102 f)).isSome || !(nth v 1 == g_Vs_SecSum_0 s) then noP [nm 99 c,nm 102 f]
  else (true,[nm 99 c,nm 102 f,nm 117 (nth v 0)],[(nm 99 c,true,[]),(nm 102 f,false,[nth v 0,1,1])])
noncomputable def nextP (l:List Item) (f g:Int):Plan :=
 match getP l (nm 102 f) with
 | none => noP [nm 102 f]
 | some v => bif (nth v 2 == 0) || (decide (g > nth v 1) || ((g == 0) || (nth v 1 == 99))) then noP [nm 102 f]
  else (true,[nm 102 f,nm 117 (nth v 0)],[(nm 102 f,false,bif decide (g < nth v 1) then [nth v 0,nth v 1,0] else [nth v 0,nth v 1 + 1,1])])
def famP (w:Int) (x:Item):Bool := (byteAt x.1 0 == 102)&&((nth x.2 0 == w)&&(nth x.2 2 == 1))
noncomputable def outP (l:List Item) (w:Int):Plan := (true,nm 117 w :: (l.filter (famP w)).map (·.1),(l.filter (famP w)).map fun x => (x.1,false,[nth x.2 0,nth x.2 1,0]))
noncomputable def letP (l:List Item) (w c s:Int):Plan :=
 bif (getP l (nm 99 c)).isSome then noP [nm 99 c] else (true,[nm 99 c],[(nm 99 c,false,[w,g_Vs_SecSum_0 s])])
noncomputable def mayP (l:List Item) (k w c s f g:Int):Plan :=
 bif k == 2 then letP l w c s else bif k == 3 then tradeP l c s f else bif k == 4 then nextP l f g else outP l w
noncomputable def doneP (l:List Item) (tx k:Int):Plan :=
 bif (getP l (nmA tx)).isSome then noP [nmA tx] else (true,[nmA tx],[(nmA tx,false,[k])])
noncomputable def planL (place:Int) (l:List Item) (tx k w i c s f g:Int):Plan :=
 bif place == 1 then inP l k w i else bif place == 2 then mayP l k w c s f g else doneP l tx k
theorem get_item {l:List Item} {key:ByteArray} {v:List Int} (h:getP l key = some v):(key,v) ∈ l := by
 unfold getP at h
 cases hf:l.find? fun x => x.1.toList == key.toList with
 | none => rw [hf] at h; cases h
 | some x =>
  rw [hf] at h
  simp only [Option.map_some,Option.some.injEq] at h
  have h1 := List.find?_some hf
  have h2 := List.mem_of_find?_eq_some hf
  have h3:x.1 = key := toList_inj (by simpa using h1)
  rw [← h,← h3]
  exact h2
theorem byte_c (n:Int):byteAt (nm 99 n) 0 = 99 := rfl
theorem byte_f (n:Int):byteAt (nm 102 n) 0 = 102 := rfl
theorem byte_s (n:Int):byteAt (nm 115 n) 0 = 115 := rfl
theorem plc_store {p:Int} {l:List Item} (h:plcP p l = true):storeP l = true := by
 simp only [plcP,Bool.and_eq_true] at h
 exact h.2.1
theorem plc_item {p:Int} {l:List Item} (h:plcP p l = true) {x:Item} (hx:x ∈ l):placeP p x = true ∧ ItemOk x := by
 refine ⟨?_,storeP_item (plc_store h) x hx⟩
 simp only [plcP,Bool.and_eq_true,List.all_eq_true] at h
 exact h.2.2 x hx
theorem may_item {x:Item} (h:placeP 2 x = true):x.1.size = 2 ∧ nth x.2 0 ≤ 9 ∧ ((byteAt x.1 0 = 99 ∧ x.2.length = 2) ∨ (byteAt x.1 0 = 102 ∧ x.2.length = 3 ∧ (1 ≤ nth x.2 1 ∧ nth x.2 1 ≤ 99) ∧ nth x.2 2 ≤ 1)) := by
 unfold placeP at h
 simp only [show ¬ ((2:Int) = 1) by decide,decide_false,decide_true,cond_false,cond_true,Bool.and_eq_true,Bool.or_eq_true,decide_eq_true_eq] at h
 exact h
theorem code_get {l:List Item} (h:plcP 2 l = true) {c:Int} {v:List Int} (hv:getP l (nm 99 c) = some v):v.length = 2 := by
 have hx := plc_item h (get_item hv)
 have := may_item hx.1
 rw [byte_c] at this
 rcases this.2.2 with h1 | h1
 ·exact h1.2
 ·exact absurd h1.1 (by decide)
theorem fam_get {l:List Item} (h:plcP 2 l = true) {f:Int} {v:List Int} (hv:getP l (nm 102 f) = some v):v.length = 3 ∧ (1 ≤ nth v 1 ∧ nth v 1 ≤ 99) ∧ nth v 2 ≤ 1 := by
 have hx := plc_item h (get_item hv)
 have := may_item hx.1
 rw [byte_f] at this
 rcases this.2.2 with h1 | h1
 ·exact absurd h1.1 (by decide)
 ·exact h1.2
theorem capF_f (a b k:Nat) (h:a + b ≤ 2200000) (hk:k ≤ 1000):decide ((a + b) * k ≤ nat_lit 140737488355328 ∧ a + b ≤ nat_lit 9223372036854775807) = true := by
 have:(a + b) * k ≤ 2200000 * 1000 := Nat.mul_le_mul h hk
 exact decide_eq_true ⟨Nat.le_trans this (by decide),Nat.le_trans h (by decide)⟩
theorem cap0_f (b k:Nat) (h:b ≤ 1048576) (hk:k ≤ 1000):decide ((nat_lit 0 + b) * k ≤ nat_lit 140737488355328 ∧ nat_lit 0 + b ≤ nat_lit 9223372036854775807) = true := capF_f 0 b k (by omega) hk
theorem loop_app {e:Ty} {σ ρ β:Type} {step:σ → RT σ ρ} (l:List e.den) (mk:Int → List β → σ) (g:e.den → β) (out:List β → ρ)
  (h1:∀ (i:Nat) (r:List β),i < l.length → r.length = i → (step (mk (i:Int) r)).sel = .go (mk ((i + 1:Nat):Int) (r ++ [g (at_ e l i)])))
  (h2:∀ r:List β,r.length = l.length → (step (mk (l.length:Int) r)).sel = .out (out r)):loopO step (mk 0 []) = some (out (l.map g)) := by
 have key:∀ (k i:Nat) (r:List β),i + k = l.length → r = (l.take i).map g → loopO step (mk (i:Int) r) = some (out (l.map g)) := by
  intro k
  induction k with
  | zero =>
   intro i r hi hr
   have hi:i = l.length := by omega
   subst hi
   rw [List.take_length] at hr
   rw [loopO_eq,h2 r (by rw [hr,List.length_map]),hr]
  | succ k ih =>
   intro i r hi hr
   have hil:i < l.length := by omega
   rw [loopO_eq,h1 i r hil (by rw [hr,List.length_map,List.length_take]; omega)]
   simp only
   refine ih (i + 1) _ (by omega) ?_
   rw [hr,at_eq hil,List.take_succ_eq_append_getElem hil,List.map_append]
   rfl
 exact key l.length 0 [] (by omega) (by simp)
def foldS {α β:Type} (f:List β → α → α):List β → α → α
 | [],a => a
 | x :: r,a => foldS f r (f (x :: r) a)
theorem loop_foldS {e:Ty} {σ ρ α:Type} {step:σ → RT σ ρ} (l:List e.den) (mk:Int → α → σ) (f:List e.den → α → α) (out:α → ρ) (J:Nat → α → Prop)
  (h1:∀ (i:Nat) (a:α),i < l.length → J i a → (step (mk (i:Int) a)).sel = .go (mk ((i + 1:Nat):Int) (f (l.drop i) a)) ∧ J (i + 1) (f (l.drop i) a))
  (h2:∀ a:α,(step (mk (l.length:Int) a)).sel = .out (out a)) (a0:α) (h0:J 0 a0):loopO step (mk 0 a0) = some (out (foldS f l a0)) ∧ J l.length (foldS f l a0) := by
 have key:∀ (k i:Nat) (a:α),i + k = l.length → J i a → loopO step (mk (i:Int) a) = some (out (foldS f (l.drop i) a)) ∧ J l.length (foldS f (l.drop i) a) := by
  intro k
  induction k with
  | zero =>
   intro i a hi hJ
   have hi:i = l.length := by omega
   subst hi
   rw [loopO_eq,h2 a,List.drop_length]
   exact ⟨rfl,hJ⟩
  | succ k ih =>
   intro i a hi hJ
   have hil:i < l.length := by omega
   obtain ⟨e1,e2⟩ := h1 i a hil hJ
   rw [loopO_eq,e1]
   have := ih (i + 1) _ (by omega) e2
   rw [List.drop_eq_getElem_cons hil] at this ⊢
   exact this
 exact key l.length 0 a0 (by omega) h0
theorem wrapL {x:Int} (h:0 ≤ x ∧ x ≤ 100000):IntKind.wrap .i64 x = x := wrap64 (by omega)
theorem digit_size (n:Int):(g_Vs_l3Digit_0 n).size = 1 := rfl
theorem plain_f (a:Int) (h:0 ≤ a ∧ a ≤ 99):g_As_l3Plain a = true ∧ (g_Vs_l3Plain_0 a).size ≤ 2 := by
 have e0:(lit []).size = 0 := rfl
 have key:∃ r,g_Ls_l3Plain_0 (a,lit []) = some r ∧ r.2.size ≤ 1 := by
  by_cases h9:a > 9
  ·refine ⟨(Int.tdiv a 10,g_Vs_l3Digit_0 (Int.tmod a 10) ++ lit []),?_,?_⟩
   ·have d:Int.tdiv a 10 = a / 10 := Int.tdiv_eq_ediv_of_nonneg h.1
    have s1:(g_Ss_l3Plain_0 (a,lit [])).sel = .go (Int.tdiv a 10,g_Vs_l3Digit_0 (Int.tmod a 10) ++ lit []) := by
     rw [d]
     simp only [g_Ss_l3Plain_0,RT.sel,h9,decide_true,cond_true,digit_size,e0]
     rw [d,wrapL (by omega)]
     rfl
    unfold g_Ls_l3Plain_0
    rw [loopO_eq,s1]
    show loopO _ _ = _
    rw [loopO_eq]
    have s2:(g_Ss_l3Plain_0 (Int.tdiv a 10,g_Vs_l3Digit_0 (Int.tmod a 10) ++ lit [])).sel = .out (Int.tdiv a 10,g_Vs_l3Digit_0 (Int.tmod a 10) ++ lit []) := by
     rw [d]
     simp only [g_Ss_l3Plain_0,RT.sel,cond_true,decide_eq_false (by omega:¬ a / 10 > 9),cond_false]
    rw [s2]
   ·rw [ByteArray.size_append,digit_size,e0]; omega
  ·refine ⟨(a,lit []),?_,by rw [e0]; omega⟩
   unfold g_Ls_l3Plain_0
   rw [loopO_eq]
   have s2:(g_Ss_l3Plain_0 (a,lit [])).sel = .out (a,lit []) := by
    simp only [g_Ss_l3Plain_0,RT.sel,cond_true,decide_eq_false h9,cond_false]
   rw [s2]
 obtain ⟨r,h1,h2⟩ := key
 refine ⟨?_,?_⟩
 ·simp only [g_As_l3Plain,h1,okO,valO,Option.isSome_some,Option.getD_some,digit_size,Bool.true_and]
  exact decide_eq_true (by omega)
 ·simp only [g_Vs_l3Plain_0,h1,valO,Option.getD_some]
  rw [ByteArray.size_append,digit_size]
  omega
def famW (x:Item):Wrt := (x.1,false,[nth x.2 0,nth x.2 1,0])
def outF (w:Int) (r:List Item) (a:List ByteArray×List Wrt):List ByteArray×List Wrt :=
 match r with
 | [] => a
 | x :: _ => bif famP w x then (a.1 ++ [x.1],a.2 ++ [famW x]) else a
theorem outF_eq (w:Int):∀ (l:List Item) (a:List ByteArray×List Wrt),foldS (outF w) l a = (a.1 ++ (l.filter (famP w)).map (·.1),a.2 ++ (l.filter (famP w)).map famW)
 | [],a => by simp [foldS]
 | x :: l,a => by
  rw [foldS,outF_eq w l]
  simp only [outF]
  cases hf:famP w x
  ·simp [List.filter_cons,hf]
  ·simp [List.filter_cons,hf]
theorem plan_small (place:Int) (l:List Item) (tx k w i c s f g:Int) (h:plcP place l = true):(planL place l tx k w i c s f g).2.2.length ≤ 40 ∧ ∀ x ∈ (planL place l tx k w i c s f g).2.2,x.2.2.length ≤ 3 := by
  have hlen := storeP_len (plc_store h)
  unfold planL inP mayP letP tradeP nextP doneP outP noP
  simp only [Bool.cond_eq_ite]
  repeat' split
  all_goals first
    | (refine ⟨?_,?_⟩ <;> simp <;> done)
    | (refine ⟨?_,fun x hx => ?_⟩
       · have := List.length_filter_le (famP w) l
         simp only [List.length_map]
         omega
       · simp only [List.mem_map] at hx
         obtain ⟨y,_,rfl⟩ := hx
         simp)
theorem cond_nf8 (a b:Bool):(bif !a then false else b) = (a&&b) := by cases a <;> rfl
def opK (k w i c s f g:Int):Bool :=
 bif decide (k = 1) || decide (k = 5) then decide (c = 0)&&(decide (s = 0)&&(decide (f = 0)&&decide (g = 0)))
 else bif decide (k = 2) then decide (f = 0)&&decide (g = 0)
 else bif decide (k = 3) then decide (w = 0)&&(decide (i = 0)&&decide (g = 0))
 else decide (k = 4)&&(decide (w = 0)&&(decide (i = 0)&&(decide (c = 0)&&decide (s = 0))))
def opP (k w i c s f g:Int):Bool := decide (0 ≤ w ∧ w ≤ 9)&&(decide (0 ≤ i ∧ i ≤ 9)&&(decide (0 ≤ c ∧ c ≤ 9)&&(decide (0 ≤ f ∧ f ≤ 9)&&(decide (0 ≤ s ∧ s ≤ 99)&&(decide (0 ≤ g ∧ g ≤ 99)&&opK k w i c s f g)))))
def placesP (k w i c s f g:Int):List Int :=
 bif !opP k w i c s f g then [] else bif k == 1 then [1,3] else bif k == 2 then [1,2,3] else bif k == 5 then [1,2,3] else [2,3]
theorem placesP_len (k w i c s f g:Int):(placesP k w i c s f g).length ≤ 3 := by
 unfold placesP
 cases opP k w i c s f g <;> cases (k == 1) <;> cases (k == 2) <;> cases (k == 5) <;> simp
abbrev TB_:Ty := .sl 42 (.pair .str (.sl 3 (.int .i64)))
def gloP (l:List (List (ByteArray×List Int))):Bool := decide (l.length = 3)&&(List.range l.length).all fun i => plcP ((i + 1:Nat):Int) (at_ TB_ l i)
abbrev Stos:Type := List (List Item)
def smallG (l:Stos):Prop := l.length ≤ 1000 ∧ ∀ s ∈ l,s.length ≤ 1048576 ∧ ∀ x ∈ s,x.2.length ≤ 1048576
section
variable (l:Stos) (tx k w i c s f g:Int)
noncomputable def doP:List Int → Stos → Option Stos
 | [],out => some out
 | p :: ps,out => bif (planL p (at_ TB_ l (p - 1).toNat) tx k w i c s f g).1 then doP ps (out.set (p - 1).toNat (doS (at_ TB_ out (p - 1).toNat) (planL p (at_ TB_ l (p - 1).toNat) tx k w i c s f g).2.2)) else none
noncomputable def gloDoP:Option Stos := doP l tx k w i c s f g (placesP k w i c s f g) l
end
theorem gloP_at {l:Stos} (h:gloP l = true) {p:Int} (hp:1 ≤ p ∧ p ≤ 3):l.length = 3 ∧ plcP p (at_ TB_ l (p - 1).toNat) = true := by
 simp only [gloP,Bool.and_eq_true,decide_eq_true_eq,List.all_eq_true,List.mem_range] at h
 refine ⟨h.1,?_⟩
 have := h.2 (p - 1).toNat (by omega)
 have e:(((p - 1).toNat + 1:Nat):Int) = p := by omega
 rwa [e] at this
theorem gloP_small {l:Stos} (h:gloP l = true):smallG l := by
 have h3 := (gloP_at h (p := 1) (by omega)).1
 refine ⟨by omega,fun s hs => ?_⟩
 obtain ⟨i,hi,rfl⟩ := List.getElem_of_mem hs
 have := (gloP_at h (p := ((i + 1:Nat):Int)) (by omega)).2
 have e:(((i + 1:Nat):Int) - 1).toNat = i := by omega
 rw [e,at_eq (e := TB_) hi] at this
 have hp := plc_store this
 have := storeP_len hp
 exact ⟨by omega,fun x hx => by have := (storeP_item hp x hx).len; omega⟩
theorem writeS_length {k:ByteArray} (d:Bool) (v:List Int):∀ {l:List Item},Srt l → (writeS l k d v).length + (bif (getP l k).isSome then 1 else 0) = l.length + (bif d then 0 else 1)
 | [],_ => by rw [writeS_nil]; cases d <;> rfl
 | it :: r,hs => by
  obtain ⟨h1,h2⟩ := srt_tail hs
  rcases lt_tri it.1 k with h | h | h
  ·have := writeS_length d v h1 (k := k)
   rw [writeS_lt h,getP_cons,decide_eq_false (lt_ne h),cond_false,List.length_cons,List.length_cons]
   omega
  ·rw [writeS_eq h d v r (fun y hy => h ▸ h2 y hy),getP_cons,decide_eq_true h]
   cases d <;> simp
  ·rw [writeS_gt h d v r (fun y hy => lt_trans h (h2 y hy)),getP_gt]
   ·cases d <;> simp
   ·intro x hx
    rcases List.mem_cons.1 hx with rfl | hx
    ·exact h
    ·exact lt_trans h (h2 x hx)
theorem writeS_le {k:ByteArray} (d:Bool) (v:List Int) {l:List Item} (h:Srt l):(writeS l k d v).length ≤ l.length + 1 := by
 have := writeS_length d v h (k := k)
 cases d <;> simp only [cond_true,cond_false] at this <;> omega
theorem doL_bad:∀ {ws:List Wrt} {l:List Item},(∃ w ∈ ws,wrtP w.1 w.2.1 w.2.2 = false) → doL l ws = none
 | [],_,h => by obtain ⟨_,h,_⟩ := h; cases h
 | w :: ws,l,h => by
  simp only [doL]
  cases hw:wrtP w.1 w.2.1 w.2.2
  ·rfl
  ·have:∃ w ∈ ws,wrtP w.1 w.2.1 w.2.2 = false := by
    obtain ⟨x,hx,e⟩ := h
    rcases List.mem_cons.1 hx with rfl | hx
    ·rw [hw] at e; cases e
    ·exact ⟨x,hx,e⟩
   rw [doL_bad this]
   cases decide ((writeS l w.1 w.2.1 w.2.2).length ≤ 40) <;> rfl
theorem doS_of {l:List Item} {ws:List Wrt} (h:storeP l = true):doS l ws = (doL l ws).getD [] := by unfold doS; rw [h]; rfl
theorem doS_bad {l:List Item} {ws:List Wrt} (h:∃ w ∈ ws,wrtP w.1 w.2.1 w.2.2 = false):doS l ws = [] := by
 unfold doS
 rw [doL_bad h]
 cases storeP l <;> rfl
noncomputable def planP (place:Int) (l:List Item) (tx k w i c s f g:Int):Plan :=
 bif plcP place l&&(opP k w i c s f g&&(decide (0 ≤ tx ∧ tx ≤ 29)&&(placesP k w i c s f g).contains place)) then planL place l tx k w i c s f g else noP []
theorem upto9 {n:Int} (h:0 ≤ n ∧ n ≤ 9):n = 0 ∨ n = 1 ∨ n = 2 ∨ n = 3 ∨ n = 4 ∨ n = 5 ∨ n = 6 ∨ n = 7 ∨ n = 8 ∨ n = 9 := by omega
theorem itoa_one {n:Int} (h:0 ≤ n ∧ n ≤ 9):g_itoa n = g_Vs_l3Digit_0 n := by
 rcases upto9 h with rfl | rfl | rfl | rfl | rfl | rfl | rfl | rfl | rfl | rfl <;> decide +kernel
theorem named_A (c:Nat) (n:Int) (h:0 ≤ n ∧ n ≤ 99) (hs:(g_itoa n).size ≤ 2):g_Ai_named (lit [c]) n = true := by
 unfold g_Ai_named
 have e:(lit [c]).size = 1 := rfl
 rw [decide_eq_true (show (0:Int) ≤ n ∧ n < 100 by omega),e,decide_eq_true (show 1 + (g_itoa n).size ≤ nat_lit 9223372036854775807 from Nat.le_trans (show 1 + _ ≤ 3 by omega) (by decide))]
 rfl
theorem named_f (c:Nat) (n:Int) (h:0 ≤ n ∧ n ≤ 9):g_Ai_named (lit [c]) n = true ∧ g_Vi_named_0 (lit [c]) n = nm c n := by
 refine ⟨named_A c n (by omega) ?_,?_⟩
 ·rw [itoa_one h,digit_size]; omega
 ·unfold g_Vi_named_0
  rw [itoa_one h]
theorem plain_one (a:Int) (h:0 ≤ a ∧ a ≤ 9):g_Vs_l3Plain_0 a = g_Vs_l3Digit_0 a ++ lit [] := by
 have L:g_Ls_l3Plain_0 (a,lit []) = some (a,lit []) := by
  unfold g_Ls_l3Plain_0
  rw [loopO_eq]
  have s2:(g_Ss_l3Plain_0 (a,lit [])).sel = .out (a,lit []) := by
   simp only [g_Ss_l3Plain_0,RT.sel,cond_true,decide_eq_false (by omega:¬ a > 9),cond_false]
  rw [s2]
 unfold g_Vs_l3Plain_0
 rw [L]
 rfl
theorem plain_two (a:Int) (h:10 ≤ a ∧ a ≤ 99):g_Vs_l3Plain_0 a = g_Vs_l3Digit_0 (a / 10) ++ (g_Vs_l3Digit_0 (Int.tmod a 10) ++ lit []) := by
 have e0:(lit []).size = 0 := rfl
 have d:Int.tdiv a 10 = a / 10 := Int.tdiv_eq_ediv_of_nonneg (by omega)
 have L:g_Ls_l3Plain_0 (a,lit []) = some (a / 10,g_Vs_l3Digit_0 (Int.tmod a 10) ++ lit []) := by
  unfold g_Ls_l3Plain_0
  have s1:(g_Ss_l3Plain_0 (a,lit [])).sel = .go (a / 10,g_Vs_l3Digit_0 (Int.tmod a 10) ++ lit []) := by
   simp only [g_Ss_l3Plain_0,RT.sel,(by omega:a > 9),decide_true,cond_true,digit_size,e0]
   rw [d,wrapL (by omega)]
   rfl
  rw [loopO_eq,s1]
  show loopO _ _ = _
  rw [loopO_eq]
  have s2:(g_Ss_l3Plain_0 (a / 10,g_Vs_l3Digit_0 (Int.tmod a 10) ++ lit [])).sel = .out (a / 10,g_Vs_l3Digit_0 (Int.tmod a 10) ++ lit []) := by
   simp only [g_Ss_l3Plain_0,RT.sel,cond_true,decide_eq_false (by omega:¬ a / 10 > 9),cond_false]
  rw [s2]
 unfold g_Vs_l3Plain_0
 rw [L]
 rfl
theorem upto29 {n:Int} (h:10 ≤ n ∧ n ≤ 29):n = 10 ∨ n = 11 ∨ n = 12 ∨ n = 13 ∨ n = 14 ∨ n = 15 ∨ n = 16 ∨ n = 17 ∨ n = 18 ∨ n = 19 ∨ n = 20 ∨ n = 21 ∨ n = 22 ∨ n = 23 ∨ n = 24 ∨ n = 25 ∨ n = 26 ∨ n = 27 ∨ n = 28 ∨ n = 29 := by omega
theorem itoa_two {n:Int} (h:10 ≤ n ∧ n ≤ 29):g_itoa n = g_Vs_l3Digit_0 (n / 10) ++ (g_Vs_l3Digit_0 (Int.tmod n 10) ++ lit []) := by
 rcases upto29 h with rfl | rfl | rfl | rfl | rfl | rfl | rfl | rfl | rfl | rfl | rfl | rfl | rfl | rfl | rfl | rfl | rfl | rfl | rfl | rfl <;> decide +kernel
theorem empty_app (a:ByteArray):a ++ lit [] = a := by
 apply ByteArray.ext
 rw [ByteArray.data_append]
 show a.data ++ #[] = a.data
 simp
theorem namedA_f (n:Int) (h:0 ≤ n ∧ n ≤ 29):g_Ai_named (lit [97]) n = true ∧ g_Vi_named_0 (lit [97]) n = nmA n := by
 have e:g_itoa n = g_Vs_l3Plain_0 n := by
  by_cases h9:n ≤ 9
  ·rw [plain_one n (by omega),itoa_one (by omega),empty_app]
  ·rw [plain_two n (by omega),itoa_two (by omega)]
 refine ⟨named_A 97 n (by omega) (by rw [e]; exact (plain_f n (by omega)).2),?_⟩
 unfold g_Vi_named_0 nmA
 rw [e]
theorem cmp_lt (a b:ByteArray):decide (g_compare a b < 0) = Op.bytesLess a.toList b.toList := by
 rw [ByteArray.toList_eq,ByteArray.toList_eq]
 exact compare_lt _ _
theorem cmp_eq (a b:ByteArray):(g_compare a b == 0) = (a.toList == b.toList) := by
 rw [ByteArray.toList_eq,ByteArray.toList_eq]
 exact compare_eq _ _
theorem half_f (i j:Int) (h:0 ≤ i ∧ 0 ≤ j ∧ i ≤ 100000 ∧ j ≤ 100000):IntKind.wrap .i64 (Int.fdiv (IntKind.wrap .u64 (IntKind.wrap .i64 (i + j))) 2) = (i + j) / 2 := by
 have u:IntKind.wrap .u64 (i + j) = i + j := by
  simp only [IntKind.wrap,IntKind.bits,IntKind.signed]
  simp
  omega
 rw [wrap64 (x := i + j) (by omega),u,Int.fdiv_eq_ediv_of_nonneg _ (by decide),wrap64 (by omega)]
theorem search_f (l:List (ByteArray×List Int)) (key:ByteArray) (n:Int) (h:storeP l = true):g_Lslices_BinarySearchFunc_i_StoItem_i_StoItem_string__i_StoStore_find_1_0 l key n (0,(l.length:Int)) = some (posP l key:Int) := by
 have hl:l.length ≤ 40 := by
  simp only [storeP,Bool.and_eq_true,decide_eq_true_eq] at h
  exact h.1
 have hp := pos_le l key
 obtain ⟨r,h1,h2⟩ := loop_inv (step := g_Sslices_BinarySearchFunc_i_StoItem_i_StoItem_string__i_StoStore_find_1_0 l key n) (fun x => 0 ≤ x.1 ∧ x.1 ≤ posP l key ∧ (posP l key:Int) ≤ x.2 ∧ x.2 ≤ l.length) (fun r => r = (posP l key:Int)) (fun x => (x.2 - x.1).toNat) (fun x hx => by
  obtain ⟨i,j⟩ := x
  obtain ⟨i1,i2,i3,i4⟩ := hx
  simp only at i1 i2 i3 i4
  by_cases hij:i < j
  ·have hh:0 ≤ (i + j) / 2 ∧ (i + j) / 2 < l.length := by omega
   have hm:((i + j) / 2).toNat < l.length := by omega
   have hlt := pos_lt h key ((i + j) / 2).toNat hm
   have sel:(g_Sslices_BinarySearchFunc_i_StoItem_i_StoItem_string__i_StoStore_find_1_0 l key n (i,j)).sel = bif decide (((i + j) / 2).toNat < posP l key) then .go ((i + j) / 2 + 1,j) else .go (i,(i + j) / 2) := by
    simp only [g_Sslices_BinarySearchFunc_i_StoItem_i_StoItem_string__i_StoStore_find_1_0,RT.sel,cond_true,half_f i j (by omega),hij,hh,decide_true,and_self,cmp_lt]
    rw [hlt,wrap64 (x := (i + j) / 2 + 1) (by omega)]
   by_cases hc:((i + j) / 2).toNat < posP l key
   ·rw [decide_eq_true hc,cond_true] at sel
    refine .inl ⟨_,sel,⟨by simp only; omega,by simp only; omega,i3,i4⟩,by simp only; omega⟩
   ·rw [decide_eq_false hc,cond_false] at sel
    refine .inl ⟨_,sel,⟨i1,i2,by simp only; omega,by simp only; omega⟩,by simp only; omega⟩
  ·refine .inr ⟨i,?_,by omega⟩
   simp only [g_Sslices_BinarySearchFunc_i_StoItem_i_StoItem_string__i_StoStore_find_1_0,RT.sel,cond_true,hij,decide_false,cond_false]) (0,(l.length:Int)) ⟨by simp,by simp,by simp only; omega,by simp⟩
 rw [← h2]
 exact h1
def thereP (l:List (ByteArray×List Int)) (key:ByteArray):Bool := decide (posP l key < l.length)&&(at_ TI_ l (posP l key)).1.toList == key.toList
theorem find_f (l:List (ByteArray×List Int)) (key:ByteArray) (h:storeP l = true):g_Ai_StoStore_find l key = true ∧ g_Vslices_BinarySearchFunc_i_StoItem_i_StoItem_string__i_StoStore_find_1_0 l key = (posP l key:Int) ∧ g_Vslices_BinarySearchFunc_i_StoItem_i_StoItem_string__i_StoStore_find_1_1 l key = thereP l key := by
 have hs := search_f l key (l.length:Int) h
 refine ⟨?_,?_,?_⟩
 ·simp only [g_Ai_StoStore_find,g_Aslices_BinarySearchFunc_i_StoItem_i_StoItem_string__i_StoStore_find_1,hs,okO,valO,Option.isSome_some,Option.getD_some,Bool.true_and,Bool.and_true]
  by_cases hp:(posP l key:Int) < (l.length:Int)
  ·have h0:(0:Int) ≤ (posP l key:Int) := by omega
   simp [hp,h0]
  ·simp [hp]
 ·simp only [g_Vslices_BinarySearchFunc_i_StoItem_i_StoItem_string__i_StoStore_find_1_0,hs,valO,Option.getD_some,Bool.cond_self]
 ·simp only [g_Vslices_BinarySearchFunc_i_StoItem_i_StoItem_string__i_StoStore_find_1_1,hs,valO,Option.getD_some,cmp_eq,thereP,Int.toNat_natCast,cond_f']
  rw [show decide ((posP l key:Int) < (l.length:Int)) = decide (posP l key < l.length) from decide_eq_decide.2 (by omega)]
theorem get_there {l:List (ByteArray×List Int)} (h:storeP l = true) (key:ByteArray):getP l key = bif thereP l key then some (at_ TI_ l (posP l key)).2 else none := by
 rw [get_pos h key]
 unfold thereP
 by_cases h1:posP l key < l.length
 ·by_cases h2:(at_ TI_ l (posP l key)).1.toList = key.toList
  ·rw [if_pos ⟨h1,h2⟩,decide_eq_true h1,Bool.true_and,h2,BEq.rfl,cond_true]
  ·rw [if_neg (fun h => h2 h.2),decide_eq_true h1,Bool.true_and,beq_eq_false_iff_ne.2 h2,cond_false]
 ·rw [if_neg (fun h => h1 h.1),decide_eq_false h1,Bool.false_and,cond_false]
theorem get_val {l:List (ByteArray×List Int)} (h:storeP l = true) {key:ByteArray} {v:List Int} (hg:getP l key = some v):1 ≤ v.length ∧ v.length ≤ 3 := by
 unfold getP at hg
 simp only [storeP,Bool.and_eq_true,List.all_eq_true,itemP,valP,decide_eq_true_eq] at h
 obtain ⟨x,hx,rfl⟩ := Option.map_eq_some_iff.1 hg
 obtain ⟨i,hi,rfl⟩ := List.getElem_of_mem (List.mem_of_find?_eq_some hx)
 have := (h.2 i (List.mem_range.2 hi)).2.1.1
 rw [at_eq (e := TI_) hi] at this
 exact this
theorem sget_f (l:List (ByteArray×List Int)) (key:ByteArray) (h:storeP l = true):g_Ai_StoStore_get l key = true ∧ g_Vi_StoStore_get_0 l key = (getP l key).isNone ∧ g_Vi_StoStore_get_1 l key = (getP l key).getD [] := by
 obtain ⟨f1,f2,f3⟩ := find_f l key h
 have hg := get_there h key
 have hv := fun v hv => get_val h (key := key) (v := v) hv
 have hlt:thereP l key = true → posP l key < l.length := fun e => by
  unfold thereP at e
  simp only [Bool.and_eq_true,decide_eq_true_eq] at e
  exact e.1
 cases ht:thereP l key
 ·rw [ht,cond_false] at hg
  simp [g_Ai_StoStore_get,g_Vi_StoStore_get_0,g_Vi_StoStore_get_1,f1,f2,f3,ht,hg]
 ·rw [ht,cond_true] at hg
  have hb := hv _ hg
  have hl := hlt ht
  have h0:(0:Int) ≤ (posP l key:Int) ∧ (posP l key:Int) < (l.length:Int) := by omega
  have hc:g_Aslices_Clone_int_int_nz (at_ TI_ l (posP l key)).2 = true := by
   unfold g_Aslices_Clone_int_int_nz
   rw [decide_eq_true (show nat_lit 0 < (at_ TI_ l (posP l key)).2.length from hb.1),decide_eq_true ⟨by have := hb.2; show (0 + _) * 8 ≤ 140737488355328; omega,by have := hb.2; show 0 + _ ≤ 9223372036854775807; omega⟩]
   rfl
  refine ⟨?_,?_,?_⟩
  ·simp only [g_Ai_StoStore_get,f1,f2,f3,ht,Int.toNat_natCast,decide_eq_true h0,Bool.true_and,Bool.not_true,Bool.false_or]
   exact hc
  ·simp [g_Vi_StoStore_get_0,f3,ht,hg]
  ·simp only [g_Vi_StoStore_get_1,f2,f3,ht,hg,Int.toNat_natCast,Bool.not_true,cond_false,Option.getD_some]
   rfl
theorem i_OpOk_f (k w i c s f g:Int):g_Ai_OpOk k w i c s f g = true ∧ g_Vi_OpOk_0 k w i c s f g = opP k w i c s f g := by
 have i1:∀ a b:Int,(a == b) = decide (a = b) := fun _ _ => rfl
 constructor
 ·simp [g_Ai_OpOk,g_Ai_OpOk_1,g_Ai_OpOk_2,(i_in_f _ _ _).1]
 ·simp only [g_Vi_OpOk_0,g_Vi_OpOk_1_0,g_Vi_OpOk_2_0,(i_in_f _ _ _).2,i1,decide_true,Bool.true_and,Bool.and_true,cond_nf8,opP,opK]
  congr 1; congr 1; congr 1; congr 1; congr 1; congr 1
  by_cases h1:k = 1
  ·subst h1; simp
  ·by_cases h5:k = 5
   ·subst h5; simp
   ·by_cases h2:k = 2
    ·subst h2; simp
    ·by_cases h3:k = 3
     ·subst h3; simp
     ·simp [h1,h2,h3,h5]
theorem i_OpPlaces_f (k w i c s f g:Int):g_Ai_OpPlaces k w i c s f g = true ∧ g_Vi_OpPlaces_0 k w i c s f g = placesP k w i c s f g := by
 unfold g_Ai_OpPlaces g_Vi_OpPlaces_0 placesP
 simp [(i_OpOk_f _ _ _ _ _ _ _).1,(i_OpOk_f _ _ _ _ _ _ _).2]
theorem iget (l:List Item) (key:ByteArray) (h:storeP l = true):g_Ai_StoStore_get l key = true ∧ g_Vi_StoStore_get_0 l key = (getP l key).isNone ∧ g_Vi_StoStore_get_1 l key = (getP l key).getD [] := sget_f l key h
theorem secsum_eq (s:Int):g_Ai_SecSum s = true ∧ g_Vi_SecSum_0 s = g_Vs_SecSum_0 s := by
 constructor
 ·simp [g_Ai_SecSum,(i_in_f _ _ _).1]
 ·unfold g_Vi_SecSum_0 g_Vs_SecSum_0
  rw [(i_in_f _ _ _).2,(s_l1In_f _ _ _).2,Int.mul_comm]
theorem i_atIn_f (l:List Item) (k w i c s f g:Int) (h:plcP 1 l = true) (hi:0 ≤ i ∧ i ≤ 9):g_Ai_atIn l k w i c s f g = true ∧ g_Vi_atIn_0 l k w i c s f g = (inP l k w i).1 ∧ g_Vi_atIn_1 l k w i c s f g = (inP l k w i).2.1 ∧ g_Vi_atIn_2 l k w i c s f g = (inP l k w i).2.2 := by
 obtain ⟨n1,n2⟩ := named_f 115 i hi
 obtain ⟨a1,a2,a3⟩ := iget l (nm 115 i) (plc_store h)
 unfold g_Ai_atIn g_Vi_atIn_0 g_Vi_atIn_1 g_Vi_atIn_2 inP
 rw [n1,n2,a1,a2,a3]
 cases hv:getP l (nm 115 i) with
 | none => cases (k == 1) <;> cases (k == 5) <;> exact ⟨rfl,rfl,rfl,rfl⟩
 | some v =>
  have hl := (storeP_item (plc_store h) _ (get_item hv)).len
  have d1:decide ((0:Int) ≤ (0:Int) ∧ (0:Int) < (v.length:Int)) = true := decide_eq_true (by simp only at hl; omega)
  have d2:decide (nat_lit 0 < List.length v) = true := decide_eq_true (show 0 < v.length by simp only at hl; omega)
  simp only [Option.isNone_some,Option.getD_some,Bool.not_true,Bool.not_false,d1,d2,bne]
  cases (k == 1) <;> cases (k == 5) <;> cases (nth v 0 == w) <;> exact ⟨rfl,rfl,rfl,rfl⟩
theorem may_who {l:List Item} (h:plcP 2 l = true) {key:ByteArray} {v:List Int} (hv:getP l key = some v):0 ≤ nth v 0 ∧ nth v 0 ≤ 9 := by
 obtain ⟨p1,p2⟩ := plc_item h (get_item hv)
 exact ⟨p2.pos 0 (by have := p2.len; simp only at this ⊢; omega),(may_item p1).2.1⟩
theorem i_trade_f (l:List Item) (k w i c s f g:Int) (h:plcP 2 l = true) (hc:0 ≤ c ∧ c ≤ 9) (hf:0 ≤ f ∧ f ≤ 9):g_Ai_trade l k w i c s f g = true ∧ g_Vi_trade_0 l k w i c s f g = (tradeP l c s f).1 ∧ g_Vi_trade_1 l k w i c s f g = (tradeP l c s f).2.1 ∧ g_Vi_trade_2 l k w i c s f g = (tradeP l c s f).2.2 := by
 obtain ⟨n1,n2⟩ := named_f 99 c hc
 obtain ⟨n3,n4⟩ := named_f 102 f hf
 obtain ⟨a1,a2,a3⟩ := iget l (nm 99 c) (plc_store h)
 obtain ⟨b1,b2,_⟩ := iget l (nm 102 f) (plc_store h)
 unfold g_Ai_trade g_Vi_trade_0 g_Vi_trade_1 g_Vi_trade_2 tradeP
 rw [n1,n2,n3,n4,a1,a2,a3,b1,b2,(secsum_eq s).1,(secsum_eq s).2]
 cases hv:getP l (nm 99 c) with
 | none => exact ⟨rfl,rfl,rfl,rfl⟩
 | some v =>
  have hl := code_get h hv
  obtain ⟨m1,m2⟩ := named_f 117 (nth v 0) (may_who h hv)
  have m1:g_Ai_named (lit [117]) (at_ (Ty.int IntKind.i64) v (nat_lit 0)) = true := m1
  have m2:g_Vi_named_0 (lit [117]) (at_ (Ty.int IntKind.i64) v (nat_lit 0)) = nm 117 (nth v 0) := m2
  have d0:decide ((0:Int) ≤ (0:Int) ∧ (0:Int) < (v.length:Int)) = true := decide_eq_true (by omega)
  have d1:decide ((0:Int) ≤ (1:Int) ∧ (1:Int) < (v.length:Int)) = true := decide_eq_true (by omega)
  have n0:decide (nat_lit 0 < List.length v) = true := decide_eq_true (show 0 < v.length by omega)
  have n1:decide (nat_lit 1 < List.length v) = true := decide_eq_true (show 1 < v.length by omega)
  have eb:(g_Vs_SecSum_0 s == at_ (Ty.int IntKind.i64) v (nat_lit 1)) = (nth v 1 == g_Vs_SecSum_0 s) := by
   rw [Bool.eq_iff_iff,beq_iff_eq,beq_iff_eq]
   exact eq_comm
  simp only [Option.isNone_some,Option.getD_some,Bool.not_true,Bool.not_false,d0,d1,n0,n1,m1,m2,bne,eb,← Option.not_isSome]
  cases (getP l (nm 102 f)).isSome <;> cases (nth v 1 == g_Vs_SecSum_0 s) <;> exact ⟨rfl,rfl,rfl,rfl⟩
theorem i_next_f (l:List Item) (k w i c s f g:Int) (h:plcP 2 l = true) (hf:0 ≤ f ∧ f ≤ 9) (hg:0 ≤ g):g_Ai_next l k w i c s f g = true ∧ g_Vi_next_0 l k w i c s f g = (nextP l f g).1 ∧ g_Vi_next_1 l k w i c s f g = (nextP l f g).2.1 ∧ g_Vi_next_2 l k w i c s f g = (nextP l f g).2.2 := by
 obtain ⟨n3,n4⟩ := named_f 102 f hf
 obtain ⟨a1,a2,a3⟩ := iget l (nm 102 f) (plc_store h)
 unfold g_Ai_next g_Vi_next_0 g_Vi_next_1 g_Vi_next_2 nextP
 rw [n3,n4,a1,a2,a3]
 cases hv:getP l (nm 102 f) with
 | none => exact ⟨rfl,rfl,rfl,rfl⟩
 | some v =>
  obtain ⟨hl,h1,h2⟩ := fam_get h hv
  obtain ⟨m1,m2⟩ := named_f 117 (nth v 0) (may_who h hv)
  have m1:g_Ai_named (lit [117]) (at_ (Ty.int IntKind.i64) v (nat_lit 0)) = true := m1
  have m2:g_Vi_named_0 (lit [117]) (at_ (Ty.int IntKind.i64) v (nat_lit 0)) = nm 117 (nth v 0) := m2
  have d0:decide ((0:Int) ≤ (0:Int) ∧ (0:Int) < (v.length:Int)) = true := decide_eq_true (by omega)
  have d1:decide ((0:Int) ≤ (1:Int) ∧ (1:Int) < (v.length:Int)) = true := decide_eq_true (by omega)
  have d2:decide ((0:Int) ≤ (2:Int) ∧ (2:Int) < (v.length:Int)) = true := decide_eq_true (by omega)
  have n0:decide (nat_lit 0 < List.length v) = true := decide_eq_true (show 0 < v.length by omega)
  have n1:decide (nat_lit 1 < List.length v) = true := decide_eq_true (show 1 < v.length by omega)
  have n2:decide (nat_lit 2 < List.length v) = true := decide_eq_true (show 2 < v.length by omega)
  have w1:IntKind.wrap .i64 (at_ (Ty.int IntKind.i64) v (nat_lit 1) + 1) = nth v 1 + 1 := wrap64 (x := nth v 1 + 1) (by omega)
  have ein:g_Vi_in_0 g 1 (at_ (Ty.int IntKind.i64) v (nat_lit 1)) = !(decide (g > nth v 1) || (g == 0)) := by
   rw [(i_in_f _ _ _).2,Bool.eq_iff_iff]
   simp only [decide_eq_true_eq,Bool.not_eq_true',Bool.or_eq_false_iff,decide_eq_false_iff_not,beq_eq_false_iff_ne]
   show (1 ≤ g ∧ g ≤ nth v 1) ↔ _
   omega
  simp only [Option.isNone_some,Option.getD_some,Bool.not_true,Bool.not_false,d0,d1,d2,n0,n1,n2,w1,m1,m2,ein,(i_in_f _ _ _).1]
  cases (nth v 2 == 0) <;> cases decide (g > nth v 1) <;> cases (g == 0) <;> cases (nth v 1 == 99) <;> cases decide (g < nth v 1) <;> exact ⟨rfl,rfl,rfl,rfl⟩
theorem nmA_itoa {n:Int} (h:0 ≤ n ∧ n ≤ 29):nmA n = lit [97] ++ g_itoa n := by
 have e:g_itoa n = g_Vs_l3Plain_0 n := by
  by_cases h9:n ≤ 9
  ·rw [plain_one n (by omega),itoa_one (by omega),empty_app]
  ·rw [plain_two n (by omega),itoa_two (by omega)]
 unfold nmA
 rw [e]
def codeA (b:ByteArray):Int := bif b.size == 2 then byteAt b 1 - 48 else (byteAt b 1 - 48) * 10 + (byteAt b 2 - 48)
theorem codeA_all:∀ n:Fin 30,codeA (lit [97] ++ g_itoa (n.1:Int)) = (n.1:Int) ∧ keyP (lit [97] ++ g_itoa (n.1:Int)) = true ∧ byteAt (lit [97] ++ g_itoa (n.1:Int)) 0 = 97 := by decide +kernel
theorem nmA_f {n:Int} (h:0 ≤ n ∧ n ≤ 29):codeA (nmA n) = n ∧ keyP (nmA n) = true ∧ byteAt (nmA n) 0 = 97 := by
 have := codeA_all ⟨n.toNat,by omega⟩
 simp only [show ((n.toNat:Nat):Int) = n by omega] at this
 rwa [nmA_itoa h]
theorem nmA_inj {n m:Int} (hn:0 ≤ n ∧ n ≤ 29) (hm:0 ≤ m ∧ m ≤ 29) (h:nmA n = nmA m):n = m := by
 rw [← (nmA_f hn).1,← (nmA_f hm).1,h]
theorem nm_f {c:Nat} (hc:c = 99 ∨ c = 102 ∨ c = 115) {n:Int} (h:0 ≤ n ∧ n ≤ 9):byteAt (nm c n) 0 = c ∧ byteAt (nm c n) 1 = 48 + n ∧ keyP (nm c n) = true ∧ (nm c n).size = 2 := by
 rcases hc with rfl | rfl | rfl <;> rcases upto9 h with rfl | rfl | rfl | rfl | rfl | rfl | rfl | rfl | rfl | rfl <;> decide +kernel
theorem nm_inj {c:Nat} (hc:c = 99 ∨ c = 102 ∨ c = 115) {n m:Int} (hn:0 ≤ n ∧ n ≤ 9) (hm:0 ≤ m ∧ m ≤ 9) (h:nm c n = nm c m):n = m := by
 have a := (nm_f hc hn).2.1
 have b := (nm_f hc hm).2.1
 rw [h] at a
 omega
theorem wrtP_val {k:ByteArray} {v:List Int} (hk:keyP k = true) (hv:valP v = true):wrtP k false v = true := by simp [wrtP,hk,hv]
theorem wrtP_del {k:ByteArray} (hk:keyP k = true):wrtP k true [] = true := by simp [wrtP,hk]
theorem valP1 {a:Int} (h:0 ≤ a ∧ a ≤ 9999):valP [a] = true := by simp [valP]; omega
theorem valP2 {a b:Int} (h:0 ≤ a ∧ a ≤ 9999) (h2:0 ≤ b ∧ b ≤ 9999):valP [a,b] = true := by simp [valP]; omega
theorem valP3 {a b c:Int} (h:0 ≤ a ∧ a ≤ 9999) (h2:0 ≤ b ∧ b ≤ 9999) (h3:0 ≤ c ∧ c ≤ 9999):valP [a,b,c] = true := by simp [valP]; omega
theorem nth_val {v:List Int} (h:valP v = true) {n:Nat} (hn:n < v.length):0 ≤ nth v n ∧ nth v n ≤ 9999 := by
 simp only [valP,Bool.and_eq_true,List.all_eq_true,decide_eq_true_eq] at h
 exact h.2 _ (at_mem (e := .int .i64) hn)
theorem plc_srt {p:Int} {l:List Item} (h:plcP p l = true):Srt l := ((storeP_iff l).1 (plc_store h)).2.2
theorem plc_val {p:Int} {l:List Item} (h:plcP p l = true) {x:Item} (hx:x ∈ l):keyP x.1 = true ∧ valP x.2 = true := by
 have := ((storeP_iff l).1 (plc_store h)).2.1 x hx
 simpa [okI'] using this
theorem plc_write {p:Int} {l:List Item} (h:plcP p l = true) {k:ByteArray} {d:Bool} {v:List Int} (hw:wrtP k d v = true) (hl:(writeS l k d v).length ≤ 40) (hp:d = false → placeP p (k,v) = true):plcP p (writeS l k d v) = true := by
 have hs := writeS_store (plc_store h) hw hl
 have hr := plc_srt h
 simp only [plcP,Bool.and_eq_true,List.all_eq_true] at h ⊢
 refine ⟨h.1,hs,fun x hx => ?_⟩
 rcases writeS_mem d v hr x hx with hx | ⟨hd,rfl⟩
 ·exact h.2.2 x hx
 ·exact hp hd
theorem doS_nil {l:List Item} (h:storeP l = true):doS l [] = l := by rw [doS_of h]; rfl
theorem doS_one {l:List Item} (h:storeP l = true) {k:ByteArray} {d:Bool} {v:List Int} (hw:wrtP k d v = true) (hl:(writeS l k d v).length ≤ 40):doS l [(k,d,v)] = writeS l k d v := by
 rw [doS_of h]
 simp only [doL,hw,decide_eq_true hl,cond_true,Option.getD_some]
theorem doS_two {l:List Item} (h:storeP l = true) {k k2:ByteArray} {d d2:Bool} {v v2:List Int} (hw:wrtP k d v = true) (hl:(writeS l k d v).length ≤ 40) (hw2:wrtP k2 d2 v2 = true) (hl2:(writeS (writeS l k d v) k2 d2 v2).length ≤ 40):doS l [(k,d,v),(k2,d2,v2)] = writeS (writeS l k d v) k2 d2 v2 := by
 rw [doS_of h]
 simp only [doL,hw,hw2,decide_eq_true hl,decide_eq_true hl2,cond_true,Option.getD_some]
def outX (w:Int) (x:Item):Item := bif famP w x then (x.1,[nth x.2 0,nth x.2 1,0]) else x
theorem outX_key (w:Int) (x:Item):(outX w x).1 = x.1 := by unfold outX; cases famP w x <;> rfl
theorem fam_item {p:Int} {l:List Item} (hp:p = 2) (h:plcP p l = true) {x:Item} (hx:x ∈ l) {w:Int} (hf:famP w x = true):x.2.length = 3 ∧ nth x.2 0 = w ∧ nth x.2 2 = 1 ∧ (1 ≤ nth x.2 1 ∧ nth x.2 1 ≤ 99) ∧ byteAt x.1 0 = 102 ∧ x.1.size = 2 := by
 subst hp
 have := may_item (plc_item h hx).1
 simp only [famP,Bool.and_eq_true,beq_iff_eq] at hf
 rcases this.2.2 with h1 | h1
 ·rw [hf.1] at h1; exact absurd h1.1 (by decide)
 ·exact ⟨h1.2.1,hf.2.1,hf.2.2,h1.2.2.1,hf.1,this.1⟩
theorem out_wrt {l:List Item} (h:plcP 2 l = true) {x:Item} (hx:x ∈ l) {w:Int} (hf:famP w x = true):wrtP x.1 false [nth x.2 0,nth x.2 1,0] = true ∧ placeP 2 (x.1,[nth x.2 0,nth x.2 1,0]) = true := by
 obtain ⟨f1,f2,f3,f4,f5,f6⟩ := fam_item rfl h hx hf
 have hv := plc_val h hx
 have n0 := nth_val hv.2 (n := 0) (by omega)
 have hp := (may_item (plc_item h hx).1).2.1
 refine ⟨wrtP_val hv.1 (valP3 n0 (by omega) (by omega)),?_⟩
 unfold placeP
 simp only [show ¬ ((2:Int) = 1) by decide,decide_false,cond_false,decide_true,cond_true,f5,f6,Bool.true_and,Bool.and_eq_true,Bool.or_eq_true,decide_eq_true_eq]
 exact ⟨hp,.inr ⟨rfl,f4,(by decide:(0:Int) ≤ 1)⟩⟩
theorem writeS_mid (v:List Int) (x:Item) (l:List Item):∀ (pre:List Item),Srt (pre ++ x :: l) → writeS (pre ++ x :: l) x.1 false v = pre ++ (x.1,v) :: l
 | [],h => writeS_eq rfl false v l (srt_tail h).2
 | y :: pre,h => by
  have := srt_tail (x := y) (l := pre ++ x :: l) h
  have hy:Lt y.1 x.1 := this.2 x (by simp)
  rw [List.cons_append,writeS_lt hy,writeS_mid v x l pre this.1]
  rfl
theorem doL_out (w:Int):∀ (l pre:List Item),Srt (pre ++ l) → (pre ++ l).length ≤ 40 → (∀ x ∈ l,famP w x = true → wrtP x.1 false [nth x.2 0,nth x.2 1,0] = true) →
  doL (pre ++ l) ((l.filter (famP w)).map fun x => (x.1,false,[nth x.2 0,nth x.2 1,0])) = some (pre ++ l.map (outX w)) ∧ Srt (pre ++ l.map (outX w))
 | [],pre,h,_,_ => ⟨rfl,h⟩
 | x :: l,pre,h,hl,hw => by
  cases hf:famP w x
  ·have := doL_out w l (pre ++ [x]) (by simpa using h) (by simpa using hl) (fun y hy => hw y (List.mem_cons_of_mem _ hy))
   have ex:outX w x = x := by unfold outX; rw [hf]; rfl
   rw [List.filter_cons_of_neg (by simp [hf]),List.map_cons,ex]
   simpa using this
  ·have ex:outX w x = (x.1,[nth x.2 0,nth x.2 1,0]) := by unfold outX; rw [hf]; rfl
   have hm := writeS_mid [nth x.2 0,nth x.2 1,0] x l pre h
   have hs:Srt (pre ++ (x.1,[nth x.2 0,nth x.2 1,0]) :: l) := hm ▸ writeS_srt false _ h
   have := doL_out w l (pre ++ [(x.1,[nth x.2 0,nth x.2 1,0])]) (by simpa using hs) (by simpa using hl) (fun y hy => hw y (List.mem_cons_of_mem _ hy))
   rw [List.filter_cons_of_pos hf,List.map_cons,List.map_cons,ex]
   have hll:(writeS (pre ++ x :: l) x.1 false [nth x.2 0,nth x.2 1,0]).length ≤ 40 := by rw [hm]; simpa using hl
   have hd:decide ((pre ++ (x.1,[nth x.2 0,nth x.2 1,0]) :: l).length ≤ 40) = true := decide_eq_true (by rw [← hm]; exact hll)
   refine ⟨?_,by simpa using this.2⟩
   simp only [doL,hw x List.mem_cons_self hf,cond_true,hm]
   rw [hd,cond_true]
   simpa using this.1
theorem doS_out {l:List Item} (h:plcP 2 l = true) (w:Int):doS l (outP l w).2.2 = l.map (outX w) ∧ plcP 2 (l.map (outX w)) = true := by
 have hst := plc_store h
 have hl := storeP_len hst
 obtain ⟨h1,h2⟩ := doL_out w l [] (plc_srt h) (by simpa using hl) (fun x hx hf => (out_wrt h hx hf).1)
 simp only [List.nil_append] at h1 h2
 have h3:doS l (outP l w).2.2 = l.map (outX w) := by rw [doS_of hst]; unfold outP; simp only [h1,Option.getD_some]
 refine ⟨h3,?_⟩
 have hs := doS_store l (outP l w).2.2
 rw [h3] at hs
 have h' := h
 simp only [plcP,Bool.and_eq_true,List.all_eq_true] at h ⊢
 refine ⟨h.1,hs,fun x hx => ?_⟩
 obtain ⟨y,hy,rfl⟩ := List.mem_map.1 hx
 cases hf:famP w y
 ·have:outX w y = y := by unfold outX; rw [hf]; rfl
  rw [this]
  exact h.2.2 y hy
 ·have:outX w y = (y.1,[nth y.2 0,nth y.2 1,0]) := by unfold outX; rw [hf]; rfl
  rw [this]
  exact (out_wrt h' hy hf).2
theorem getP_map {g:Item → Item} (hg:∀ x,(g x).1 = x.1) (key:ByteArray):∀ l:List Item,getP (l.map g) key = (getP l key).map fun v => (g (key,v)).2
 | [] => rfl
 | x :: l => by
  rw [List.map_cons,getP_cons,getP_cons,hg,getP_map hg key l]
  by_cases e:x.1 = key
  ·subst e; rw [decide_eq_true rfl]; rfl
  ·rw [decide_eq_false e]; rfl
noncomputable def isInG (a:List Item) (w i:Int):Bool := match getP a (nm 115 i) with
 | none => false
 | some v => nth v 0 == w
noncomputable def mayTG (m:List Item) (c s f:Int):Bool := match getP m (nm 99 c) with
 | none => false
 | some v => !(getP m (nm 102 f)).isSome&&(nth v 1 == g_Vs_SecSum_0 s)
noncomputable def mayNG (m:List Item) (f g:Int):Bool := match getP m (nm 102 f) with
 | none => false
 | some v => !((nth v 2 == 0) || (decide (g > nth v 1) || ((g == 0) || (nth v 1 == 99))))
noncomputable def mayG (a m:List Item) (k w i c s f g:Int):Bool :=
 bif k == 1 then (getP a (nm 115 i)).isNone else bif k == 2 then isInG a w i&&(getP m (nm 99 c)).isNone else bif k == 3 then mayTG m c s f else bif k == 4 then mayNG m f g else isInG a w i
noncomputable def newA (a:List Item) (k w i:Int):List Item := bif k == 1 then writeS a (nm 115 i) false [w] else bif k == 5 then writeS a (nm 115 i) true [] else a
noncomputable def tradeM (m:List Item) (c f:Int):List Item := match getP m (nm 99 c) with
 | none => m
 | some v => writeS (writeS m (nm 99 c) true []) (nm 102 f) false [nth v 0,1,1]
noncomputable def nextM (m:List Item) (f g:Int):List Item := match getP m (nm 102 f) with
 | none => m
 | some v => writeS m (nm 102 f) false (bif decide (g < nth v 1) then [nth v 0,nth v 1,0] else [nth v 0,nth v 1 + 1,1])
noncomputable def newM (m:List Item) (k w c s f g:Int):List Item :=
 bif k == 1 then m else bif k == 2 then writeS m (nm 99 c) false [w,g_Vs_SecSum_0 s] else bif k == 3 then tradeM m c f else bif k == 4 then nextM m f g else m.map (outX w)
structure Inv (n:Nat) (a m d:List Item):Prop where
 pa:plcP 1 a = true
 pm:plcP 2 m = true
 pd:plcP 3 d = true
 la:a.length ≤ n
 lm:m.length ≤ n
 ld:d.length ≤ n
 fresh:∀ t:Int,(n:Int) ≤ t → t ≤ 29 → getP d (nmA t) = none
theorem gloP3 (a m d:List Item):gloP [a,m,d] = (plcP 1 a&&(plcP 2 m&&plcP 3 d)) := by
 show (true&&(plcP 1 a&&(plcP 2 m&&(plcP 3 d&&true)))) = _
 rw [Bool.true_and,Bool.and_true]
theorem Inv.glo {n:Nat} {a m d:List Item} (h:Inv n a m d):gloP [a,m,d] = true := by rw [gloP3,h.pa,h.pm,h.pd]; rfl
theorem inv0:Inv 0 [] [] [] := ⟨rfl,rfl,rfl,Nat.le_refl _,Nat.le_refl _,Nat.le_refl _,fun _ _ _ => rfl⟩
theorem do_13 (a m d:List Item) (tx k w i c s f g:Int):doP [a,m,d] tx k w i c s f g [1,3] [a,m,d] = bif (inP a k w i).1 then bif (doneP d tx k).1 then some [doS a (inP a k w i).2.2,m,doS d (doneP d tx k).2.2] else none else none := rfl
theorem do_23 (a m d:List Item) (tx k w i c s f g:Int):doP [a,m,d] tx k w i c s f g [2,3] [a,m,d] = bif (mayP m k w c s f g).1 then bif (doneP d tx k).1 then some [a,doS m (mayP m k w c s f g).2.2,doS d (doneP d tx k).2.2] else none else none := rfl
theorem do_123 (a m d:List Item) (tx k w i c s f g:Int):doP [a,m,d] tx k w i c s f g [1,2,3] [a,m,d] = bif (inP a k w i).1 then bif (mayP m k w c s f g).1 then bif (doneP d tx k).1 then some [doS a (inP a k w i).2.2,doS m (mayP m k w c s f g).2.2,doS d (doneP d tx k).2.2] else none else none else none := rfl
theorem opP_bd {k w i c s f g:Int} (h:opP k w i c s f g = true):(0 ≤ w ∧ w ≤ 9) ∧ (0 ≤ i ∧ i ≤ 9) ∧ (0 ≤ c ∧ c ≤ 9) ∧ (0 ≤ f ∧ f ≤ 9) ∧ (0 ≤ s ∧ s ≤ 99) ∧ (0 ≤ g ∧ g ≤ 99) ∧ (k = 1 ∨ k = 2 ∨ k = 3 ∨ k = 4 ∨ k = 5) := by
 simp only [opP,Bool.and_eq_true,decide_eq_true_eq] at h
 refine ⟨h.1,h.2.1,h.2.2.1,h.2.2.2.1,h.2.2.2.2.1,h.2.2.2.2.2.1,?_⟩
 have hk := h.2.2.2.2.2.2
 unfold opK at hk
 by_cases h1:k = 1
 ·exact .inl h1
 ·by_cases h2:k = 2
  ·exact .inr (.inl h2)
  ·by_cases h3:k = 3
   ·exact .inr (.inr (.inl h3))
   ·by_cases h5:k = 5
    ·exact .inr (.inr (.inr (.inr h5)))
    ·simp only [h1,h2,h3,h5,decide_false,Bool.or_self,cond_false,Bool.and_eq_true,decide_eq_true_eq] at hk
     exact .inr (.inr (.inr (.inl hk.1)))
theorem done_f {n:Nat} {a m d:List Item} (h:Inv n a m d) (hn:n ≤ 29) (k:Int) (hk:1 ≤ k ∧ k ≤ 5):doneP d n k = (true,[nmA n],[(nmA n,false,[k])]) ∧ doS d [(nmA n,false,[k])] = writeS d (nmA n) false [k] ∧ plcP 3 (writeS d (nmA n) false [k]) = true ∧ (writeS d (nmA n) false [k]).length = d.length + 1 ∧ (∀ t:Int,((n + 1:Nat):Int) ≤ t → t ≤ 29 → getP (writeS d (nmA n) false [k]) (nmA t) = none) := by
 have hs := plc_srt h.pd
 have f1 := h.fresh n (Int.le_refl _) (by omega)
 have f2 := nmA_f (n := (n:Int)) (by omega)
 have hl := writeS_length false [k] hs (k := nmA n)
 rw [f1] at hl
 simp only [Option.isSome_none,cond_false,Nat.add_zero] at hl
 have hw := wrtP_val f2.2.1 (valP1 (a := k) (by omega))
 have hld := h.ld
 have hl40:(writeS d (nmA n) false [k]).length ≤ 40 := by omega
 refine ⟨?_,doS_one (plc_store h.pd) hw hl40,plc_write h.pd hw hl40 (fun _ => ?_),hl,fun t h1 h2 => ?_⟩
 ·unfold doneP; rw [f1]; rfl
 ·unfold placeP
  simp only [show ¬ ((3:Int) = 1) by decide,show ¬ ((3:Int) = 2) by decide,decide_false,cond_false,decide_true,cond_true,f2.2.2,List.length_cons,List.length_nil,Nat.zero_add,Bool.true_and]
 ·rw [getP_write false [k] (nmA t) hs,decide_eq_false (fun e => by have := nmA_inj (n := (n:Int)) (m := t) (by omega) (by omega) e; omega),cond_false]
  exact h.fresh t (by omega) h2
theorem in_f {n:Nat} {a m d:List Item} (h:Inv n a m d) (hn:n ≤ 29) {w i:Int} (hw:0 ≤ w ∧ w ≤ 9) (hi:0 ≤ i ∧ i ≤ 9) (k:Int) :
  (inP a k w i).1 = (bif k == 1 then (getP a (nm 115 i)).isNone else isInG a w i) ∧ ((inP a k w i).1 = true → doS a (inP a k w i).2.2 = newA a k w i ∧ plcP 1 (newA a k w i) = true ∧ (newA a k w i).length ≤ n + 1) := by
 have hs := plc_srt h.pa
 have hst := plc_store h.pa
 have hla := h.la
 have kf := nm_f (c := 115) (by simp) hi
 have l1 := writeS_le false [w] hs (k := nm 115 i)
 have l2 := writeS_length true [] hs (k := nm 115 i)
 have w1 := wrtP_val kf.2.2.1 (valP1 (a := w) (by omega))
 have w2 := wrtP_del kf.2.2.1
 have p1:placeP 1 (nm 115 i,[w]) = true := by
  unfold placeP
  simp only [decide_true,cond_true,byte_s,kf.2.2.2,List.length_cons,List.length_nil,Nat.zero_add,Bool.true_and,decide_eq_true_eq]
  exact hw.2
 have l3:(writeS a (nm 115 i) true []).length ≤ a.length := by simp only [cond_true] at l2; omega
 unfold inP newA isInG noP
 by_cases hk:k = 1
 ·subst hk
  cases hg:getP a (nm 115 i) with
  | none => exact ⟨rfl,fun _ => ⟨doS_one hst w1 (by omega),plc_write h.pa w1 (by omega) (fun _ => p1),by simp only [BEq.rfl,cond_true]; omega⟩⟩
  | some v => exact ⟨rfl,fun e => by cases e⟩
 ·have e1:(k == 1) = false := by simpa using hk
  simp only [e1,cond_false]
  cases hg:getP a (nm 115 i) with
  | none => exact ⟨rfl,fun e => by cases e⟩
  | some v =>
   simp only
   cases hv:nth v 0 == w
   ·exact ⟨rfl,fun e => by cases e⟩
   ·refine ⟨rfl,fun _ => ?_⟩
    by_cases h5:k = 5
    ·subst h5
     exact ⟨doS_one hst w2 (by omega),plc_write h.pa w2 (by omega) (fun e => by cases e),by simp only [BEq.rfl,cond_true]; omega⟩
    ·have e5:(k == 5) = false := by simpa using h5
     simp only [e5,cond_false,cond_true]
     exact ⟨doS_nil hst,h.pa,by omega⟩
theorem secsum_range {s:Int} (h:0 ≤ s ∧ s ≤ 99):g_Vs_SecSum_0 s = (s * 7919 + 104) % 9973 := by
 have w1:IntKind.wrap .i64 (s * 7919) = s * 7919 := wrap64 (by omega)
 have w2:IntKind.wrap .i64 (s * 7919 + 104) = s * 7919 + 104 := wrap64 (by omega)
 unfold g_Vs_SecSum_0
 rw [(s_l1In_f _ _ _).2,decide_eq_true h]
 simp only [Bool.not_true,cond_false,w1,w2]
 exact Int.tmod_eq_emod_of_nonneg (by omega)
theorem may_f {n:Nat} {a m d:List Item} (h:Inv n a m d) (hn:n ≤ 29) {w c s f g:Int} (hw:0 ≤ w ∧ w ≤ 9) (hc:0 ≤ c ∧ c ≤ 9) (hs9:0 ≤ s ∧ s ≤ 99) (hf:0 ≤ f ∧ f ≤ 9) {k:Int} (hk:k = 2 ∨ k = 3 ∨ k = 4 ∨ k = 5) :
  (mayP m k w c s f g).1 = (bif k == 2 then (getP m (nm 99 c)).isNone else bif k == 3 then mayTG m c s f else bif k == 4 then mayNG m f g else true) ∧ ((mayP m k w c s f g).1 = true → doS m (mayP m k w c s f g).2.2 = newM m k w c s f g ∧ plcP 2 (newM m k w c s f g) = true ∧ (newM m k w c s f g).length ≤ n + 1) := by
 have hs := plc_srt h.pm
 have hst := plc_store h.pm
 have hlm := h.lm
 have kc := nm_f (c := 99) (by simp) hc
 have kf := nm_f (c := 102) (by simp) hf
 have pf:∀ a0 a1 a2:Int,a0 ≤ 9 → (1 ≤ a1 ∧ a1 ≤ 99) → a2 ≤ 1 → placeP 2 (nm 102 f,[a0,a1,a2]) = true := by
  intro a0 a1 a2 h0 h1 h2
  unfold placeP
  simp only [show ¬ ((2:Int) = 1) by decide,decide_false,cond_false,decide_true,cond_true,byte_f,kf.2.2.2,Bool.true_and,Bool.and_eq_true,Bool.or_eq_true,decide_eq_true_eq]
  exact ⟨h0,.inr ⟨rfl,h1,h2⟩⟩
 unfold mayP newM
 rcases hk with rfl | rfl | rfl | rfl
 ·have w1:wrtP (nm 99 c) false [w,g_Vs_SecSum_0 s] = true := wrtP_val kc.2.2.1 (valP2 (by omega) (by rw [secsum_range hs9]; omega))
  have l1 := writeS_le false [w,g_Vs_SecSum_0 s] hs (k := nm 99 c)
  have p1:placeP 2 (nm 99 c,[w,g_Vs_SecSum_0 s]) = true := by
   unfold placeP
   simp only [show ¬ ((2:Int) = 1) by decide,decide_false,cond_false,decide_true,cond_true,byte_c,kc.2.2.2,Bool.true_and,Bool.and_eq_true,Bool.or_eq_true,decide_eq_true_eq]
   exact ⟨hw.2,.inl (by first | rfl | exact ⟨rfl,rfl⟩)⟩
  simp only [show ((2:Int) == 1) = false from rfl,BEq.rfl,cond_true,cond_false]
  unfold letP noP
  cases getP m (nm 99 c) with
  | none => exact ⟨rfl,fun _ => ⟨doS_one hst w1 (by omega),plc_write h.pm w1 (by omega) (fun _ => p1),by omega⟩⟩
  | some v => exact ⟨rfl,fun e => by cases e⟩
 ·simp only [show ((3:Int) == 1) = false from rfl,show ((3:Int) == 2) = false from rfl,BEq.rfl,cond_true,cond_false]
  unfold tradeP mayTG tradeM noP
  cases hg:getP m (nm 99 c) with
  | none => exact ⟨rfl,fun e => by cases e⟩
  | some v =>
   simp only
   cases hq:(getP m (nm 102 f)).isSome
   ·cases he:nth v 1 == g_Vs_SecSum_0 s
    ·exact ⟨rfl,fun e => by cases e⟩
    ·refine ⟨rfl,fun _ => ?_⟩
     have hv := may_who h.pm hg
     have l1 := writeS_length true [] hs (k := nm 99 c)
     rw [hg] at l1
     simp only [Option.isSome_some,cond_true] at l1
     have w1 := wrtP_del kc.2.2.1
     have w2:wrtP (nm 102 f) false [nth v 0,1,1] = true := wrtP_val kf.2.2.1 (valP3 (by omega) (by omega) (by omega))
     have l2 := writeS_le false [nth v 0,1,1] (writeS_srt true [] hs (k := nm 99 c)) (k := nm 102 f)
     have q1 := plc_write h.pm w1 (by omega) (fun e => by cases e)
     exact ⟨doS_two hst w1 (by omega) w2 (by omega),plc_write q1 w2 (by omega) (fun _ => pf _ _ _ hv.2 (by omega) (by omega)),by omega⟩
   ·exact ⟨rfl,fun e => by cases e⟩
 ·simp only [show ((4:Int) == 1) = false from rfl,show ((4:Int) == 2) = false from rfl,show ((4:Int) == 3) = false from rfl,BEq.rfl,cond_true,cond_false]
  unfold nextP mayNG nextM noP
  cases hg:getP m (nm 102 f) with
  | none => exact ⟨rfl,fun e => by cases e⟩
  | some v =>
   simp only
   cases hq:(nth v 2 == 0) || (decide (g > nth v 1) || ((g == 0) || (nth v 1 == 99)))
   ·refine ⟨rfl,fun _ => ?_⟩
    have hv := may_who h.pm hg
    have fg := fam_get h.pm hg
    have n99:nth v 1 ≠ 99 := by
     intro e
     rw [e] at hq
     simp at hq
    simp only [cond_false]
    have l1 := fun v => writeS_length false v hs (k := nm 102 f)
    simp only [hg,Option.isSome_some,cond_true,cond_false] at l1
    cases decide (g < nth v 1)
    ·have w1:wrtP (nm 102 f) false [nth v 0,nth v 1 + 1,1] = true := wrtP_val kf.2.2.1 (valP3 (by omega) (by omega) (by omega))
     have l1 := l1 [nth v 0,nth v 1 + 1,1]
     simp only [cond_false]
     exact ⟨doS_one hst w1 (by omega),plc_write h.pm w1 (by omega) (fun _ => pf _ _ _ hv.2 (by omega) (by omega)),by omega⟩
    ·have w1:wrtP (nm 102 f) false [nth v 0,nth v 1,0] = true := wrtP_val kf.2.2.1 (valP3 (by omega) (by omega) (by omega))
     have l1 := l1 [nth v 0,nth v 1,0]
     simp only [cond_true]
     exact ⟨doS_one hst w1 (by omega),plc_write h.pm w1 (by omega) (fun _ => pf _ _ _ hv.2 (by omega) (by omega)),by omega⟩
   ·exact ⟨rfl,fun e => by cases e⟩
 ·simp only [show ((5:Int) == 1) = false from rfl,show ((5:Int) == 2) = false from rfl,show ((5:Int) == 3) = false from rfl,show ((5:Int) == 4) = false from rfl,cond_false]
  have := doS_out h.pm w
  exact ⟨rfl,fun _ => ⟨this.1,this.2,by rw [List.length_map]; omega⟩⟩
theorem gd_f {n:Nat} {a m d:List Item} (h:Inv n a m d) (hn:n ≤ 29) {k w i c s f g:Int} (ho:opP k w i c s f g = true) :
  gloDoP [a,m,d] n k w i c s f g = (bif mayG a m k w i c s f g then some [newA a k w i,newM m k w c s f g,writeS d (nmA n) false [k]] else none) ∧ (mayG a m k w i c s f g = true → Inv (n + 1) (newA a k w i) (newM m k w c s f g) (writeS d (nmA n) false [k])) := by
 obtain ⟨bw,bi,bc,bf,bs,bg,hk⟩ := opP_bd ho
 have hk5:1 ≤ k ∧ k ≤ 5 := by omega
 obtain ⟨d1,d2,d3,d4,d5⟩ := done_f h hn k hk5
 obtain ⟨a1,a2⟩ := in_f h hn bw bi k
 have hla := h.la; have hlm := h.lm; have hld := h.ld
 unfold gloDoP placesP
 rw [ho]
 by_cases h1:k = 1
 ·subst h1
  have e:mayG a m 1 w i c s f g = (inP a 1 w i).1 := a1.symm
  have em:newM m 1 w c s f g = m := rfl
  rw [e,em]
  show doP [a,m,d] n 1 w i c s f g [1,3] [a,m,d] = _ ∧ _
  rw [do_13,d1,d2]
  cases hq:(inP a 1 w i).1
  ·exact ⟨rfl,fun e => by cases e⟩
  ·obtain ⟨b1,b2,b3⟩ := a2 hq
   rw [b1]
   exact ⟨rfl,fun _ => ⟨b2,h.pm,d3,b3,by omega,by omega,d5⟩⟩
 ·have hk':k = 2 ∨ k = 3 ∨ k = 4 ∨ k = 5 := by omega
  have e1:(k == 1) = false := by simpa using h1
  obtain ⟨m1,m2⟩ := may_f (g := g) h hn bw bc bs bf hk'
  rw [e1] at a1
  by_cases h25:k = 2 ∨ k = 5
  ·have hp:(bif !true then ([]:List Int) else bif k == 1 then [1,3] else bif k == 2 then [1,2,3] else bif k == 5 then [1,2,3] else [2,3]) = [1,2,3] := by
    rcases h25 with rfl | rfl <;> rfl
   rw [hp,do_123,d1,d2]
   have e:mayG a m k w i c s f g = ((inP a k w i).1&&(mayP m k w c s f g).1) := by
    rw [a1,m1]
    rcases h25 with rfl | rfl
    ·rfl
    ·exact (Bool.and_true _).symm
   rw [e]
   cases hq:(inP a k w i).1
   ·exact ⟨rfl,fun e => by cases e⟩
   ·cases hr:(mayP m k w c s f g).1
    ·exact ⟨rfl,fun e => by cases e⟩
    ·obtain ⟨b1,b2,b3⟩ := a2 hq
     obtain ⟨c1,c2,c3⟩ := m2 hr
     rw [b1,c1]
     exact ⟨rfl,fun _ => ⟨b2,c2,d3,b3,c3,by omega,d5⟩⟩
  ·have h34:k = 3 ∨ k = 4 := by omega
   have hp:(bif !true then ([]:List Int) else bif k == 1 then [1,3] else bif k == 2 then [1,2,3] else bif k == 5 then [1,2,3] else [2,3]) = [2,3] := by
    rcases h34 with rfl | rfl <;> rfl
   rw [hp,do_23,d1,d2]
   have e:mayG a m k w i c s f g = (mayP m k w c s f g).1 := by
    rw [m1]
    rcases h34 with rfl | rfl <;> rfl
   have ea:newA a k w i = a := by rcases h34 with rfl | rfl <;> rfl
   rw [e,ea]
   cases hr:(mayP m k w c s f g).1
   ·exact ⟨rfl,fun e => by cases e⟩
   ·obtain ⟨c1,c2,c3⟩ := m2 hr
    rw [c1]
    exact ⟨rfl,fun _ => ⟨h.pa,c2,d3,by omega,c3,by omega,d5⟩⟩
abbrev OT_:Ty := .pair (.int .i64) (.pair (.int .i64) (.pair (.int .i64) (.pair (.int .i64) (.pair (.int .i64) (.pair (.int .i64) (.int .i64))))))
abbrev OpT:Type := Int×Int×Int×Int×Int×Int×Int
structure S3 where
 a:List Item
 m:List Item
 d:List Item
abbrev S3.l (s:S3):Stos := [s.a,s.m,s.d]
def opO (o:OpT):Bool := opP o.1 o.2.1 o.2.2.1 o.2.2.2.1 o.2.2.2.2.1 o.2.2.2.2.2.1 o.2.2.2.2.2.2
noncomputable def mayO (s:S3) (o:OpT):Bool := mayG s.a s.m o.1 o.2.1 o.2.2.1 o.2.2.2.1 o.2.2.2.2.1 o.2.2.2.2.2.1 o.2.2.2.2.2.2
noncomputable def doO (n:Nat) (s:S3) (o:OpT):S3 := ⟨newA s.a o.1 o.2.1 o.2.2.1,newM s.m o.1 o.2.1 o.2.2.2.1 o.2.2.2.2.1 o.2.2.2.2.2.1 o.2.2.2.2.2.2,writeS s.d (nmA n) false [o.1]⟩
noncomputable def stepO (n:Nat) (s:S3) (o:OpT):S3 := bif mayO s o then doO n s o else s
noncomputable def stG (ops:List OpT):Nat → S3
 | 0 => ⟨[],[],[]⟩
 | n + 1 => stepO n (stG ops n) (at_ OT_ ops n)
noncomputable def mayAt (ops:List OpT) (n:Nat):Bool := mayO (stG ops n) (at_ OT_ ops n)
def InvS (n:Nat) (s:S3):Prop := Inv n s.a s.m s.d
theorem Inv.mono {n:Nat} {a m d:List Item} (h:Inv n a m d):Inv (n + 1) a m d :=
 ⟨h.pa,h.pm,h.pd,Nat.le_succ_of_le h.la,Nat.le_succ_of_le h.lm,Nat.le_succ_of_le h.ld,fun t h1 h2 => h.fresh t (by omega) h2⟩
theorem gdO {n:Nat} {s:S3} (h:InvS n s) (hn:n ≤ 29) {o:OpT} (ho:opO o = true) :
  gloDoP s.l n o.1 o.2.1 o.2.2.1 o.2.2.2.1 o.2.2.2.2.1 o.2.2.2.2.2.1 o.2.2.2.2.2.2 = (bif mayO s o then some (doO n s o).l else none) ∧ (mayO s o = true → InvS (n + 1) (doO n s o)) := gd_f h hn ho
theorem stepO_inv {n:Nat} {s:S3} (h:InvS n s) (hn:n ≤ 29) {o:OpT} (ho:opO o = true):InvS (n + 1) (stepO n s o) := by
 have := (gdO h hn ho).2
 unfold stepO
 cases hm:mayO s o
 ·exact h.mono
 ·exact this hm
def OpsOk (ops:List OpT):Prop := ops.length ≤ 29 ∧ ∀ o ∈ ops,opO o = true
theorem OpsOk.at {ops:List OpT} (h:OpsOk ops) {n:Nat} (hn:n < ops.length):opO (at_ OT_ ops n) = true := h.2 _ (at_mem (e := OT_) hn)
theorem stG_inv {ops:List OpT} (h:OpsOk ops):∀ n,n ≤ ops.length → InvS n (stG ops n)
 | 0,_ => inv0
 | n + 1,hn => stepO_inv (stG_inv h n (by omega)) (by have := h.1; omega) (h.at (by omega))
theorem stG_succ (ops:List OpT) (n:Nat):stG ops (n + 1) = bif mayAt ops n then doO n (stG ops n) (at_ OT_ ops n) else stG ops n := rfl
theorem newM_get {m:List Item} (hs:Srt m) (k w c s f g:Int) (key:ByteArray):getP (newM m k w c s f g) key =
  bif k == 1 then getP m key else bif k == 2 then (bif decide (nm 99 c = key) then some [w,g_Vs_SecSum_0 s] else getP m key)
  else bif k == 3 then (match getP m (nm 99 c) with | none => getP m key | some v => bif decide (nm 102 f = key) then some [nth v 0,1,1] else bif decide (nm 99 c = key) then none else getP m key)
  else bif k == 4 then (match getP m (nm 102 f) with | none => getP m key | some v => bif decide (nm 102 f = key) then some (bif decide (g < nth v 1) then [nth v 0,nth v 1,0] else [nth v 0,nth v 1 + 1,1]) else getP m key)
  else (getP m key).map fun v => (outX w (key,v)).2 := by
 unfold newM
 cases k == 1
 ·cases k == 2
  ·cases k == 3
   ·cases k == 4
    ·exact getP_map (outX_key w) key m
    ·simp only [cond_false,cond_true,nextM]
     cases getP m (nm 102 f) with
     | none => rfl
     | some v => simp only [getP_write false _ key hs,cond_false]
   ·simp only [cond_false,cond_true,tradeM]
    cases getP m (nm 99 c) with
    | none => rfl
    | some v => simp only [getP_write false _ key (writeS_srt true [] hs),getP_write true [] key hs,cond_false,cond_true]
  ·simp only [cond_false,cond_true,getP_write false _ key hs]
 ·rfl
theorem InvS.sm {n:Nat} {s:S3} (h:InvS n s):Srt s.m := plc_srt h.pm
theorem InvS.sd {n:Nat} {s:S3} (h:InvS n s):Srt s.d := plc_srt h.pd
theorem key_cf {key:ByteArray} (h:byteAt key 0 = 102) (c:Int):decide (nm 99 c = key) = false := decide_eq_false fun e => by rw [← e,byte_c] at h; exact absurd h (by decide)
theorem at_setI (l:List Int) (i j:Nat) (x:Int) (h:i < l.length):at_ (.int .i64) (l.set i x) j = bif decide (i = j) then x else at_ (.int .i64) l j := by
 simp only [at_,List.getD_eq_getElem?_getD,List.getElem?_set]
 by_cases e:i = j
 ·subst e
  rw [if_pos rfl,if_pos h,decide_eq_true rfl]
  rfl
 ·rw [if_neg e,decide_eq_false e]
  rfl
theorem nm_dec {c:Nat} (hc:c = 99 ∨ c = 102 ∨ c = 115) {n m:Int} (hn:0 ≤ n ∧ n ≤ 9) (hm:0 ≤ m ∧ m ≤ 9):decide (nm c n = nm c m) = decide (n.toNat = m.toNat) := by
 rw [decide_eq_decide]
 constructor
 ·intro e
  rw [nm_inj hc hn hm e]
 ·intro e
  rw [show n = m by omega]
theorem may3 {s:S3} {k w i c x f g:Int} (h:mayO s (k,w,i,c,x,f,g) = true) (hk:k = 3):∃ v,getP s.m (nm 99 c) = some v ∧ getP s.m (nm 102 f) = none ∧ nth v 1 = g_Vs_SecSum_0 x := by
 subst hk
 have h:mayTG s.m c x f = true := h
 unfold mayTG at h
 cases hv:getP s.m (nm 99 c) with
 | none => rw [hv] at h; cases h
 | some v =>
  rw [hv] at h
  simp only [Bool.and_eq_true,beq_iff_eq] at h
  exact ⟨v,rfl,by simpa using h.1,h.2⟩
theorem may4 {s:S3} {k w i c x f g:Int} (h:mayO s (k,w,i,c,x,f,g) = true) (hk:k = 4):∃ v,getP s.m (nm 102 f) = some v ∧ nth v 2 ≠ 0 ∧ g ≤ nth v 1 ∧ g ≠ 0 ∧ nth v 1 ≠ 99 := by
 subst hk
 have h:mayNG s.m f g = true := h
 unfold mayNG at h
 cases hv:getP s.m (nm 102 f) with
 | none => rw [hv] at h; cases h
 | some v =>
  rw [hv] at h
  simp only [Bool.not_eq_true',Bool.or_eq_false_iff,decide_eq_false_iff_not,beq_eq_false_iff_ne] at h
  exact ⟨v,rfl,h.1,by omega,h.2.2.1,h.2.2.2⟩
theorem out_fam {w:Int} {key:ByteArray} (hb:byteAt key 0 = 102) (v:List Int):(outX w (key,v)).2 = bif (nth v 0 == w)&&(nth v 2 == 1) then [nth v 0,nth v 1,0] else v := by
 have:famP w (key,v) = ((nth v 0 == w)&&(nth v 2 == 1)) := by
  unfold famP
  simp only [hb]
  rfl
 unfold outX
 rw [this]
 cases (nth v 0 == w)&&(nth v 2 == 1) <;> rfl
theorem fam12 {n:Nat} {s:S3} (hI:InvS n s) {k w i c x f g:Int} (hk:k = 1 ∨ k = 2) {key:ByteArray} (hb:byteAt key 0 = 102):getP (doO n s (k,w,i,c,x,f,g)).m key = getP s.m key := by
 have hg:getP (doO n s (k,w,i,c,x,f,g)).m key = _ := newM_get hI.sm k w c x f g key
 rw [hg]
 rcases hk with rfl | rfl
 ·rfl
 ·show (bif decide (nm 99 c = key) then _ else _) = _
  rw [key_cf hb c]
  rfl
theorem fam3 {n:Nat} {s:S3} (hI:InvS n s) {w i c x f g:Int} {v:List Int} (hv:getP s.m (nm 99 c) = some v) {key:ByteArray} (hb:byteAt key 0 = 102):getP (doO n s (3,w,i,c,x,f,g)).m key = bif decide (nm 102 f = key) then some [nth v 0,1,1] else getP s.m key := by
 have hg:getP (doO n s (3,w,i,c,x,f,g)).m key = _ := newM_get hI.sm 3 w c x f g key
 rw [hg]
 show (match getP s.m (nm 99 c) with | none => getP s.m key | some v => bif decide (nm 102 f = key) then some [nth v 0,1,1] else bif decide (nm 99 c = key) then none else getP s.m key) = _
 rw [hv,key_cf hb c]
 rfl
theorem fam4 {n:Nat} {s:S3} (hI:InvS n s) {w i c x f g:Int} {v:List Int} (hv:getP s.m (nm 102 f) = some v) (key:ByteArray):getP (doO n s (4,w,i,c,x,f,g)).m key = bif decide (nm 102 f = key) then some (bif decide (g < nth v 1) then [nth v 0,nth v 1,0] else [nth v 0,nth v 1 + 1,1]) else getP s.m key := by
 have hg:getP (doO n s (4,w,i,c,x,f,g)).m key = _ := newM_get hI.sm 4 w c x f g key
 rw [hg]
 show (match getP s.m (nm 102 f) with | none => getP s.m key | some v => bif decide (nm 102 f = key) then some (bif decide (g < nth v 1) then [nth v 0,nth v 1,0] else [nth v 0,nth v 1 + 1,1]) else getP s.m key) = _
 rw [hv]
theorem fam5 {n:Nat} {s:S3} (hI:InvS n s) {w i c x f g:Int} {key:ByteArray} (hb:byteAt key 0 = 102):getP (doO n s (5,w,i,c,x,f,g)).m key = (getP s.m key).map fun v => bif (nth v 0 == w)&&(nth v 2 == 1) then [nth v 0,nth v 1,0] else v := by
 have hg:getP (doO n s (5,w,i,c,x,f,g)).m key = _ := newM_get hI.sm 5 w c x f g key
 rw [hg]
 show (getP s.m key).map (fun v => (outX w (key,v)).2) = _
 cases getP s.m key with
 | none => rfl
 | some v => simp only [Option.map_some,out_fam hb]
theorem fam_len {n:Nat} {s:S3} (hI:InvS n s) {key:ByteArray} (hb:byteAt key 0 = 102) {v:List Int} (hv:getP s.m key = some v):v.length = 3 ∧ (0 ≤ nth v 0 ∧ nth v 0 ≤ 9) ∧ (1 ≤ nth v 1 ∧ nth v 1 ≤ 99) ∧ (0 ≤ nth v 2 ∧ nth v 2 ≤ 1) := by
 have hx := get_item hv
 have h1 := may_item (plc_item hI.pm hx).1
 have h2 := (plc_val hI.pm hx).2
 simp only at h1 h2
 rcases h1.2.2 with h | h
 ·rw [hb] at h; exact absurd h.1 (by decide)
 ·have n0 := nth_val h2 (n := 0) (by omega)
  have n2 := nth_val h2 (n := 2) (by omega)
  exact ⟨h.2.1,⟨n0.1,h1.2.1⟩,h.2.2.1,n2.1,h.2.2.2⟩
def FamJ (n:Nat) (s:S3) (t:List Int):Prop := t.length = 10 ∧ ∀ f:Int,0 ≤ f ∧ f ≤ 9 → (getP s.m (nm 102 f) = none ∧ at_ (.int .i64) t f.toNat = 0) ∨ (∃ v,getP s.m (nm 102 f) = some v ∧ nth v 1 = at_ (.int .i64) t f.toNat ∧ nth v 1 ≤ n)
theorem fam_step {n:Nat} {s:S3} (hI:InvS n s) {t:List Int} (hJ:FamJ n s t) {k w i c x f g:Int} (ho:opO (k,w,i,c,x,f,g) = true) (hm:mayO s (k,w,i,c,x,f,g) = true) :
  (k = 3 → at_ (.int .i64) t f.toNat = 0) ∧ FamJ (n + 1) (doO n s (k,w,i,c,x,f,g)) (bif k == 3 then t.set f.toNat 1 else bif (k == 4)&&decide (g = at_ (.int .i64) t f.toNat) then t.set f.toNat (g + 1) else t) := by
 have ho:opP k w i c x f g = true := ho
 obtain ⟨bw,bi,bc,bf,bs,bg,hk⟩ := opP_bd ho
 obtain ⟨h1,h2⟩ := hJ
 have up:∀ f':Int,0 ≤ f' ∧ f' ≤ 9 → (getP s.m (nm 102 f') = none ∧ at_ (.int .i64) t f'.toNat = 0) ∨ (∃ v,getP s.m (nm 102 f') = some v ∧ nth v 1 = at_ (.int .i64) t f'.toNat ∧ nth v 1 ≤ ((n + 1:Nat):Int)) := fun f' hf' => by
  rcases h2 f' hf' with h | ⟨v,a1,a2,a3⟩
  ·exact .inl h
  ·exact .inr ⟨v,a1,a2,by omega⟩
 rcases hk with rfl | rfl | rfl | rfl | rfl
 ·exact ⟨(fun e => by cases e),h1,fun f' hf' => by rw [fam12 hI (.inl rfl) (byte_f f')]; exact up f' hf'⟩
 ·exact ⟨(fun e => by cases e),h1,fun f' hf' => by rw [fam12 hI (.inr rfl) (byte_f f')]; exact up f' hf'⟩
 ·obtain ⟨vc,h3,h4,_⟩ := may3 hm rfl
  refine ⟨fun _ => ?_,by simp [h1],fun f' hf' => ?_⟩
  ·rcases h2 f bf with h | ⟨v,h,_⟩
   ·exact h.2
   ·rw [h4] at h; cases h
  ·rw [fam3 hI h3 (byte_f f'),nm_dec (by simp) bf hf']
   show (_ ∧ at_ (.int .i64) (t.set f.toNat 1) f'.toNat = 0) ∨ ∃ v,_ ∧ nth v 1 = at_ (.int .i64) (t.set f.toNat 1) f'.toNat ∧ _
   rw [at_setI t f.toNat f'.toNat 1 (by omega)]
   cases decide (f.toNat = f'.toNat)
   ·exact up f' hf'
   ·exact .inr ⟨_,rfl,rfl,(by show (1:Int) ≤ ((n + 1:Nat):Int); omega)⟩
 ·obtain ⟨vf,h3,h4,h5,h6,h7⟩ := may4 hm rfl
  have hf:nth vf 1 = at_ (.int .i64) t f.toNat ∧ nth vf 1 ≤ n := by
   rcases h2 f bf with h | ⟨v,h,a⟩
   ·rw [h3] at h; cases h.1
   ·rw [h3] at h; cases h; exact a
  refine ⟨(fun e => by cases e),?_,fun f' hf' => ?_⟩
  ·show (bif true&&_ then _ else _:List Int).length = 10
   cases decide (g = at_ (.int .i64) t f.toNat) <;> simp [h1]
  ·rw [fam4 hI h3,nm_dec (by simp) bf hf']
   show (_ ∧ at_ (.int .i64) (bif true&&decide (g = at_ (.int .i64) t f.toNat) then _ else _) f'.toNat = 0) ∨ ∃ v,_ ∧ nth v 1 = at_ (.int .i64) (bif true&&decide (g = at_ (.int .i64) t f.toNat) then _ else _) f'.toNat ∧ _
   by_cases hg:g = at_ (.int .i64) t f.toNat
   ·rw [decide_eq_true hg,decide_eq_false (show ¬ g < nth vf 1 by omega)]
    simp only [Bool.and_self,cond_true,cond_false]
    rw [at_setI t f.toNat f'.toNat (g + 1) (by omega)]
    cases decide (f.toNat = f'.toNat)
    ·exact up f' hf'
    ·exact .inr ⟨_,rfl,(by show nth vf 1 + 1 = g + 1; omega),(by show nth vf 1 + 1 ≤ ((n + 1:Nat):Int); omega)⟩
   ·rw [decide_eq_false hg,decide_eq_true (show g < nth vf 1 by omega)]
    simp only [Bool.and_false,cond_true,cond_false]
    by_cases e:f.toNat = f'.toNat
    ·rw [decide_eq_true e,cond_true]
     exact .inr ⟨_,rfl,(by show nth vf 1 = _; rw [← e]; exact hf.1),(by show nth vf 1 ≤ ((n + 1:Nat):Int); omega)⟩
    ·rw [decide_eq_false e,cond_false]
     exact up f' hf'
 ·refine ⟨(fun e => by cases e),h1,fun f' hf' => ?_⟩
  rw [fam5 hI (byte_f f')]
  rcases up f' hf' with h | ⟨v,a1,a2,a3⟩
  ·exact .inl ⟨by rw [h.1]; rfl,h.2⟩
  ·refine .inr ⟨_,by rw [a1,Option.map_some],?_⟩
   cases (nth v 0 == w)&&(nth v 2 == 1)
   ·exact ⟨a2,a3⟩
   ·exact ⟨a2,a3⟩
theorem i_WrtOk_f (k:ByteArray) (d:Bool) (l:List Int) (hl:l.length ≤ 1048576):g_Ai_WrtOk k d l = true ∧ g_Vi_WrtOk_0 k d l = wrtP k d l := by
 constructor
 ·simp [g_Ai_WrtOk,(i_keyOk_f _).1,(i_valOk_f _ hl).1]
 ·simp only [g_Vi_WrtOk_0,(i_keyOk_f _).2,(i_valOk_f _ hl).2,wrtP]
  cases d <;> cases keyP k <;> cases l <;> simp <;> omega
theorem i_scopied_f (l:List Item) (hl:l.length ≤ 1048576) (hit:∀ x ∈ l,x.2.length ≤ 1048576):g_Ai_StoStore_copied l = true ∧ g_Vi_StoStore_copied_0 l = l := by
 have L:g_Li_StoStore_copied_0 l (l.length:Int) [] (0,[]) = some (l.map id) := by
  refine loop_app (e := TI_) (step := g_Si_StoStore_copied_0 l (l.length:Int) []) l (fun i r => (i,r)) id id (fun i r hi hr => ?_) (fun r hr => by simp only [g_Si_StoStore_copied_0,RT.sel,cond_true,Int.lt_irrefl,decide_false,cond_false,id])
  have k1:(i:Int) < l.length := by omega
  have k2:(0:Int) ≤ (i:Int) := by omega
  have hx := hit _ (at_mem (e := TI_) hi)
  simp only [g_Si_StoStore_copied_0,RT.sel,cond_true,k1,k2,decide_true,and_self,Int.toNat_natCast,g_Aslices_Clone_int_int_b,id]
  rw [cap0_f _ _ hx (by decide),capF_f _ _ _ (by simp only [List.length_cons,List.length_nil]; omega) (by decide),cond_true,cond_true,wrap64 (x := (i:Int) + 1) (by omega)]
  rfl
 rw [List.map_id] at L
 simp only [g_Ai_StoStore_copied,g_Vi_StoStore_copied_0,L,okO,valO,Option.isSome_some,Option.getD_some,and_self]
theorem i_write_f (l:List Item) (h:storeP l = true) (k:ByteArray) (d:Bool) (v:List Int) (hv:v.length ≤ 1048576):g_Ai_StoStore_write l k d v = true ∧ g_Vi_StoStore_write_0 l k d v = writeS l k d v := by
 have hl := ((storeP_iff l).1 h).1
 have hs := ((storeP_iff l).1 h).2.2
 obtain ⟨f1,f2,f3⟩ := find_f l k h
 have hp := pos_le l k
 have gt := get_there h k
 have w1:IntKind.wrap .i64 ((posP l k:Int) + 1) = ((posP l k + 1:Nat):Int) := by rw [wrap64 (by omega)]; omega
 have e0:decide ((0:Int) ≤ (posP l k:Int) ∧ (posP l k:Int) ≤ (l.length:Int)) = true := decide_eq_true (by omega)
 have cl:g_Aslices_Clone_int_int_b v = true := by
  rw [g_Aslices_Clone_int_int_b]
  exact cap0_f _ _ hv (by decide)
 have ins:g_Aslices_Insert_i_StoItem_i_StoItem l (posP l k:Int) [(k,v)] = true := by
  unfold g_Aslices_Insert_i_StoItem_i_StoItem
  refine decide_eq_true ⟨by omega,by simp,by simp only [List.length_cons,List.length_nil]; omega⟩
 have lt:thereP l k = true → posP l k < l.length := fun e => by
  unfold thereP at e
  simp only [Bool.and_eq_true,decide_eq_true_eq] at e
  exact e.1
 unfold g_Ai_StoStore_write g_Vi_StoStore_write_0
 rw [f1,f2,f3,w1,cl,ins,write_put k d v hs]
 unfold putP
 rw [gt]
 cases ht:thereP l k
 ·refine ⟨by cases d <;> rfl,?_⟩
  cases d
  ·simp only [cond_false,Option.isSome_none,if_false,Bool.false_eq_true]
   unfold g_Vslices_Insert_i_StoItem_i_StoItem_0
   rw [Int.toNat_natCast]
   rfl
  ·rfl
 ·have hlt := lt ht
  have del:g_Aslices_Delete_i_StoItem_i_StoItem l (posP l k:Int) ((posP l k + 1:Nat):Int) = true := by
   unfold g_Aslices_Delete_i_StoItem_i_StoItem
   exact decide_eq_true (by omega)
  have d1:decide ((0:Int) ≤ (posP l k:Int) ∧ (posP l k:Int) < (l.length:Int)) = true := decide_eq_true (by omega)
  have d2:decide (Int.toNat (posP l k:Int) < l.length) = true := decide_eq_true (by rw [Int.toNat_natCast]; exact hlt)
  rw [del,d1,d2]
  refine ⟨by cases d <;> rfl,?_⟩
  cases d
  ·simp only [cond_false,cond_true,Option.isSome_some,if_true]
   have hk:(at_ TI_ l (posP l k)).1 = k := by
    unfold thereP at ht
    simp only [Bool.and_eq_true,beq_iff_eq] at ht
    exact toList_inj ht.2
   show l.set (Int.toNat (posP l k:Int)) ((at_ TI_ l (Int.toNat (posP l k:Int))).1,v) = _
   rw [Int.toNat_natCast,hk]
  ·simp only [cond_true,Option.isSome_some,if_true]
   unfold g_Vslices_Delete_i_StoItem_i_StoItem_0
   rw [Int.toNat_natCast,Int.toNat_natCast,List.eraseIdx_eq_take_drop_succ]
theorem i_anyBad_f (ws:List Wrt) (hw:ws.length ≤ 1048576) (hws:∀ w ∈ ws,w.2.2.length ≤ 1048576):g_Aslices_ContainsFunc_i_StoWrite_i_StoWrite__i_StoDo_1 ws = true ∧ g_Vslices_ContainsFunc_i_StoWrite_i_StoWrite__i_StoDo_1_0 ws = ws.any fun w => !wrtP w.1 w.2.1 w.2.2 := by
 obtain ⟨r,h1,h2⟩ := loop_idx (e := .pair .str (.pair .bool (.sl 3 (.int .i64)))) ws (step := g_Sslices_IndexFunc_i_StoWrite_i_StoWrite__i_StoDo_1_0 ws (ws.length:Int)) (fun w => !wrtP w.1 w.2.1 w.2.2) (fun i hi => by
  have k1:(i:Int) < ws.length := by omega
  have k2:(0:Int) ≤ (i:Int) := by omega
  have hx := hws _ (at_mem (e := .pair .str (.pair .bool (.sl 3 (.int .i64)))) hi)
  obtain ⟨q1,q2⟩ := i_WrtOk_f (at_ (.pair .str (.pair .bool (.sl 3 (.int .i64)))) ws i).1 (at_ (.pair .str (.pair .bool (.sl 3 (.int .i64)))) ws i).2.1 (at_ (.pair .str (.pair .bool (.sl 3 (.int .i64)))) ws i).2.2 hx
  simp only [g_Sslices_IndexFunc_i_StoWrite_i_StoWrite__i_StoDo_1_0,RT.sel,cond_true,k1,k2,decide_true,and_self,Int.toNat_natCast,g_Ai_StoDo_1,q1,q2]
  rw [wrap64 (x := (i:Int) + 1) (by omega)]
  rfl) (by simp only [g_Sslices_IndexFunc_i_StoWrite_i_StoWrite__i_StoDo_1_0,RT.sel,cond_true,Int.lt_irrefl,decide_false,cond_false])
 have h1:g_Lslices_IndexFunc_i_StoWrite_i_StoWrite__i_StoDo_1_0 ws (ws.length:Int) 0 = some r := h1
 unfold g_Aslices_ContainsFunc_i_StoWrite_i_StoWrite__i_StoDo_1 g_Vslices_ContainsFunc_i_StoWrite_i_StoWrite__i_StoDo_1_0 g_Aslices_IndexFunc_i_StoWrite_i_StoWrite__i_StoDo_1 g_Vslices_IndexFunc_i_StoWrite_i_StoWrite__i_StoDo_1_0
 rw [h1]
 exact ⟨rfl,h2⟩
theorem i_StoDo_f (l:List Item) (ws:List Wrt) (hl:l.length ≤ 1048576) (hit:∀ x ∈ l,x.2.length ≤ 1048576) (hw:ws.length ≤ 1048576) (hws:∀ w ∈ ws,w.2.2.length ≤ 1048576):g_Ai_StoDo l ws = true ∧ g_Vi_StoDo_0 l ws = doS l ws := by
 obtain ⟨a1,a2⟩ := i_StoOk_f l hl hit
 obtain ⟨b1,b2⟩ := i_anyBad_f ws hw hws
 obtain ⟨c1,c2⟩ := i_scopied_f l hl hit
 unfold g_Ai_StoDo g_Vi_StoDo_0
 rw [a1,a2,b1,b2,c1,c2]
 cases hs:storeP l
 ·unfold doS; rw [hs]; exact ⟨rfl,rfl⟩
 ·cases hb:ws.any fun w => !wrtP w.1 w.2.1 w.2.2
  ·have hok:∀ w ∈ ws,wrtP w.1 w.2.1 w.2.2 = true := by
    intro w hw
    have := (List.any_eq_false.1 hb) w hw
    simpa using this
   rw [doS_of hs]
   have L:∃ r,g_Li_StoDo_0 ws (ws.length:Int) [] (0,l) = some r ∧ match r with
     | .inl p => p.1 = [] ∧ doL l ws = none
     | .inr p => doL l ws = some p := by
    refine loop_inv (step := g_Si_StoDo_0 ws (ws.length:Int) []) (fun x => 0 ≤ x.1 ∧ x.1.toNat ≤ ws.length ∧ storeP x.2 = true ∧ doL x.2 (ws.drop x.1.toNat) = doL l ws) _ (fun x => ws.length - x.1.toNat) ?_ _ ⟨by simp,by simp,hs,by simp⟩
    rintro ⟨i,y⟩ ⟨i1,i2,i3,i4⟩
    simp only at i1 i2 i3 i4
    by_cases hk:i < (ws.length:Int)
    ·have hn:i.toNat < ws.length := by omega
     rw [List.drop_eq_getElem_cons hn] at i4
     have hv := hws _ (List.getElem_mem hn)
     have ho := hok _ (List.getElem_mem hn)
     have e1:(i + 1).toNat = i.toNat + 1 := by omega
     have hat:at_ (.pair .str (.pair .bool (.sl 3 (.int .i64)))) ws i.toNat = ws[i.toNat] := at_eq (e := .pair .str (.pair .bool (.sl 3 (.int .i64)))) hn
     generalize hw:ws[i.toNat] = w at hv i4 hat ho
     obtain ⟨p1,p2⟩ := i_write_f y i3 w.1 w.2.1 w.2.2 hv
     have sel:(g_Si_StoDo_0 ws (ws.length:Int) [] (i,y)).sel = bif decide ((writeS y w.1 w.2.1 w.2.2).length ≤ 40) then .go (i + 1,writeS y w.1 w.2.1 w.2.2) else .out (.inl ([],writeS y w.1 w.2.1 w.2.2)) := by
      simp only [g_Si_StoDo_0,RT.sel,hk,i1,and_self,decide_true,cond_true,hat,p1,p2,wrap64 (x := i + 1) (by omega)]
      by_cases hc:(writeS y w.1 w.2.1 w.2.2).length ≤ 40
      ·simp only [cond_false,cond_true,decide_eq_true hc,decide_eq_false (show ¬ ((writeS y w.1 w.2.1 w.2.2).length:Int) > 40 by omega)]
      ·simp only [cond_false,cond_true,decide_eq_false hc,decide_eq_true (show ((writeS y w.1 w.2.1 w.2.2).length:Int) > 40 by omega)]
     simp only [doL,ho,cond_true] at i4
     by_cases hc:(writeS y w.1 w.2.1 w.2.2).length ≤ 40
     ·rw [decide_eq_true hc,cond_true] at sel i4
      refine .inl ⟨_,sel,⟨by simp only; omega,by simp only; omega,writeS_store i3 ho hc,?_⟩,by simp only; omega⟩
      simp only [e1]
      exact i4
     ·rw [decide_eq_false hc,cond_false] at sel i4
      exact .inr ⟨_,sel,rfl,i4.symm⟩
    ·refine .inr ⟨.inr y,?_,?_⟩
     ·simp only [g_Si_StoDo_0,RT.sel,hk,decide_false,cond_true,cond_false]
     ·rw [List.drop_of_length_le (by omega)] at i4
      simp only [doL] at i4
      exact i4.symm
   obtain ⟨r,h2,h3⟩ := L
   rw [h2]
   match r,h3 with
   | .inl p,h3 => simp [okO,valO,isL,getL,h3.1,h3.2]
   | .inr p,h3 => simp [okO,valO,isL,getR,h3]
  ·obtain ⟨w,hw,e⟩ := List.any_eq_true.1 hb
   rw [doS_bad ⟨w,hw,by simpa using e⟩]
   exact ⟨rfl,rfl⟩
theorem containsJ_f (ls:List Int) (s:Int) (hl:ls.length ≤ 1048576):g_Aslices_Contains_int_int ls s = true ∧ g_Vslices_Contains_int_int_0 ls s = ls.contains s := by
 obtain ⟨r,h1,h2⟩ := loop_idx (e := .int .i64) ls (step := g_Sslices_Index_int_int_0 ls s (ls.length:Int)) (fun x => x == s) (fun i hi => by
  have h1:(i:Int) < ls.length := by omega
  have h2:(0:Int) ≤ (i:Int) := by omega
  have hw:IntKind.wrap .i64 ((i:Int) + 1) = ((i + 1:Nat):Int) := by rw [wrap64 (by omega)]; omega
  have hc:(s == at_ (.int .i64) ls i) = (at_ (.int .i64) ls i == s) := by rw [Bool.eq_iff_iff,beq_iff_eq,beq_iff_eq]; exact eq_comm
  simp only [g_Sslices_Index_int_int_0,RT.sel,cond_true,h1,h2,hw,decide_true,and_self,Int.toNat_natCast,hc]) (by simp [g_Sslices_Index_int_int_0,RT.sel])
 have h1:g_Lslices_Index_int_int_0 ls s (ls.length:Int) 0 = some r := h1
 constructor
 ·simp [g_Aslices_Contains_int_int,g_Aslices_Index_int_int,h1,okO]
 ·simp only [g_Vslices_Contains_int_int_0,g_Vslices_Index_int_int_0,h1,valO,Option.getD_some,h2]
  rw [Bool.eq_iff_iff]
  simp
theorem i_out_f (l:List Item) (k w i c s f g:Int) (h:plcP 2 l = true) (hw:0 ≤ w ∧ w ≤ 9):g_Ai_out l k w i c s f g = true ∧ g_Vi_out_0 l k w i c s f g = (outP l w).2.1 ∧ g_Vi_out_1 l k w i c s f g = (outP l w).2.2 := by
 have hlen := storeP_len (plc_store h)
 obtain ⟨n1,n2⟩ := named_f 117 w hw
 obtain ⟨L,_⟩ := loop_foldS (e := TI_) (step := g_Si_out_0 l (l.length:Int) k w i c s f g false [] [] true) l (fun i a => (i,a.1,a.2)) (outF w) id (fun i a => a.1.length ≤ i + 1 ∧ a.2.length ≤ i) (fun j a hj ha => by
  have k1:(j:Int) < l.length := by omega
  have k2:(0:Int) ≤ (j:Int) := by omega
  obtain ⟨p1,p2⟩ := plc_item h (List.getElem_mem hj)
  have p3 := may_item p1
  have hat:at_ (Ty.pair Ty.str (Ty.sl (nat_lit 3) (Ty.int IntKind.i64))) l j = l[j] := at_eq (e := TI_) hj
  have e0:List.drop j l = l[j] :: l.drop (j + 1) := List.drop_eq_getElem_cons hj
  generalize l[j] = x at p1 p2 p3 hat e0
  have q1:decide ((0:Int) ≤ (0:Int) ∧ (0:Int) < (x.1.size:Int)) = true := decide_eq_true (by have := p2.size; omega)
  have q2:decide ((0:Int) ≤ (0:Int) ∧ (0:Int) < (x.2.length:Int)) = true := decide_eq_true (by have := p2.len; omega)
  have hwr:IntKind.wrap .i64 ((j:Int) + 1) = ((j + 1:Nat):Int) := by rw [wrap64 (by omega)]; omega
  have f0:(byteAt x.1 (nat_lit 0) == (102:Int)) = (byteAt x.1 0 == 102) := rfl
  have f1:(at_ (Ty.int IntKind.i64) x.2 (nat_lit 0) == w) = (nth x.2 0 == w) := rfl
  have f2:(at_ (Ty.int IntKind.i64) x.2 (nat_lit 2) == (1:Int)) = (nth x.2 2 == 1) := rfl
  have c1:decide ((List.length a.1 + List.length [x.1]) * nat_lit 16 ≤ nat_lit 140737488355328 ∧ List.length a.1 + List.length [x.1] ≤ nat_lit 9223372036854775807) = true := capF_f _ _ _ (by show _ + 1 ≤ _; omega) (by decide)
  have c2:decide ((List.length a.2 + List.length [(x.1,false,[w,at_ (Ty.int IntKind.i64) x.2 (nat_lit 1),(0:Int)])]) * nat_lit 48 ≤ nat_lit 140737488355328 ∧ List.length a.2 + List.length [(x.1,false,[w,at_ (Ty.int IntKind.i64) x.2 (nat_lit 1),(0:Int)])] ≤ nat_lit 9223372036854775807) = true := capF_f _ _ _ (by show _ + 1 ≤ _; omega) (by decide)
  rw [e0]
  simp only [g_Si_out_0,RT.sel,cond_true,k1,k2,decide_true,and_self,Int.toNat_natCast,hat,q1,q2,hwr,f0,f1,f2,c1,c2,outF,famP]
  by_cases hf:byteAt x.1 0 = 102
  ·have h3:x.2.length = 3 := by
    rcases p3.2.2 with h1 | h1
    ·rw [hf] at h1; exact absurd h1.1 (by decide)
    ·exact h1.2.1
   have d1:decide ((0:Int) ≤ (1:Int) ∧ (1:Int) < (x.2.length:Int)) = true := decide_eq_true (by omega)
   have d2:decide ((0:Int) ≤ (2:Int) ∧ (2:Int) < (x.2.length:Int)) = true := decide_eq_true (by omega)
   have hb:(byteAt x.1 0 == (102:Int)) = true := by rw [hf]; rfl
   simp only [hb,d1,d2,cond_true,Bool.true_and]
   by_cases hx:nth x.2 0 = w
   ·have hxb:(nth x.2 0 == w) = true := by rw [hx]; simp
    have ew:(x.1,false,[w,at_ (Ty.int IntKind.i64) x.2 (nat_lit 1),(0:Int)]) = famW x := by unfold famW; rw [hx]
    rw [hxb,ew]
    cases (nth x.2 2 == 1) <;> refine ⟨rfl,?_⟩
    ·exact ⟨by simp only [Bool.and_false,cond_false]; omega,by simp only [Bool.and_false,cond_false]; omega⟩
    ·exact ⟨by simp only [Bool.and_self,cond_true,List.length_append,List.length_cons,List.length_nil]; omega,by simp only [Bool.and_self,cond_true,List.length_append,List.length_cons,List.length_nil]; omega⟩
   ·have hxb:(nth x.2 0 == w) = false := by simpa using hx
    rw [hxb]
    exact ⟨rfl,by simp only [Bool.false_and,cond_false]; omega,by simp only [Bool.false_and,cond_false]; omega⟩
  ·have hb:(byteAt x.1 0 == (102:Int)) = false := by simpa using hf
   simp only [hb,cond_false,Bool.false_and]
   exact ⟨by trivial,by omega,by omega⟩) (fun a => by simp only [g_Si_out_0,RT.sel,cond_true,Int.lt_irrefl,decide_false,cond_false,id]) ([nm 117 w],[]) ⟨by simp,by simp⟩
 rw [outF_eq] at L
 have L:g_Li_out_0 l (l.length:Int) k w i c s f g false [] [] true (0,[nm 117 w],[]) = some ((outP l w).2.1,(outP l w).2.2) := L
 unfold g_Ai_out g_Vi_out_0 g_Vi_out_1
 rw [n1,n2,L]
 exact ⟨rfl,rfl,rfl⟩
theorem i_atMay_f (l:List Item) (k w i c s f g:Int) (h:plcP 2 l = true) (hk:k = 2 ∨ k = 3 ∨ k = 4 ∨ k = 5) (hw:0 ≤ w ∧ w ≤ 9) (hc:0 ≤ c ∧ c ≤ 9) (hf:0 ≤ f ∧ f ≤ 9) (hg:0 ≤ g):g_Ai_atMay l k w i c s f g = true ∧ g_Vi_atMay_0 l k w i c s f g = (mayP l k w c s f g).1 ∧ g_Vi_atMay_1 l k w i c s f g = (mayP l k w c s f g).2.1 ∧ g_Vi_atMay_2 l k w i c s f g = (mayP l k w c s f g).2.2 := by
 obtain ⟨m1,m2⟩ := named_f 99 c hc
 obtain ⟨a1,a2,a3⟩ := iget l (nm 99 c) (plc_store h)
 obtain ⟨t1,t2,t3,t4⟩ := i_trade_f l k w i c s f g h hc hf
 obtain ⟨n1,n2,n3,n4⟩ := i_next_f l k w i c s f g h hf hg
 obtain ⟨o1,o2,o3⟩ := i_out_f l k w i c s f g h hw
 unfold g_Ai_atMay g_Vi_atMay_0 g_Vi_atMay_1 g_Vi_atMay_2 mayP letP
 rw [m1,m2,a1,a2,(secsum_eq s).1,(secsum_eq s).2,t1,t2,t3,t4,n1,n2,n3,n4,o1,o2,o3]
 simp only [← Option.not_isSome]
 rcases hk with rfl | rfl | rfl | rfl <;> cases (getP l (nm 99 c)).isSome <;> exact ⟨rfl,rfl,rfl,rfl⟩
theorem i_isTx_f (tx:Int):g_Ai_isTx tx = true ∧ g_Vi_isTx_0 tx = decide (0 ≤ tx ∧ tx ≤ 29) := i_in_f tx 0 29
theorem i_PlcPlan_f (place:Int) (l:List Item) (tx k w i c s f g:Int) (hl:l.length ≤ 1048576) (hit:∀ x ∈ l,x.2.length ≤ 1048576) :
  g_Ai_PlcPlan place l tx k w i c s f g = true ∧ g_Vi_PlcPlan_0 place l tx k w i c s f g = (planP place l tx k w i c s f g).1 ∧ g_Vi_PlcPlan_1 place l tx k w i c s f g = (planP place l tx k w i c s f g).2.1 ∧ g_Vi_PlcPlan_2 place l tx k w i c s f g = (planP place l tx k w i c s f g).2.2 := by
 obtain ⟨a1,a2⟩ := i_PlcOk_f place l hl hit
 obtain ⟨c1,c2⟩ := i_OpPlaces_f k w i c s f g
 obtain ⟨d1,d2⟩ := containsJ_f (placesP k w i c s f g) place (by have := placesP_len k w i c s f g; omega)
 unfold g_Ai_PlcPlan g_Vi_PlcPlan_0 g_Vi_PlcPlan_1 g_Vi_PlcPlan_2 planP
 rw [a1,a2,c1,c2,d1,d2,(i_isTx_f _).1,(i_isTx_f _).2]
 cases hp:plcP place l
 ·exact ⟨rfl,rfl,rfl,rfl⟩
 ·by_cases ht:0 ≤ tx ∧ tx ≤ 29
  ·rw [decide_eq_true ht]
   cases ho:opP k w i c s f g
   ·have e:(placesP k w i c s f g).contains place = false := by unfold placesP; rw [ho]; rfl
    rw [e]
    exact ⟨rfl,rfl,rfl,rfl⟩
   ·have hop := ho
    simp only [opP,Bool.and_eq_true,decide_eq_true_eq] at hop
    obtain ⟨hw,hi,hc,hf,hs,hg,hk⟩ := hop
    cases hm:(placesP k w i c s f g).contains place
    ·exact ⟨rfl,rfl,rfl,rfl⟩
    ·unfold planL
     by_cases h1:place = 1
     ·subst h1
      obtain ⟨t1,t2,t3,t4⟩ := i_atIn_f l k w i c s f g hp hi
      rw [t1,t2,t3,t4]
      exact ⟨rfl,rfl,rfl,rfl⟩
     ·have e1:(place == 1) = false := by simpa using h1
      rw [e1]
      by_cases h2:place = 2
      ·subst h2
       have hk4:k = 2 ∨ k = 3 ∨ k = 4 ∨ k = 5 := by
        unfold opK at hk
        by_cases k1:k = 1
        ·subst k1
         unfold placesP at hm
         rw [ho] at hm
         cases hm
        ·simp only [k1,decide_false,Bool.false_or,Bool.cond_eq_ite,decide_eq_true_eq] at hk
         split at hk
         ·omega
         ·split at hk
          ·omega
          ·split at hk
           ·omega
           ·simp only [Bool.and_eq_true,decide_eq_true_eq] at hk; omega
       obtain ⟨t1,t2,t3,t4⟩ := i_atMay_f l k w i c s f g hp hk4 hw hc hf hg.1
       rw [t1,t2,t3,t4]
       exact ⟨rfl,rfl,rfl,rfl⟩
      ·have e2:(place == 2) = false := by simpa using h2
       obtain ⟨n1,n2⟩ := namedA_f tx ht
       obtain ⟨b1,b2,_⟩ := iget l (nmA tx) (plc_store hp)
       rw [e2,n1,n2,b1,b2]
       unfold doneP
       simp only [← Option.not_isSome]
       cases (getP l (nmA tx)).isSome <;> exact ⟨rfl,rfl,rfl,rfl⟩
  ·rw [decide_eq_false ht]
   cases opP k w i c s f g <;> exact ⟨rfl,rfl,rfl,rfl⟩
theorem i_GloOk_f (l:List (List (ByteArray×List Int))) (hl:l.length ≤ 1048576) (hit:∀ x ∈ l,x.length ≤ 1048576 ∧ ∀ y ∈ x,y.2.length ≤ 1048576):g_Ai_GloOk l = true ∧ g_Vi_GloOk_0 l = gloP l := by
 have h:g_Li_GloOk_0 l l (l.length:Int) 0 = some (bif (List.range l.length).all (fun i => plcP ((i + 1:Nat):Int) (at_ TB_ l i)) then .inr () else .inl false) := by
  refine loop_all (ρ := Bool ⊕ Unit) (step := g_Si_GloOk_0 l l (l.length:Int)) (fun i:Nat => (i:Int)) (fun i => plcP ((i + 1:Nat):Int) (at_ TB_ l i)) (Sum.inl false) (Sum.inr ()) l.length (fun i hi => ?_) ?_
  ·have k1:(i:Int) < l.length := by omega
   have k2:(0:Int) ≤ (i:Int) := by omega
   have hw:IntKind.wrap .i64 ((i:Int) + 1) = ((i + 1:Nat):Int) := by rw [wrap64 (by omega)]; omega
   have hh := hit _ (at_mem (e := TB_) hi)
   obtain ⟨q1,q2⟩ := i_PlcOk_f ((i + 1:Nat):Int) _ hh.1 hh.2
   simp only [g_Si_GloOk_0,RT.sel,cond_true,k1,k2,hw,decide_true,and_self,Int.toNat_natCast,q1,q2]
   generalize plcP _ _ = p
   cases p <;> rfl
  ·simp [g_Si_GloOk_0,RT.sel]
 have e3:((l.length:Int) == 3) = decide (l.length = 3) := by rw [Bool.eq_iff_iff]; simp; omega
 constructor
 ·simp [g_Ai_GloOk,h,okO]
 ·simp only [g_Vi_GloOk_0,h,valO,Option.getD_some,e3,gloP]
  generalize (List.range l.length).all _ = p
  generalize decide (l.length = 3) = q
  cases p <;> cases q <;> rfl
theorem at_setB (l:Stos) (i j:Nat) (x:List Item) (h:i ≠ j):at_ TB_ (l.set i x) j = at_ TB_ l j := by
 simp only [at_,List.getD_eq_getElem?_getD,List.getElem?_set]
 rw [if_neg h]
theorem places_nodup (k w i c s f g:Int):(placesP k w i c s f g).Nodup ∧ ∀ p ∈ placesP k w i c s f g,1 ≤ p ∧ p ≤ 3 := by
 unfold placesP
 cases opP k w i c s f g <;> cases (k == 1) <;> cases (k == 2) <;> cases (k == 5) <;> simp
theorem i_gdo {l:Stos} (h:gloP l = true) {tx k w i c s f g:Int} (ht:0 ≤ tx ∧ tx ≤ 29) (ho:opP k w i c s f g = true) :
  g_Ai_GloDo l tx k w i c s f g = true ∧ g_Vi_GloDo_0 l tx k w i c s f g = (gloDoP l tx k w i c s f g).getD l ∧ g_Vi_GloDo_1 l tx k w i c s f g = (gloDoP l tx k w i c s f g).isSome := by
 have h3 := (gloP_at h (p := 1) (by omega)).1
 have big:∀ x ∈ l,x.length ≤ 1048576 ∧ ∀ y ∈ x,y.2.length ≤ 1048576 := fun x hx => (gloP_small h).2 x hx
 obtain ⟨a1,a2⟩ := i_GloOk_f l (by omega) big
 obtain ⟨b1,b2⟩ := i_OpOk_f k w i c s f g
 obtain ⟨c1,c2⟩ := i_isTx_f tx
 obtain ⟨d1,d2⟩ := i_OpPlaces_f k w i c s f g
 obtain ⟨hnd,hpl⟩ := places_nodup k w i c s f g
 have hplan:∀ p ∈ placesP k w i c s f g,g_Ai_PlcPlan p (at_ TB_ l (p - 1).toNat) tx k w i c s f g = true ∧ g_Vi_PlcPlan_0 p (at_ TB_ l (p - 1).toNat) tx k w i c s f g = (planL p (at_ TB_ l (p - 1).toNat) tx k w i c s f g).1 ∧ g_Vi_PlcPlan_2 p (at_ TB_ l (p - 1).toNat) tx k w i c s f g = (planL p (at_ TB_ l (p - 1).toNat) tx k w i c s f g).2.2 := by
  intro p hp
  have hq := hpl p hp
  have hb := big _ (at_mem (e := TB_) (l := l) (i := (p - 1).toNat) (by omega))
  obtain ⟨e1,e2,e3,e4⟩ := i_PlcPlan_f p (at_ TB_ l (p - 1).toNat) tx k w i c s f g hb.1 hb.2
  have ep:planP p (at_ TB_ l (p - 1).toNat) tx k w i c s f g = planL p (at_ TB_ l (p - 1).toNat) tx k w i c s f g := by
   unfold planP
   rw [(gloP_at h hq).2,ho,decide_eq_true ht,List.contains_iff_mem.2 hp]
   rfl
  rw [ep] at e2 e4
  exact ⟨e1,e2,e4⟩
 have L0:g_Li_GloDo_0 l tx l (l.length:Int) k w i c s f g ([],[],0) = some (l.map id,l.map id) := by
  have := loop_app (e := TB_) (step := g_Si_GloDo_0 l tx l (l.length:Int) k w i c s f g) l (fun i r => (r,r,i)) id (fun r => (r,r)) (fun i r hi hr => by
   have k1:(i:Int) < l.length := by omega
   have k2:(0:Int) ≤ (i:Int) := by omega
   have hx := big _ (at_mem (e := TB_) hi)
   obtain ⟨q1,q2⟩ := i_scopied_f (at_ TB_ l i) hx.1 hx.2
   simp only [g_Si_GloDo_0,RT.sel,cond_true,k1,k2,decide_true,and_self,Int.toNat_natCast,q1,q2]
   rw [capF_f r.length _ 24 (by show _ + 1 ≤ _; omega) (by decide),cond_true,wrap64 (x := (i:Int) + 1) (by omega)]
   rfl) (fun r hr => by simp only [g_Si_GloDo_0,RT.sel,cond_true,Int.lt_irrefl,decide_false,cond_false])
  exact this
 rw [List.map_id] at L0
 unfold g_Ai_GloDo g_Vi_GloDo_0 g_Vi_GloDo_1
 rw [a1,a2,b1,b2,c1,c2,d1,d2,h,ho,decide_eq_true ht,L0]
 unfold gloDoP
 generalize hps:placesP k w i c s f g = ps at hnd hpl hplan
 have hlen:ps.length ≤ 3 := by rw [← hps]; exact placesP_len k w i c s f g
 have L:∃ r,g_Li_GloDo_2 l tx l ps (ps.length:Int) k w i c s f g (l,0) = some r ∧ (match r with
   | .inl q => q.1 = false ∧ doP l tx k w i c s f g ps l = none
   | .inr q => doP l tx k w i c s f g ps l = some q) := by
  refine loop_inv (step := g_Si_GloDo_2 l tx l ps (ps.length:Int) k w i c s f g) (fun x => 0 ≤ x.2 ∧ x.2.toNat ≤ ps.length ∧ x.1.length = 3 ∧ (∀ q ∈ ps.drop x.2.toNat,at_ TB_ x.1 (q - 1).toNat = at_ TB_ l (q - 1).toNat) ∧ doP l tx k w i c s f g (ps.drop x.2.toNat) x.1 = doP l tx k w i c s f g ps l) _ (fun x => ps.length - x.2.toNat) ?_ _ ⟨by simp,by simp,h3,fun _ _ => rfl,by simp⟩
  rintro ⟨out,j⟩ ⟨i1,i2,i3,i5,i4⟩
  simp only at i1 i2 i3 i4 i5
  by_cases hj:j < (ps.length:Int)
  ·have hn:j.toNat < ps.length := by omega
   have hnd':(ps.drop j.toNat).Nodup := hnd.sublist (List.drop_sublist _ _)
   rw [List.drop_eq_getElem_cons hn] at i4 i5 hnd'
   have hmem := List.getElem_mem hn
   have hp := hpl _ hmem
   have hat:at_ (.int .i64) ps j.toNat = ps[j.toNat] := at_eq (e := .int .i64) hn
   obtain ⟨p1,p2,p4⟩ := hplan _ hmem
   generalize ps[j.toNat] = p at hp i4 i5 hat hnd' p1 p2 p4
   have hq := (gloP_at h hp).2
   have e1:(j + 1).toNat = j.toNat + 1 := by omega
   have hps := plan_small p (at_ TB_ l (p - 1).toNat) tx k w i c s f g hq
   have hto := big _ (at_mem (e := TB_) (l := l) (i := (p - 1).toNat) (by omega))
   obtain ⟨d1,d2⟩ := i_StoDo_f (at_ TB_ l (p - 1).toNat) (planL p (at_ TB_ l (p - 1).toNat) tx k w i c s f g).2.2 hto.1 hto.2 (by omega) (fun x hx => by have := hps.2 x hx; omega)
   have u1:decide ((0:Int) ≤ j ∧ j < (ps.length:Int)) = true := decide_eq_true ⟨i1,hj⟩
   have u2:decide (Int.toNat j < List.length ps) = true := decide_eq_true hn
   have hw:IntKind.wrap .i64 (p - 1) = p - 1 := wrap64 (by omega)
   have u3:decide ((0:Int) ≤ p - 1 ∧ p - 1 < (l.length:Int)) = true := decide_eq_true (by omega)
   have u4:decide ((0:Int) ≤ p - 1 ∧ p - 1 < (out.length:Int)) = true := decide_eq_true (by omega)
   have u5:decide (Int.toNat (p - 1) < out.length) = true := decide_eq_true (by omega)
   have sel:(g_Si_GloDo_2 l tx l ps (ps.length:Int) k w i c s f g (out,j)).sel = bif (planL p (at_ TB_ l (p - 1).toNat) tx k w i c s f g).1 then .go (out.set (p - 1).toNat (doS (at_ TB_ l (p - 1).toNat) (planL p (at_ TB_ l (p - 1).toNat) tx k w i c s f g).2.2),j + 1) else .out (.inl (false,out)) := by
    simp only [g_Si_GloDo_2,RT.sel,decide_eq_true hj,u1,u2,u3,u4,u5,cond_true,hat,hw,p1,p2,p4,d1,d2,wrap64 (x := j + 1) (by omega)]
    generalize (planL p (at_ TB_ l (p - 1).toNat) tx k w i c s f g).1 = b
    cases b <;> rfl
   have i6 := i5 p List.mem_cons_self
   simp only [doP,i6] at i4
   cases hb:(planL p (at_ TB_ l (p - 1).toNat) tx k w i c s f g).1
   ·rw [hb] at sel i4
    exact .inr ⟨_,sel,rfl,i4.symm⟩
   ·rw [hb,cond_true] at sel i4
    refine .inl ⟨_,sel,⟨by simp only; omega,by simp only; omega,by simp only [List.length_set]; exact i3,fun q hq => ?_,?_⟩,by simp only; omega⟩
    ·simp only [e1] at hq
     have hne:q ≠ p := fun e => (List.nodup_cons.1 hnd').1 (e ▸ hq)
     have hqb := hpl q (List.mem_of_mem_drop hq)
     rw [at_setB _ _ _ _ (by omega)]
     exact i5 q (List.mem_cons_of_mem _ hq)
    ·simp only [e1]
     exact i4
  ·refine .inr ⟨.inr out,?_,?_⟩
   ·simp only [g_Si_GloDo_2,RT.sel,hj,decide_false,cond_true,cond_false]
   ·rw [List.drop_of_length_le (by omega)] at i4
    simp only [doP] at i4
    exact i4.symm
 obtain ⟨r,e1,e2⟩ := L
 simp only [okO,valO,Option.isSome_some,Option.getD_some]
 rw [e1]
 cases r with
 | inl q =>
  obtain ⟨e2,e3⟩ := e2
  rw [e3]
  simp only [isL,getL,Option.isSome_some,Option.getD_some,Option.getD_none,Option.isSome_none,cond_true,cond_false,e2,Bool.not_true,Bool.and_self,Bool.false_or,and_self]
 | inr q =>
  rw [e2]
  simp only [isL,getR,Option.isSome_some,Option.getD_some,cond_false,cond_true,Bool.not_true,Bool.and_self,Bool.false_or,and_self]
theorem i_gdO {n:Nat} {s:S3} (h:InvS n s) (hn:n ≤ 29) {o:OpT} (ho:opO o = true) :
  g_Ai_GloDo s.l n o.1 o.2.1 o.2.2.1 o.2.2.2.1 o.2.2.2.2.1 o.2.2.2.2.2.1 o.2.2.2.2.2.2 = true ∧ g_Vi_GloDo_1 s.l n o.1 o.2.1 o.2.2.1 o.2.2.2.1 o.2.2.2.2.1 o.2.2.2.2.2.1 o.2.2.2.2.2.2 = mayO s o ∧
   g_Vi_GloDo_0 s.l n o.1 o.2.1 o.2.2.1 o.2.2.2.1 o.2.2.2.2.1 o.2.2.2.2.2.1 o.2.2.2.2.2.2 = (stepO n s o).l := by
 obtain ⟨h1,h2,h3⟩ := i_gdo (l := s.l) (tx := (n:Int)) (Inv.glo h) (by omega) ho
 have g := (gdO h hn ho).1
 rw [g] at h2 h3
 refine ⟨h1,?_,?_⟩
 ·rw [h3]
  cases mayO s o <;> rfl
 ·rw [h2]
  unfold stepO
  cases mayO s o <;> rfl
abbrev o1_ (w i:Int):OpT := (1,w,i,0,0,0,0)
abbrev o2_ (w i c x:Int):OpT := (2,w,i,c,x,0,0)
abbrev o3_ (c x f:Int):OpT := (3,0,0,c,x,f,0)
abbrev o4_ (f g:Int):OpT := (4,0,0,0,0,f,g)
abbrev o5_ (w i:Int):OpT := (5,w,i,0,0,0,0)
theorem opO1 {w i:Int} (hw:0 ≤ w ∧ w ≤ 9) (hi:0 ≤ i ∧ i ≤ 9):opO (o1_ w i) = true ∧ opO (o5_ w i) = true := by
 constructor <;> (show opP _ w i 0 0 0 0 = true; unfold opP; rw [decide_eq_true hw,decide_eq_true hi]; rfl)
theorem opO2 {w i c x:Int} (hw:0 ≤ w ∧ w ≤ 9) (hi:0 ≤ i ∧ i ≤ 9) (hc:0 ≤ c ∧ c ≤ 9) (hx:0 ≤ x ∧ x ≤ 99):opO (o2_ w i c x) = true := by
 show opP 2 w i c x 0 0 = true
 unfold opP
 rw [decide_eq_true hw,decide_eq_true hi,decide_eq_true hc,decide_eq_true hx]
 rfl
theorem opO3 {c x f:Int} (hc:0 ≤ c ∧ c ≤ 9) (hx:0 ≤ x ∧ x ≤ 99) (hf:0 ≤ f ∧ f ≤ 9):opO (o3_ c x f) = true := by
 show opP 3 0 0 c x f 0 = true
 unfold opP
 rw [decide_eq_true hc,decide_eq_true hx,decide_eq_true hf]
 rfl
theorem opO4 {f g:Int} (hf:0 ≤ f ∧ f ≤ 9) (hg:0 ≤ g ∧ g ≤ 99):opO (o4_ f g) = true := by
 show opP 4 0 0 0 0 f g = true
 unfold opP
 rw [decide_eq_true hf,decide_eq_true hg]
 rfl
structure Tri (s:S3) (i c f:Int) (A C F:Option (List Int)):Prop where
 a:getP s.a (nm 115 i) = A
 c:getP s.m (nm 99 c) = C
 f:getP s.m (nm 102 f) = F
section
variable {n:Nat} {s:S3} {i c f:Int} {A C F:Option (List Int)}
end
structure Pre (ops:List OpT) (w i c x f:Int) (keys:Nat):Prop where
 ok:OpsOk ops
 len:3 + keys ≤ ops.length
 k0:at_ OT_ ops 0 = o1_ w i
 k1:at_ OT_ ops 1 = o2_ w i c x
 k2:at_ OT_ ops 2 = o3_ c x f
 k3:∀ k:Nat,k < keys → at_ OT_ ops (3 + k) = o4_ f ((k:Int) + 1)
theorem wrapS {x:Int} (h:0 ≤ x ∧ x ≤ 100000):IntKind.wrap .i64 (x + 1) = x + 1 := wrap64 (by omega)
theorem pickA_f (r0:List Int) (r1 n:Int) (h:0 ≤ r1 ∧ r1 ≤ 100000) (hn:1 ≤ n) (hl:r0.length ≤ 1048576):g_pickA r0 r1 n = true := by
 have e1:IntKind.wrap .i64 (IntKind.wrap .i64 (r1 + 1) - 1) = r1 := by rw [wrapS h,wrap64 (by omega)]; omega
 have e2:IntKind.wrap .i64 (IntKind.wrap .i64 (r1 * 7) + 3) = r1 * 7 + 3 := by rw [wrap64 (x := r1 * 7) (by omega),wrap64 (by omega)]
 have e3:(n == 0) = false := by simpa using (by omega:n ≠ 0)
 unfold g_pickA
 simp only [g_As_l20Rd_pick0,e1,e2,e3]
 by_cases hz:r0.length = 0
 ·simp [hz]
 ·have hp:(0:Int) < (r0.length:Int) := by omega
  have t1:0 ≤ Int.tmod r1 r0.length := Int.tmod_nonneg _ h.1
  have t2:Int.tmod r1 r0.length < r0.length := Int.tmod_lt_of_pos _ hp
  have t3:0 ≤ Int.tmod (r1 * 7 + 3) r0.length := Int.tmod_nonneg _ (by omega)
  have t4:Int.tmod (r1 * 7 + 3) r0.length < r0.length := Int.tmod_lt_of_pos _ hp
  have z:((r0.length:Int) == 0) = false := by simpa using hz
  by_cases hlt:r1 < (r0.length:Int)
  ·simp [hlt,h.1]
  ·simp only [decide_eq_false hlt,cond_false,z,Bool.not_false,Bool.true_and,t1,t2,t3,t4,and_self,decide_true,Bool.or_true]
theorem oddA_f (r0:List Int) (r1 n:Int) (h:0 ≤ r1 ∧ r1 ≤ 100000) (hl:r0.length ≤ 1048576):g_As_l20Rd_odd r0 r1 n = true := by
 unfold g_As_l20Rd_odd
 by_cases hn:n > 0
 ·rw [pickA_f r0 r1 n h (by omega) hl]; simp
 ·simp [hn]
theorem open_f (a:List Int):g_As_l20Open a = true ∧ (g_Vs_l20Open_0 a).length ≤ 2000 ∧ g_Vs_l20Open_1 a = 0 := by
 refine ⟨?_,?_,?_⟩
 ·unfold g_As_l20Open
  by_cases h:(a.length:Int) > 2000
  ·have:(2000:Int) ≤ a.length := by omega
   simp [h,this]
  ·simp [h]
   cases decide ((2000:Int) ≤ a.length) <;> rfl
 ·unfold g_Vs_l20Open_0
  by_cases h:(a.length:Int) > 2000
  ·rw [decide_eq_true h,cond_true]; exact Nat.le_trans (by rw [List.length_drop]; exact Nat.sub_le _ _) (List.length_take_le 2000 a)
  ·rw [decide_eq_false h,cond_false]; omega
 ·unfold g_Vs_l20Open_1
  generalize decide ((a.length:Int) > 2000) = p
  cases p <;> rfl
def RdOk (r0:List Int):Prop := r0.length ≤ 1048576 ∧ ∀ n ∈ r0,0 ≤ n ∧ n < 256
theorem at_u8 {r0:List Int} (h:RdOk r0) (i:Nat):∃ x:Int,at_ (.int .u8) r0 i = x ∧ 0 ≤ x ∧ x < 256 := by
 by_cases hi:i < r0.length
 ·exact ⟨_,rfl,h.2 _ (at_mem (e := .int .u8) hi)⟩
 ·refine ⟨0,by simp [at_,List.getElem?_eq_none (by omega:r0.length ≤ i),Ty.zero],by omega,by omega⟩
theorem xor_small {x y:Int} (hx:0 ≤ x ∧ x < 16777216) (hy:0 ≤ y ∧ y < 16777216):((BitVec.toNat (BitVec.ofInt 64 x ^^^ BitVec.ofInt 64 y):Nat):Int) < 16777216 := by
 have key:∀ z:Int,0 ≤ z ∧ z < 16777216 → (BitVec.ofInt 64 z).toNat < 2 ^ 24 := by
  intro z hz
  rw [BitVec.toNat_ofInt]
  have:z % ((2 ^ 64:Nat):Int) = z := Int.emod_eq_of_lt hz.1 (by omega)
  rw [this]
  omega
 have := Nat.xor_lt_two_pow (key x hx) (key y hy)
 rw [BitVec.toNat_xor]
 omega
theorem pick_f (r0:List Int) (r1 n:Int) (h:0 ≤ r1 ∧ r1 ≤ 100000) (hn:1 ≤ n) (hr:RdOk r0):0 ≤ g_pick r0 r1 n ∧ g_pick r0 r1 n < n := by
 have e1:IntKind.wrap .i64 (IntKind.wrap .i64 (r1 + 1) - 1) = r1 := by rw [wrapS h,wrap64 (by omega)]; omega
 have e2:IntKind.wrap .i64 (IntKind.wrap .i64 (r1 * 7) + 3) = r1 * 7 + 3 := by rw [wrap64 (x := r1 * 7) (by omega),wrap64 (by omega)]
 have tm:∀ x:Int,0 ≤ x → 0 ≤ Int.tmod x n ∧ Int.tmod x n < n := fun x hx => ⟨Int.tmod_nonneg _ hx,Int.tmod_lt_of_pos _ (by omega)⟩
 unfold g_pick
 simp only [g_Vs_l20Rd_pick0_0,e1,e2]
 rw [decide_eq_false (by omega:¬ n < 1),cond_false]
 by_cases hz:r0.length = 0
 ·rw [show ((r0.length:Int) == 0) = true by simp [hz],cond_true]; omega
 ·have hp:(0:Int) < (r0.length:Int) := by omega
  rw [show ((r0.length:Int) == 0) = false by simpa using hz,cond_false]
  by_cases hlt:r1 < (r0.length:Int)
  ·rw [decide_eq_true hlt,cond_true]
   obtain ⟨x,e,b⟩ := at_u8 hr r1.toNat
   rw [e,wrap64 (by omega)]
   exact tm _ b.1
  ·rw [decide_eq_false hlt,cond_false]
   obtain ⟨x1,y1,b1⟩ := at_u8 hr (Int.tmod r1 r0.length).toNat
   obtain ⟨x2,y2,b2⟩ := at_u8 hr (Int.tmod (r1 * 7 + 3) r0.length).toNat
   have d0:0 ≤ Int.tdiv r1 r0.length := Int.tdiv_nonneg h.1 (by omega)
   have d1:Int.tdiv r1 r0.length ≤ r1 := by
    rw [Int.tdiv_eq_ediv_of_nonneg h.1]
    exact Int.ediv_le_self _ h.1
   rw [y1,y2]
   generalize Int.tdiv r1 r0.length = q at d0 d1 ⊢
   rw [wrap64 (x := x1) (by omega),wrap64 (x := x2) (by omega),wrap64 (x := x1 * 131) (by omega),wrap64 (x := x2 * 1117) (by omega),wrap64 (x := r1 * 29) (by omega),wrap64 (x := q) (by omega),wrap64 (x := q * 53) (by omega),wrap64 (x := x1 * 131 + x2 * 1117) (by omega),wrap64 (x := x1 * 131 + x2 * 1117 + r1 * 29) (by omega),wrap64 (x := x1 * 131 + x2 * 1117 + r1 * 29 + q * 53) (by omega)]
   generalize hX:x1 * 131 + x2 * 1117 + r1 * 29 + q * 53 = X
   have hX0:0 ≤ X ∧ X < 16777216 := by omega
   have hD:0 ≤ Int.tdiv X 64 ∧ Int.tdiv X 64 < 16777216 := by
    rw [Int.tdiv_eq_ediv_of_nonneg hX0.1]
    omega
   rw [wrap64 (x := Int.tdiv X 64) (by omega)]
   have hx := xor_small hX0 hD
   have hx:(((BitVec.ofInt (nat_lit 64) X ^^^ BitVec.ofInt (nat_lit 64) (Int.tdiv X 64)).toNat:Nat):Int) < 16777216 := hx
   generalize (BitVec.ofInt (nat_lit 64) X ^^^ BitVec.ofInt (nat_lit 64) (Int.tdiv X 64)).toNat = Y at hx ⊢
   rw [wrap64 (by omega)]
   exact tm _ (by omega)
theorem open_ok (a:List Int) (h:∀ n ∈ a,(Lit.int .u8 n).wf = true):RdOk (g_Vs_l20Open_0 a) := by
 have hb:∀ n ∈ a,0 ≤ n ∧ n < 256 := by
  intro n hn
  have := h n hn
  simp [Lit.wf,IntKind.min,IntKind.max,IntKind.bits,IntKind.signed] at this
  omega
 refine ⟨by have := (open_f a).2.1; omega,fun n hn => hb n ?_⟩
 unfold g_Vs_l20Open_0 at hn
 generalize decide ((a.length:Int) > 2000) = p at hn
 cases p
 ·exact hn
 ·exact List.mem_of_mem_take (List.mem_of_mem_drop hn)
theorem pickD_f (r0:List Int) (r1 n m:Int) (h:0 ≤ r1 ∧ r1 ≤ 100000) (hn:1 ≤ n ∧ n ≤ m) (hr:RdOk r0):decide (0 ≤ g_pick r0 r1 n ∧ g_pick r0 r1 n < m) = true := by
 have := pick_f r0 r1 n h hn.1 hr
 exact decide_eq_true ⟨this.1,by omega⟩
theorem pickN_f (r0:List Int) (r1 n:Int) (m:Nat) (h:0 ≤ r1 ∧ r1 ≤ 100000) (hn:1 ≤ n ∧ n ≤ m) (hr:RdOk r0):decide ((g_pick r0 r1 n).toNat < m) = true := by
 have := pick_f r0 r1 n h hn.1 hr
 exact decide_eq_true (by omega)
theorem pickA_f' (r0:List Int) (r1 n:Int) (h:0 ≤ r1 ∧ r1 ≤ 100000) (hn:1 ≤ n) (hr:RdOk r0):g_pickA r0 r1 n = true := pickA_f r0 r1 n h hn hr.1
theorem oddA_f' (r0:List Int) (r1 n:Int) (h:0 ≤ r1 ∧ r1 ≤ 100000) (hr:RdOk r0):g_As_l20Rd_odd r0 r1 n = true := oddA_f r0 r1 n h hr.1
def oddD (n:Int):Int := if n > 0 then 1 else 0
theorem oddP_f (r0:List Int) (r1 n:Int) (h:0 ≤ r1 ∧ r1 ≤ 99999):g_Vs_l20Rd_odd_2 r0 r1 n = r1 + oddD n % 2 := by
 unfold g_Vs_l20Rd_odd_2 oddD
 by_cases hn:n > 0
 ·simp only [hn,decide_true,cond_true,if_true]; rw [wrapL (by omega)]; omega
 ·simp only [hn,decide_false,cond_false,if_false]; omega
noncomputable def opD (r0:List Int) (r1 n:Int):Int := g_Vs_l20Op_8 r0 r1 n - r1
theorem opA_f (r0:List Int) (r1 n:Int) (h:0 ≤ r1 ∧ r1 ≤ 99900) (hr:RdOk r0):g_As_l20Op r0 r1 n = true := by
 unfold g_As_l20Op
 have o := oddP_f r0
 have d := fun n => (show 0 ≤ oddD n % 2 ∧ oddD n % 2 < 2 by omega)
 simp (disch := first | omega | assumption) only [wrapL,pickA_f',oddA_f',oddP_f,pickD_f,pickN_f,List.length_cons,List.length_nil,Bool.true_and,Bool.cond_self,Bool.or_true]
theorem opP_f (r0:List Int) (r1 n:Int) (h:0 ≤ r1 ∧ r1 ≤ 99900) (hr:RdOk r0):g_Vs_l20Op_8 r0 r1 n = r1 + opD r0 r1 n % 16 := by
 unfold opD g_Vs_l20Op_8
 simp (disch := first | omega | assumption) only [wrapL,oddP_f]
 simp only [Bool.cond_eq_ite]
 repeat' split
 all_goals omega
theorem odd0 (r0:List Int) (r1:Int):g_Vs_l20Rd_odd_0 r0 r1 0 = false := rfl
theorem op0_f (r0:List Int) (p:Int) (h:0 ≤ p ∧ p ≤ 99000) (hr:RdOk r0):opO (g_Vs_l20Op_0 r0 p 0,g_Vs_l20Op_1 r0 p 0,g_Vs_l20Op_2 r0 p 0,g_Vs_l20Op_3 r0 p 0,g_Vs_l20Op_4 r0 p 0,g_Vs_l20Op_5 r0 p 0,g_Vs_l20Op_6 r0 p 0) = true := by
 have hq := pick_f r0 p 5 (by omega) (by omega) hr
 have w1:u1 p = p + 1 := wrapL (by omega)
 have w2:u1 (p + 1) = p + 1 + 1 := wrapL (by omega)
 have w3:u1 (p + 1 + 1) = p + 1 + 1 + 1 := wrapL (by omega)
 have w4:u1 (p + 1 + 1 + 1) = p + 1 + 1 + 1 + 1 := wrapL (by omega)
 have b2 := pick_f r0 (p + 1) 2 (by omega) (by omega) hr
 have b3 := pick_f r0 (p + 1) 3 (by omega) (by omega) hr
 have b4 := pick_f r0 (p + 1 + 1) 3 (by omega) (by omega) hr
 have b5 := pick_f r0 (p + 1 + 1 + 1) 3 (by omega) (by omega) hr
 have b6 := pick_f r0 (p + 1 + 1 + 1 + 1) 3 (by omega) (by omega) hr
 unfold g_Vs_l20Op_0 g_Vs_l20Op_1 g_Vs_l20Op_2 g_Vs_l20Op_3 g_Vs_l20Op_4 g_Vs_l20Op_5 g_Vs_l20Op_6
 simp only [odd0,cond_false,w1,w2,w3,w4]
 generalize g_pick r0 p 5 = q at hq
 have hq':q = 0 ∨ q = 1 ∨ q = 2 ∨ q = 3 ∨ q = 4 := by omega
 rcases hq' with rfl | rfl | rfl | rfl | rfl
 ·exact (opO1 (w := g_pick r0 (p + 1) 2) (i := g_pick r0 (p + 1 + 1) 3) (by omega) (by omega)).1
 ·exact opO2 (w := g_pick r0 (p + 1) 2) (i := g_pick r0 (p + 1 + 1) 3) (c := g_pick r0 (p + 1 + 1 + 1) 3) (x := g_pick r0 (p + 1 + 1 + 1 + 1) 3) (by omega) (by omega) (by omega) (by omega)
 ·exact opO3 (c := g_pick r0 (p + 1) 3) (x := g_pick r0 (p + 1 + 1) 3) (f := g_pick r0 (p + 1 + 1 + 1) 3) (by omega) (by omega) (by omega)
 ·have e:IntKind.wrap .i64 (1 + g_pick r0 (p + 1 + 1) 3) = 1 + g_pick r0 (p + 1 + 1) 3 := wrap64 (by omega)
  rw [e]
  exact opO4 (f := g_pick r0 (p + 1) 3) (g := 1 + g_pick r0 (p + 1 + 1) 3) (by omega) (by omega)
 ·exact (opO1 (w := g_pick r0 (p + 1) 2) (i := g_pick r0 (p + 1 + 1) 3) (by omega) (by omega)).2
theorem drawGloPlay_f (a:List Int) (h:∀ n ∈ a,(Lit.int .u8 n).wf = true):g_As_DrawGloPlay a = true ∧ (g_Vs_DrawGloPlay_0 a).length ≤ 25 ∧ ∀ o ∈ g_Vs_DrawGloPlay_0 a,opO o = true := by
 obtain ⟨h1,h2,h3⟩ := open_f a
 have hr := open_ok a h
 unfold g_As_DrawGloPlay g_Vs_DrawGloPlay_0
 rw [h1,h3]
 generalize g_Vs_l20Open_0 a = r0 at hr
 clear h1 h2 h3
 have hp := pick_f r0 0 26 (by omega) (by omega) hr
 have hw:IntKind.wrap .i64 (0 + 1) = 1 := rfl
 rw [pickA_f' r0 0 26 (by omega) (by omega) hr,hw]
 have L:∃ r,g_Ls_DrawGloPlay_0 r0 ([],g_pick r0 0 26,1) = some r ∧ (r.1.length ≤ 25 ∧ ∀ o ∈ r.1,opO o = true) := by
  refine loop_inv (step := g_Ss_DrawGloPlay_0 r0) (fun x => 0 ≤ x.2.1 ∧ (x.1.length:Int) + x.2.1 ≤ 25 ∧ 0 ≤ x.2.2 ∧ x.2.2 ≤ 1 + 16 * (25 - x.2.1) ∧ ∀ o ∈ x.1,opO o = true) _ (fun x => x.2.1.toNat) ?_ _ ⟨by simp only; omega,by simp only [List.length_nil]; omega,by simp,by simp only; omega,by simp⟩
  rintro ⟨l,k,p⟩ ⟨i1,i2,i3,i4,i5⟩
  simp only at i1 i2 i3 i4 i5
  by_cases hk:k > 0
  ·have o1 := opA_f r0 p 0 (by omega) hr
   have o2 := opP_f r0 p 0 (by omega) hr
   have o3 := op0_f r0 p (by omega) hr
   have hw:IntKind.wrap .i64 (k - 1) = k - 1 := wrap64 (by omega)
   refine .inl ⟨(l ++ [(g_Vs_l20Op_0 r0 p 0,g_Vs_l20Op_1 r0 p 0,g_Vs_l20Op_2 r0 p 0,g_Vs_l20Op_3 r0 p 0,g_Vs_l20Op_4 r0 p 0,g_Vs_l20Op_5 r0 p 0,g_Vs_l20Op_6 r0 p 0)],k - 1,p + opD r0 p 0 % 16),?_,⟨by simp only; omega,by simp only [List.length_append,List.length_cons,List.length_nil]; omega,by simp only; omega,by simp only; omega,fun o ho => ?_⟩,by simp only; omega⟩
   ·have cap:decide ((List.length l + List.length [(g_Vs_l20Op_0 r0 p 0,g_Vs_l20Op_1 r0 p 0,g_Vs_l20Op_2 r0 p 0,g_Vs_l20Op_3 r0 p 0,g_Vs_l20Op_4 r0 p 0,g_Vs_l20Op_5 r0 p 0,g_Vs_l20Op_6 r0 p 0)]) * nat_lit 56 ≤ nat_lit 140737488355328 ∧ List.length l + List.length [(g_Vs_l20Op_0 r0 p 0,g_Vs_l20Op_1 r0 p 0,g_Vs_l20Op_2 r0 p 0,g_Vs_l20Op_3 r0 p 0,g_Vs_l20Op_4 r0 p 0,g_Vs_l20Op_5 r0 p 0,g_Vs_l20Op_6 r0 p 0)] ≤ nat_lit 9223372036854775807) = true := capE_f _ _ _ (by simp only [List.length_cons,List.length_nil]; omega) (by decide)
    simp only [g_Ss_DrawGloPlay_0,RT.sel,decide_eq_true hk,cond_true,o1,o2,hw,cap]
   ·rcases List.mem_append.1 ho with ho | ho
    ·exact i5 o ho
    ·rw [List.mem_singleton] at ho
     rw [ho]
     exact o3
  ·refine .inr ⟨(l,p),?_,by simp only; omega,i5⟩
   simp only [g_Ss_DrawGloPlay_0,RT.sel,decide_eq_false hk,cond_true,cond_false]
 obtain ⟨r,e1,e2,e3⟩ := L
 rw [e1]
 exact ⟨rfl,e2,e3⟩
theorem jaOk_f:g_Aw_jaOk = true ∧ g_Vw_jaOk_0 = true := by
 unfold g_Aw_jaOk g_Vw_jaOk_0
 obtain ⟨a,b⟩ := i_WrtOk_f (lit [97,49]) false [1] (by decide)
 rw [a,b]
 refine ⟨rfl,?_⟩
 decide +kernel
def digs:List ByteArray := [lit [48],lit [49],lit [50],lit [51],lit [52],lit [53],lit [54],lit [55],lit [56],lit [57]]
theorem digs_nm (c:Nat) {n:Int} (h:0 ≤ n ∧ n ≤ 9):lit [c] ++ at_ .str digs n.toNat = nm c n := by
 have e:at_ .str digs n.toNat = g_Vs_l3Digit_0 n := by
  rcases upto9 h with rfl | rfl | rfl | rfl | rfl | rfl | rfl | rfl | rfl | rfl <;> rfl
 rw [e]
theorem digs_size {n:Int} (h:0 ≤ n ∧ n ≤ 9):decide (nat_lit 1 + ByteArray.size (at_ .str digs n.toNat) ≤ nat_lit 9223372036854775807) = true := by
 rcases upto9 h with rfl | rfl | rfl | rfl | rfl | rfl | rfl | rfl | rfl | rfl <;> rfl
theorem i_StoGet_f (l:List (ByteArray×List Int)) (key:ByteArray) (hl:l.length ≤ 1048576) (hit:∀ x ∈ l,x.2.length ≤ 1048576):g_Ai_StoGet l key = true ∧ g_Vi_StoGet_0 l key = (bif storeP l then (getP l key).getD [] else []) ∧ g_Vi_StoGet_1 l key = (storeP l&&(getP l key).isSome) := by
 obtain ⟨a1,a2⟩ := i_StoOk_f l hl hit
 unfold g_Ai_StoGet g_Vi_StoGet_0 g_Vi_StoGet_1
 rw [a1,a2]
 cases h:storeP l
 ·simp
 ·obtain ⟨b1,b2,b3⟩ := sget_f l key h
  rw [b1,b2,b3]
  cases getP l key <;> simp
theorem FamJ.mono {n:Nat} {s:S3} {t:List Int} (h:FamJ n s t):FamJ (n + 1) s t := ⟨h.1,fun f hf => by
 rcases h.2 f hf with h | ⟨v,a1,a2,a3⟩
 ·exact .inl h
 ·exact .inr ⟨v,a1,a2,by omega⟩⟩
theorem pure_FnGloFam (a:List Int) (ok:a.length ≤ maxLen ∧ ∀ n ∈ a,(Lit.int .u8 n).wf = true):Fw_FnGloFam [argRV false (.sl 5 (.int .u8)) a] = some (true,.val false [.bool true],[]) := by
 show some (g_Aw_FnGloFam a,RV.val false [Cell.bool (g_Vw_FnGloFam_0 a)],[]) = _
 have key:g_Aw_FnGloFam a = true ∧ g_Vw_FnGloFam_0 a = true := by
  by_cases hl:(a.length:Int) > 1048576
  ·unfold g_Aw_FnGloFam g_Vw_FnGloFam_0
   rw [decide_eq_true hl]; exact ⟨rfl,rfl⟩
  ·obtain ⟨d1,d2,d3⟩ := drawGloPlay_f a ok.2
   unfold g_Aw_FnGloFam g_Vw_FnGloFam_0
   rw [decide_eq_false hl,d1]
   generalize g_Vs_DrawGloPlay_0 a = ops at d2 d3
   have h:OpsOk ops := ⟨by omega,d3⟩
   have hJ0:FamJ 0 (stG ops 0) [0,0,0,0,0,0,0,0,0,0] := ⟨rfl,fun f hf => .inl ⟨rfl,by
    rcases upto9 hf with rfl | rfl | rfl | rfl | rfl | rfl | rfl | rfl | rfl | rfl <;> rfl⟩⟩
   have L2:∃ r,g_Lw_FnGloFam_0 ops (g_Vi_GloNew_0,[0,0,0,0,0,0,0,0,0,0],0) = some r ∧ r = .inr (stG ops ops.length).l := by
    refine loop_inv (step := g_Sw_FnGloFam_0 ops) (fun x => ∃ n:Nat,x.2.2 = (n:Int) ∧ n ≤ ops.length ∧ x.1 = (stG ops n).l ∧ FamJ n (stG ops n) x.2.1) _ (fun x => ops.length - x.2.2.toNat) ?_ _ ⟨0,rfl,Nat.zero_le _,rfl,hJ0⟩
    rintro ⟨l,t,kk⟩ ⟨n,i1,i2,i4,i3⟩
    simp only at i1 i3 i4
    subst i1 i4
    by_cases hk:n < ops.length
    ·have hI := stG_inv h n (by omega)
     have ho := h.at hk
     have hm0:mayAt ops n = mayO (stG ops n) (at_ OT_ ops n) := rfl
     have hs := stG_succ ops n
     obtain ⟨e1,e2,e3⟩ := i_gdO hI (by omega) ho
     have e4:(stepO n (stG ops n) (at_ OT_ ops n)).l = (stG ops (n + 1)).l := rfl
     rw [e4] at e3
     rw [← hm0] at e2
     have k0:decide ((n:Int) < (ops.length:Int)) = true := decide_eq_true (by omega)
     have v0:decide ((0:Int) ≤ (n:Int) ∧ (n:Int) < (ops.length:Int)) = true := decide_eq_true (by omega)
     have v1:decide (n < ops.length) = true := decide_eq_true hk
     have w1:IntKind.wrap .i64 ((n:Int) + 1) = ((n + 1:Nat):Int) := by rw [wrap64 (by omega)]; omega
     obtain ⟨o,hoq⟩:∃ o:OpT,at_ OT_ ops n = o := ⟨_,rfl⟩
     rw [hoq] at ho hm0 hs e1 e2 e3
     obtain ⟨k,w,i,c,x,f,g⟩ := o
     simp only at e1 e2 e3
     have ho':opP k w i c x f g = true := ho
     obtain ⟨bw,bi,bc,bf,bs,bg,hk5⟩ := opP_bd ho'
     have tl:(t.length:Int) = 10 := by rw [i3.1]; rfl
     have u0:decide ((0:Int) ≤ f ∧ f < (t.length:Int)) = true := decide_eq_true (by omega)
     have u1':decide (f.toNat < t.length) = true := decide_eq_true (by omega)
     have es0:mayAt ops n = false → (stG ops (n + 1)).l = (stG ops n).l := fun e => by rw [hs,e]; rfl
     refine .inl ⟨((stG ops (n + 1)).l,bif mayAt ops n then (bif k == 3 then t.set f.toNat 1 else bif (k == 4)&&decide (g = at_ (.int .i64) t f.toNat) then t.set f.toNat (g + 1) else t) else t,((n + 1:Nat):Int)),?_,⟨n + 1,rfl,hk,rfl,?_⟩,by show ops.length - ((n + 1:Nat):Int).toNat < ops.length - ((n:Nat):Int).toNat; omega⟩
     ·by_cases h4:k = 4
      ·subst h4
       have eM:at_ TB_ (stG ops n).l (nat_lit 1) = (stG ops n).m := rfl
       have a1:decide ((0:Int) ≤ (1:Int) ∧ (1:Int) < ((stG ops n).l.length:Int)) = true := rfl
       have a2:decide (nat_lit 1 < (stG ops n).l.length) = true := rfl
       have big2 := gloP_small (Inv.glo hI)
       have big2 := big2.2 (stG ops n).m (by simp)
       have hst := plc_store hI.pm
       have f0:decide ((0:Int) ≤ f ∧ f < (10:Int)) = true := decide_eq_true (by omega)
       have f1:decide (f.toNat < nat_lit 10) = true := decide_eq_true (show f.toNat < 10 by omega)
       have f2:decide (nat_lit 1 + ByteArray.size (at_ Ty.str [lit [48],lit [49],lit [50],lit [51],lit [52],lit [53],lit [54],lit [55],lit [56],lit [57]] f.toNat) ≤ nat_lit 9223372036854775807) = true := digs_size bf
       have f3:lit [102] ++ at_ Ty.str [lit [48],lit [49],lit [50],lit [51],lit [52],lit [53],lit [54],lit [55],lit [56],lit [57]] f.toNat = nm 102 f := digs_nm 102 bf
       have b43:((4:Int) == 3) = false := rfl
       obtain ⟨g1,g2,g3⟩ := i_StoGet_f (stG ops n).m (nm 102 f) big2.1 big2.2
       rw [hst] at g2 g3
       simp only [cond_true,Bool.true_and] at g2 g3
       have hmv:mayAt ops n = mayNG (stG ops n).m f g := hm0
       cases hv:getP (stG ops n).m (nm 102 f) with
       | none =>
        have hm:mayAt ops n = false := by rw [hmv]; unfold mayNG; rw [hv]
        have es := es0 hm
        rw [hm] at e2
        rw [hv] at g3
        have g3:g_Vi_StoGet_1 (stG ops n).m (nm 102 f) = false := g3
        have ff:((false:Bool) == false) = true := rfl
        simp only [g_Sw_FnGloFam_0,o7,RT.sel,k0,v0,v1,Int.toNat_natCast,cond_true,hoq,e1,e2,BEq.rfl,a1,a2,f0,f1,f2,f3,eM,g1,g3,cond_false,ff,Bool.not_true,Bool.not_false,hm,b43,es,w1]
       | some v =>
        rw [hv] at g2 g3
        have g2:g_Vi_StoGet_0 (stG ops n).m (nm 102 f) = v := g2
        have g3:g_Vi_StoGet_1 (stG ops n).m (nm 102 f) = true := g3
        obtain ⟨l3,_,hb1,hb2⟩ := fam_len hI (byte_f f) hv
        have hgen:nth v 1 = at_ (.int .i64) t f.toNat ∧ nth v 1 ≤ n := by
         rcases i3.2 f bf with h | ⟨v',h,q⟩
         ·rw [hv] at h; cases h.1
         ·rw [hv] at h; cases h; exact q
        have m3:((v.length:Int) == 3) = true := by rw [l3]; rfl
        have m1:decide ((0:Int) ≤ (1:Int) ∧ (1:Int) < (v.length:Int)) = true := by rw [l3]; rfl
        have m2:decide ((0:Int) ≤ (2:Int) ∧ (2:Int) < (v.length:Int)) = true := by rw [l3]; rfl
        have n1:decide (nat_lit 1 < v.length) = true := by rw [l3]; rfl
        have n2:decide (nat_lit 2 < v.length) = true := by rw [l3]; rfl
        have ne:(at_ (.int .i64) v (nat_lit 1) != at_ (.int .i64) t f.toNat) = false := by
         show (nth v 1 != at_ (.int .i64) t f.toNat) = false
         rw [hgen.1]; simp
        have hP:mayAt ops n = ((nth v 2 == 1)&&(decide (g ≥ 1)&&decide (g ≤ nth v 1))) := by
         rw [hmv]
         unfold mayNG
         rw [hv]
         have n99:(nth v 1 == 99) = false := by
          have := hgen.2
          simp only [beq_eq_false_iff_ne]
          omega
         simp only [n99,Bool.or_false]
         by_cases q1:nth v 2 = 1
         ·have:(nth v 2 == 0) = false := by rw [q1]; rfl
          have q1':(nth v 2 == 1) = true := by rw [q1]; rfl
          rw [this,q1',Bool.false_or,Bool.true_and]
          by_cases q2:g = 0
          ·subst q2
           have:decide ((0:Int) ≥ 1) = false := rfl
           rw [this]
           simp
          ·have:(g == 0) = false := by simpa using q2
           rw [this,Bool.or_false,decide_eq_true (show g ≥ 1 by omega),Bool.true_and]
           by_cases q3:g ≤ nth v 1
           ·rw [decide_eq_true q3,decide_eq_false (show ¬ g > nth v 1 by omega)]; rfl
           ·rw [decide_eq_false q3,decide_eq_true (show g > nth v 1 by omega)]; rfl
         ·have:(nth v 2 == 0) = true := by
           simp only [beq_iff_eq]
           omega
          have q1':(nth v 2 == 1) = false := by simpa using q1
          rw [this,q1']; rfl
        cases q1:(nth v 2 == 1)
        ·have hm:mayAt ops n = false := by rw [hP,q1]; rfl
         have es := es0 hm
         rw [hm] at e2
         have q1':(at_ (.int .i64) v (nat_lit 2) == (1:Int)) = false := q1
         have ff:((false:Bool) == false) = true := rfl
         simp only [g_Sw_FnGloFam_0,o7,RT.sel,k0,v0,v1,Int.toNat_natCast,cond_true,hoq,e1,e2,BEq.rfl,a1,a2,f0,f1,f2,f3,eM,g1,g2,g3,m1,m2,m3,n1,n2,q1',cond_false,ff,Bool.not_true,Bool.not_false,hm,b43,es,w1]
        ·have q1':(at_ (.int .i64) v (nat_lit 2) == (1:Int)) = true := q1
         cases q2:decide (g ≥ 1)
         ·have hm:mayAt ops n = false := by rw [hP,q1,q2]; rfl
          have es := es0 hm
          rw [hm] at e2
          have ff:((false:Bool) == false) = true := rfl
          simp only [g_Sw_FnGloFam_0,o7,RT.sel,k0,v0,v1,Int.toNat_natCast,cond_true,hoq,e1,e2,BEq.rfl,a1,a2,f0,f1,f2,f3,eM,g1,g2,g3,m1,m2,m3,n1,n2,q1',q2,u0,u1',ne,cond_false,ff,Bool.not_true,Bool.not_false,hm,b43,es,w1]
         ·have hm:mayAt ops n = decide (g ≤ nth v 1) := by rw [hP,q1,q2]; rfl
          cases q3:decide (g ≤ nth v 1)
          ·rw [q3] at hm
           have es := es0 hm
           rw [hm] at e2
           have q3':decide (g ≤ at_ (.int .i64) v (nat_lit 1)) = false := q3
           have ff:((false:Bool) == false) = true := rfl
           simp only [g_Sw_FnGloFam_0,o7,RT.sel,k0,v0,v1,Int.toNat_natCast,cond_true,hoq,e1,e2,BEq.rfl,a1,a2,f0,f1,f2,f3,eM,g1,g2,g3,m1,m2,m3,n1,n2,q1',q2,q3',u0,u1',ne,cond_false,ff,Bool.not_true,Bool.not_false,hm,b43,es,w1]
          ·rw [q3] at hm
           rw [hm] at e2
           have q3':decide (g ≤ at_ (.int .i64) v (nat_lit 1)) = true := q3
           have tt:((true:Bool) == true) = true := rfl
           have wg:IntKind.wrap .i64 (g + 1) = g + 1 := wrap64 (by omega)
           have dg:(g == at_ (.int .i64) t f.toNat) = decide (g = at_ (.int .i64) t f.toNat) := rfl
           simp only [g_Sw_FnGloFam_0,o7,RT.sel,k0,v0,v1,Int.toNat_natCast,cond_true,hoq,e1,e2,e3,BEq.rfl,a1,a2,f0,f1,f2,f3,eM,g1,g2,g3,m1,m2,m3,n1,n2,q1',q2,q3',u0,u1',ne,cond_false,tt,Bool.not_true,Bool.not_false,hm,b43,w1,wg,dg,Bool.true_and]
           cases decide (g = at_ (.int .i64) t f.toNat) <;> rfl
      ·have b4:(k == 4) = false := by simpa using h4
       cases hm:mayAt ops n
       ·have es := es0 hm
        rw [hm] at e2
        simp only [g_Sw_FnGloFam_0,o7,RT.sel,k0,v0,v1,Int.toNat_natCast,cond_true,hoq,e1,e2,b4,cond_false,es,w1]
       ·rw [hm] at hm0 e2
        obtain ⟨s3,_⟩ := fam_step hI i3 ho hm0.symm
        cases b3:(k == 3)
        ·simp only [g_Sw_FnGloFam_0,o7,RT.sel,k0,v0,v1,Int.toNat_natCast,cond_true,hoq,e1,e2,e3,b4,b3,cond_false,Bool.false_and,w1]
        ·have q:(at_ (.int .i64) t f.toNat != 0) = false := by rw [s3 (by simpa using b3)]; rfl
         simp only [g_Sw_FnGloFam_0,o7,RT.sel,k0,v0,v1,Int.toNat_natCast,cond_true,hoq,e1,e2,e3,b4,b3,cond_false,u0,u1',q,w1]
     ·rw [hs]
      cases hm:mayAt ops n
      ·exact i3.mono
      ·rw [hm] at hm0
       exact (fam_step hI i3 ho hm0.symm).2
    ·have e:n = ops.length := by omega
     subst e
     refine .inr ⟨_,?_,rfl⟩
     have k0:decide ((ops.length:Int) < (ops.length:Int)) = false := decide_eq_false (by omega)
     simp only [g_Sw_FnGloFam_0,o7,RT.sel,k0,cond_true,cond_false]
   obtain ⟨r,r1,r2⟩ := L2
   subst r2
   rw [r1]
   have hg := Inv.glo (stG_inv h ops.length (Nat.le_refl _))
   obtain ⟨a1,a2⟩ := i_GloOk_f (stG ops ops.length).l (by simp) (fun x hx => (gloP_small hg).2 x hx)
   rw [hg] at a2
   simp only [okO,valO,isL,getR,Option.isSome_some,Option.getD_some,a1,a2,jaOk_f.1,jaOk_f.2,cond_false,Bool.false_or,Bool.true_and,Bool.and_true,Bool.or_true,cond_true,and_self,Bool.not_true]
 rw [key.1,key.2]
end Go.Proofs.YtliagpcoflhphaaDoor.E
