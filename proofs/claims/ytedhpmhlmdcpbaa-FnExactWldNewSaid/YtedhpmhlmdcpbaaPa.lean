/- What these values are, in plain words: for the proof (laws.FnExactWldNew): part 1. No conditions. -/
import Derived.Test.YtedhpmhlmdcpbaaGc
import Derived.Lib.SlTrimSet
set_option linter.all false
namespace Go.Proofs.Ytedhpmhlmdcpbaa.E
open Go
set_option maxRecDepth 100000
set_option maxHeartbeats 0
theorem wrap64 {x:Int} (h:-9223372036854775808 ≤ x ∧ x < 9223372036854775808):IntKind.wrap .i64 x = x := by
 simp only [IntKind.wrap,IntKind.bits,IntKind.signed]
 simp
 omega
section
variable {σ ρ α β:Type} {step:σ → RT σ ρ}
theorem loop_all (mk:Nat → σ) (p:Nat → Bool) (e fin:ρ) (n:Nat) (h1:∀ i,i < n → (step (mk i)).sel = bif p i then .go (mk (i + 1)) else .out e) (h2:(step (mk n)).sel = .out fin) :
  loopO step (mk 0) = some (bif (List.range n).all p then fin else e) := by
 have key:∀ k i,i + k = n → loopO step (mk i) = some (bif (List.range' i k).all p then fin else e) := by
  intro k
  induction k with
  | zero =>
   intro i hi
   have hi:i = n := by omega
   subst hi
   rw [loopO_eq,h2]
   rfl
  | succ k ih =>
   intro i hi
   rw [loopO_eq,h1 i (by omega),List.range'_succ,List.all_cons]
   cases p i with
   | true => simp only [cond_true,Bool.true_and]; exact ih (i + 1) (by omega)
   | false => rfl
 rw [key n 0 (by omega),List.range_eq_range']
theorem at_mem {e:Ty} {l:List e.den} {i:Nat} (h:i < l.length):at_ e l i ∈ l := by
 have:at_ e l i = l[i] := by simp [at_,h]
 rw [this]
 exact List.getElem_mem h
theorem at_eq {e:Ty} {l:List e.den} {i:Nat} (h:i < l.length):at_ e l i = l[i] := by simp [at_,h]
end
theorem eqIntS_self (l:List Int) (hl:l.length ≤ 1048576):g_Aw_eqIntS l l = true ∧ g_Vw_eqIntS_0 l l = true := by
 have h:g_Lw_eqIntS_0 l l 0 = some (.inr ()) := by
  have := loop_all (step := g_Sw_eqIntS_0 l l) (fun i:Nat => (i:Int)) (fun _ => true) (.inl false) (.inr ()) l.length (fun i hi => by
   have k1:(i:Int) < l.length := by omega
   have k2:(0:Int) ≤ (i:Int) := by omega
   have hw:IntKind.wrap .i64 ((i:Int) + 1) = ((i + 1:Nat):Int) := by rw [wrap64 (by omega)]; omega
   simp only [g_Sw_eqIntS_0,RT.sel,cond_true,k1,k2,hw,decide_true,and_self,Int.toNat_natCast,bne_self_eq_false,cond_false]) (by simp [g_Sw_eqIntS_0,RT.sel])
  rw [show (List.range l.length).all (fun _ => true) = true by simp] at this
  exact this
 simp [g_Aw_eqIntS,g_Vw_eqIntS_0,h,okO,valO,isL]
theorem eqStringS_self (l:List ByteArray) (hl:l.length ≤ 1048576):g_Aw_eqStringS l l = true ∧ g_Vw_eqStringS_0 l l = true := by
 have h:g_Lw_eqStringS_0 l l 0 = some (.inr ()) := by
  have := loop_all (step := g_Sw_eqStringS_0 l l) (fun i:Nat => (i:Int)) (fun _ => true) (.inl false) (.inr ()) l.length (fun i hi => by
   have k1:(i:Int) < l.length := by omega
   have k2:(0:Int) ≤ (i:Int) := by omega
   have hw:IntKind.wrap .i64 ((i:Int) + 1) = ((i + 1:Nat):Int) := by rw [wrap64 (by omega)]; omega
   simp only [g_Sw_eqStringS_0,RT.sel,cond_true,k1,k2,hw,decide_true,and_self,Int.toNat_natCast,BEq.rfl,Bool.not_true,cond_false]) (by simp [g_Sw_eqStringS_0,RT.sel])
  rw [show (List.range l.length).all (fun _ => true) = true by simp] at this
  exact this
 simp [g_Aw_eqStringS,g_Vw_eqStringS_0,h,okO,valO,isL]
theorem eqStoWrite_self (k:ByteArray) (d:Bool) (l:List Int) (hl:l.length ≤ 1048576):g_Aw_eqStoWrite k d l k d l = true ∧ g_Vw_eqStoWrite_0 k d l k d l = true := by
 obtain ⟨a,b⟩ := eqIntS_self l hl
 simp [g_Aw_eqStoWrite,g_Vw_eqStoWrite_0,a,b]
theorem eqStoWriteS_self (l:List (ByteArray×Bool×List Int)) (hl:l.length ≤ 1048576) (hit:∀ w ∈ l,w.2.2.length ≤ 1048576):g_Aw_eqStoWriteS l l = true ∧ g_Vw_eqStoWriteS_0 l l = true := by
 have h:g_Lw_eqStoWriteS_0 l l 0 = some (.inr ()) := by
  have := loop_all (step := g_Sw_eqStoWriteS_0 l l) (fun i:Nat => (i:Int)) (fun _ => true) (.inl false) (.inr ()) l.length (fun i hi => by
   have k1:(i:Int) < l.length := by omega
   have k2:(0:Int) ≤ (i:Int) := by omega
   have hw:IntKind.wrap .i64 ((i:Int) + 1) = ((i + 1:Nat):Int) := by rw [wrap64 (by omega)]; omega
   obtain ⟨q1,q2⟩ := eqStoWrite_self (at_ (.pair .str (.pair .bool (.sl 3 (.int .i64)))) l i).1 (at_ (.pair .str (.pair .bool (.sl 3 (.int .i64)))) l i).2.1 _ (hit _ (at_mem (e := .pair .str (.pair .bool (.sl 3 (.int .i64)))) hi))
   simp only [g_Sw_eqStoWriteS_0,RT.sel,cond_true,k1,k2,hw,decide_true,and_self,Int.toNat_natCast,q1,q2,Bool.not_true,cond_false]) (by simp [g_Sw_eqStoWriteS_0,RT.sel])
  rw [show (List.range l.length).all (fun _ => true) = true by simp] at this
  exact this
 simp [g_Aw_eqStoWriteS,g_Vw_eqStoWriteS_0,h,okO,valO,isL]
abbrev Note:Type := Int×Int×List ByteArray×List (ByteArray×Bool×List Int)
abbrev NI_:Ty := .pair (.int .i64) (.pair (.int .i64) (.pair (.sl 9 .str) (.sl 78 (.pair .str (.pair .bool (.sl 3 (.int .i64)))))))
def smallN (x:Note):Prop := x.2.2.1.length ≤ 1048576 ∧ x.2.2.2.length ≤ 1048576 ∧ ∀ w ∈ x.2.2.2,w.2.2.length ≤ 1048576
theorem eqLogNote_self (x:Note) (h:smallN x):g_Aw_eqLogNote x.1 x.2.1 x.2.2.1 x.2.2.2 x.1 x.2.1 x.2.2.1 x.2.2.2 = true ∧ g_Vw_eqLogNote_0 x.1 x.2.1 x.2.2.1 x.2.2.2 x.1 x.2.1 x.2.2.1 x.2.2.2 = true := by
 obtain ⟨p1,p2⟩ := eqStringS_self x.2.2.1 h.1
 obtain ⟨q1,q2⟩ := eqStoWriteS_self x.2.2.2 h.2.1 h.2.2
 simp [g_Aw_eqLogNote,g_Vw_eqLogNote_0,p1,p2,q1,q2]
theorem eqLogNoteS_self (l:List Note) (hl:l.length ≤ 1048576) (hit:∀ x ∈ l,smallN x):g_Aw_eqLogNoteS l l = true ∧ g_Vw_eqLogNoteS_0 l l = true := by
 have h:g_Lw_eqLogNoteS_0 l l 0 = some (.inr ()) := by
  have := loop_all (step := g_Sw_eqLogNoteS_0 l l) (fun i:Nat => (i:Int)) (fun _ => true) (.inl false) (.inr ()) l.length (fun i hi => by
   have k1:(i:Int) < l.length := by omega
   have k2:(0:Int) ≤ (i:Int) := by omega
   have hw:IntKind.wrap .i64 ((i:Int) + 1) = ((i + 1:Nat):Int) := by rw [wrap64 (by omega)]; omega
   obtain ⟨q1,q2⟩ := eqLogNote_self _ (hit _ (at_mem (e := NI_) hi))
   simp only [g_Sw_eqLogNoteS_0,RT.sel,cond_true,k1,k2,hw,decide_true,and_self,Int.toNat_natCast,q1,q2,Bool.not_true,cond_false]) (by simp [g_Sw_eqLogNoteS_0,RT.sel])
  rw [show (List.range l.length).all (fun _ => true) = true by simp] at this
  exact this
 simp [g_Aw_eqLogNoteS,g_Vw_eqLogNoteS_0,h,okO,valO,isL]
theorem eqLogDisk_self (l:List Note) (safe:Int) (hl:l.length ≤ 1048576) (hit:∀ x ∈ l,smallN x):g_Aw_eqLogDisk l safe l safe = true ∧ g_Vw_eqLogDisk_0 l safe l safe = true := by
 obtain ⟨a,b⟩ := eqLogNoteS_self l hl hit
 simp [g_Aw_eqLogDisk,g_Vw_eqLogDisk_0,a,b]
theorem loop_inv {σ ρ:Type} {step:σ → RT σ ρ} (I:σ → Prop) (R:ρ → Prop) (μ:σ → Nat) (h:∀ x,I x → (∃ y,(step x).sel = .go y ∧ I y ∧ μ y < μ x) ∨ ∃ r,(step x).sel = .out r ∧ R r):∀ x,I x → ∃ r,loopO step x = some r ∧ R r := by
 have key:∀ n x,μ x ≤ n → I x → ∃ r,loopO step x = some r ∧ R r := by
  intro n
  induction n with
  | zero =>
   intro x hx hI
   rcases h x hI with ⟨y,_,_,h3⟩ | ⟨r,h1,h2⟩
   ·omega
   ·exact ⟨r,by rw [loopO_eq,h1],h2⟩
  | succ n ih =>
   intro x hx hI
   rcases h x hI with ⟨y,h1,h2,h3⟩ | ⟨r,h1,h2⟩
   ·obtain ⟨r,e1,e2⟩ := ih y (by omega) h2
    exact ⟨r,by rw [loopO_eq,h1]; exact e1,e2⟩
   ·exact ⟨r,by rw [loopO_eq,h1],h2⟩
 exact fun x hI => key (μ x) x (Nat.le_refl _) hI
def mkL {α:Type} (m:α → Int → α) (c:α → Nat):List α → Int → List α
 | [],_ => []
 | x :: r,k => m x k :: mkL m c r (k + c x)
theorem mkL_len {α:Type} (m:α → Int → α) (c:α → Nat):∀ (l:List α) (k:Int),(mkL m c l k).length = l.length
 | [],_ => rfl
 | x :: r,k => by simp [mkL,mkL_len m c r]
def sumC {α:Type} (c:α → Nat) (l:List α):Nat := (l.map c).sum
theorem sumC_cons {α:Type} (c:α → Nat) (x:α) (l:List α):sumC c (x :: l) = c x + sumC c l := by simp [sumC]
theorem sumC_one {α:Type}:∀ (l:List α),sumC (fun _ => 1) l = l.length
 | [] => rfl
 | x :: l => by rw [sumC_cons,sumC_one l,List.length_cons]; omega
theorem at_set {e:Ty} {l:List e.den} {i:Nat} {x:e.den} (h:i < l.length):at_ e (l.set i x) i = x := by
 simp [at_,List.getD,List.getElem?_set_self h]
section
variable {e:Ty}
theorem at_split (pre:List e.den) (x:e.den) (s:List e.den):at_ e (pre ++ x :: s) pre.length = x := by simp [at_,List.getD]
theorem mark_loop {step:List e.den×Int×Int → RT (List e.den×Int×Int) (List e.den×Int)} (m:e.den → Int → e.den) (c:e.den → Nat) (l:List e.den) (B:Int)
  (h1:∀ (i:Nat) (r:List e.den) (k:Int),i < l.length → r.length = l.length → at_ e r i = at_ e l i → 0 ≤ k → k + (c (at_ e l i):Int) ≤ B → (step (r,k,(i:Int))).sel = .go (r.set i (m (at_ e l i) k),k + c (at_ e l i),((i + 1:Nat):Int)))
  (h2:∀ (r:List e.den) (k:Int),r.length = l.length → (step (r,k,(l.length:Int))).sel = .out (r,k))
  (k0:Int) (h0:0 ≤ k0) (hB:k0 + (sumC c l:Nat) ≤ B):loopO step (l,k0,0) = some (mkL m c l k0,k0 + (sumC c l:Nat)) := by
 have key:∀ (s pre:List e.den) (k:Int),pre.length + s.length = l.length → s = l.drop pre.length → 0 ≤ k → k + (sumC c s:Nat) ≤ B → loopO step (pre ++ s,k,(pre.length:Int)) = some (pre ++ mkL m c s k,k + (sumC c s:Nat)) := by
  intro s
  induction s with
  | nil =>
   intro pre k hl _ _ _
   have e1:pre.length = l.length := by simpa using hl
   rw [loopO_eq,e1,h2 (pre ++ []) k (by simpa using e1)]
   simp [mkL,sumC]
  | cons x s ih =>
   intro pre k hl hs hk hb
   rw [List.length_cons] at hl
   rw [sumC_cons] at hb
   have hi:pre.length < l.length := by omega
   have hx:at_ e l pre.length = x := by
    rw [at_eq hi]
    have := congrArg (fun t => t[0]?) hs
    simp only [List.getElem?_cons_zero,List.getElem?_drop,Nat.add_zero,List.getElem?_eq_getElem hi,Option.some.injEq] at this
    exact this.symm
   rw [loopO_eq,h1 pre.length (pre ++ x :: s) k hi (by simp; omega) (by rw [at_split,hx]) hk (by rw [hx]; omega),hx]
   have es:(pre ++ x :: s).set pre.length (m x k) = (pre ++ [m x k]) ++ s := by simp
   simp only [es]
   have := ih (pre ++ [m x k]) (k + c x) (by simp; omega) (by
    rw [List.length_append,List.length_singleton,← List.drop_drop,← hs]; rfl) (by omega) (by omega)
   rw [List.length_append,List.length_singleton] at this
   rw [this]
   simp only [mkL,List.append_assoc,List.singleton_append,sumC_cons]
   congr 2
   omega
 have := key l [] k0 (by simp) (by simp) h0 hB
 simpa using this
theorem held_loop {ρ:Type} {step:Int×Int → RT (Int×Int) ρ} (m:e.den → Int → e.den) (c:e.den → Nat) (l:List e.den) (B:Int) (fin:Int → ρ) (k0:Int)
  (h1:∀ (i:Nat) (k:Int),i < l.length → at_ e (mkL m c l k0) i = m (at_ e l i) k → 0 ≤ k → k + (c (at_ e l i):Int) ≤ B → (step (k,(i:Int))).sel = .go (k + c (at_ e l i),((i + 1:Nat):Int)))
  (h2:∀ (k:Int),(step (k,(l.length:Int))).sel = .out (fin k))
  (h0:0 ≤ k0) (hB:k0 + (sumC c l:Nat) ≤ B):loopO step (k0,0) = some (fin (k0 + (sumC c l:Nat))) := by
 have key:∀ (s:List e.den) (n:Nat) (k:Int),n + s.length = l.length → s = l.drop n → (mkL m c l k0).drop n = mkL m c s k → 0 ≤ k → k + (sumC c s:Nat) ≤ B → loopO step (k,(n:Int)) = some (fin (k + (sumC c s:Nat))) := by
  intro s
  induction s with
  | nil =>
   intro n k hl _ _ _ _
   have e1:n = l.length := by simpa using hl
   rw [loopO_eq,e1,h2 k]
   simp [sumC]
  | cons x s ih =>
   intro n k hl hs hm hk hb
   rw [List.length_cons] at hl
   rw [sumC_cons] at hb
   have hi:n < l.length := by omega
   have hx:at_ e l n = x := by
    rw [at_eq hi]
    have := congrArg (fun t => t[0]?) hs
    simp only [List.getElem?_cons_zero,List.getElem?_drop,Nat.add_zero,List.getElem?_eq_getElem hi,Option.some.injEq] at this
    exact this.symm
   have hi2:n < (mkL m c l k0).length := by rw [mkL_len]; exact hi
   have hmx:at_ e (mkL m c l k0) n = m x k := by
    rw [at_eq hi2]
    have := congrArg (fun t => t[0]?) hm
    simp only [mkL,List.getElem?_cons_zero,List.getElem?_drop,Nat.add_zero,List.getElem?_eq_getElem hi2,Option.some.injEq] at this
    exact this
   rw [loopO_eq,h1 n k hi (by rw [hmx,hx]) hk (by rw [hx]; omega),hx]
   simp only
   rw [ih (n + 1) (k + c x) (by omega) (by rw [← List.drop_drop,← hs]; rfl) (by rw [← List.drop_drop,hm]; rfl) (by omega) (by omega),sumC_cons]
   congr 2
   omega
 exact key l 0 k0 (by simp) (by simp) (by simp) h0 hB
end
def MK:Int := 1099511627776
theorem wrapM {x:Int} (h:0 ≤ x ∧ x ≤ 1099511627776 + 1000):IntKind.wrap .i64 x = x := wrap64 (by omega)
theorem markText_f (k:Int) (h:0 ≤ k ∧ k ≤ MK):g_Aw_markText k = true := by
 unfold g_Aw_markText
 by_cases hk:k ≤ 0
 ·simp [hk]
 ·obtain ⟨r,h1,h2⟩ := loop_inv (step := g_Sw_markText_0) (fun x => 0 ≤ x.1 ∧ x.2.size ≤ 41 ∧ x.1 < 2 ^ (41 - x.2.size)) (fun r => r.size ≤ 41) (fun x => x.1.toNat) (fun x hx => by
   obtain ⟨n,s⟩ := x
   obtain ⟨i1,i2,i3⟩ := hx
   simp only at i1 i2 i3
   by_cases hn:n > 0
   ·have hs:s.size < 41 := by
     rcases Nat.lt_or_ge s.size 41 with h | h
     ·exact h
     ·have:s.size = 41 := by omega
      rw [this] at i3
      simp at i3
      omega
    have hd:Int.tdiv n 10 = n / 10 := Int.tdiv_eq_ediv_of_nonneg i1
    have hbig:n < 2 ^ 41 := by
     refine Int.lt_of_lt_of_le i3 ?_
     have:(2:Int) ^ (41 - s.size) = ((2 ^ (41 - s.size):Nat):Int) := by simp
     rw [this]
     have := Nat.pow_le_pow_right (show 0 < 2 by decide) (show 41 - s.size ≤ 41 by omega)
     have e:(2:Int) ^ 41 = ((2 ^ 41:Nat):Int) := by norm_cast
     rw [e]
     exact_mod_cast this
    have hw:IntKind.wrap .i64 (Int.tdiv n 10) = n / 10 := by rw [hd]; exact wrap64 (by omega)
    let one:ByteArray := ⟨List.toArray (List.map (fun n => UInt8.ofNat (Int.toNat n)) [IntKind.wrap IntKind.u8 (IntKind.wrap IntKind.i64 ((48:Int) + Int.tmod n (10:Int)))])⟩
    have ho:(one ++ s).size = s.size + 1 := by
     rw [ByteArray.size_append]
     show 1 + s.size = _
     omega
    refine .inl ⟨(n / 10,one ++ s),?_,⟨by simp only; omega,by simp only; omega,?_⟩,by simp only; omega⟩
    ·have hsz:(nat_lit 1:Nat) + s.size ≤ nat_lit 9223372036854775807 := by
      exact Nat.le_trans (show 1 + s.size ≤ 100 by omega) (by decide)
     simp only [g_Sw_markText_0,RT.sel,hn,decide_true,cond_true,hw]
     rw [show decide (ByteArray.size one + s.size ≤ nat_lit 9223372036854775807) = true from decide_eq_true hsz]
     rfl
    ·simp only [ho]
     have:(41 - s.size) = (41 - (s.size + 1)) + 1 := by omega
     rw [this,Int.pow_succ] at i3
     omega
   ·refine .inr ⟨s,?_,i2⟩
    simp only [g_Sw_markText_0,RT.sel,hn,decide_false,cond_true,cond_false]) (k,lit []) ⟨h.1,show (0:Nat) ≤ 41 by decide,by
     have:(lit []).size = 0 := rfl
     simp only [this]
     have := h.2
     unfold MK at this
     omega⟩
  have h1:g_Lw_markText_0 (k,lit []) = some r := h1
  rw [h1]
  simp only [okO,valO,Option.isSome_some,Option.getD_some,Bool.true_and,decide_eq_false hk,Bool.false_or]
  exact decide_eq_true (Nat.le_trans (show 1 + r.size ≤ 100 by omega) (by decide))
abbrev mkI (l:List Int) (k:Int):List Int := mkL (fun _ k => k) (fun _ => 1) l k
theorem markIntS_f (l:List Int) (k:Int) (hl:l.length ≤ 1048576) (h:0 ≤ k ∧ k + l.length ≤ MK):g_Aw_markIntS l k = true ∧ g_Vw_markIntS_0 l k = k + l.length ∧ g_Vw_markIntS_1 l k = mkI l k := by
 have L:g_Lw_markIntS_0 (l,k,0) = some (mkI l k,k + l.length) := by
  have := mark_loop (e := .int .i64) (step := g_Sw_markIntS_0) (fun _ k => k) (fun _ => 1) l MK (fun i r k hi hr _ h0 hb => by
   have k1:(i:Int) < r.length := by omega
   have k2:(0:Int) ≤ (i:Int) := by omega
   have k3:i < r.length := by omega
   unfold MK at hb
   simp only [g_Sw_markIntS_0,RT.sel,cond_true,k1,k2,k3,decide_true,and_self,Int.toNat_natCast,wrapM (x := k + 1) (by omega),wrapM (x := (i:Int) + 1) (by omega)]
   congr 1) (fun r k hr => by simp only [g_Sw_markIntS_0,RT.sel,cond_true,hr,Int.lt_irrefl,decide_false,cond_false]) k h.1 (by rw [sumC_one]; exact h.2)
  rw [sumC_one] at this
  exact this
 simp only [g_Aw_markIntS,g_Vw_markIntS_0,g_Vw_markIntS_1,L,okO,valO,Option.isSome_some,Option.getD_some,and_self]
theorem heldIntS_f (l:List Int) (k:Int) (hl:l.length ≤ 1048576) (h:0 ≤ k ∧ k + l.length ≤ MK):g_Aw_heldIntS (mkI l k) k = true ∧ g_Vw_heldIntS_0 (mkI l k) k = k + l.length := by
 have L:g_Lw_heldIntS_0 (mkI l k) (k,0) = some (.inr (k + l.length)) := by
  have := held_loop (e := .int .i64) (step := g_Sw_heldIntS_0 (mkI l k)) (fun _ k => k) (fun _ => 1) l MK (fun k => .inr k) k (fun i k' hi ha h0 hb => by
   have hlen:(mkI l k).length = l.length := mkL_len _ _ _ _
   have k1:(i:Int) < (mkI l k).length := by omega
   have k2:(0:Int) ≤ (i:Int) := by omega
   have ha:at_ (.int .i64) (mkI l k) i = k' := ha
   unfold MK at hb
   simp only [g_Sw_heldIntS_0,RT.sel,cond_true,k1,k2,decide_true,and_self,Int.toNat_natCast,ha,bne_self_eq_false,cond_false,wrapM (x := k' + 1) (by omega),wrapM (x := (i:Int) + 1) (by omega)]
   congr 1) (fun k' => by
    have hlen:(mkI l k).length = l.length := mkL_len _ _ _ _
    simp only [g_Sw_heldIntS_0,RT.sel,cond_true,hlen,Int.lt_irrefl,decide_false,cond_false]) h.1 (by rw [sumC_one]; exact h.2)
  rw [sumC_one] at this
  exact this
 simp only [g_Aw_heldIntS,g_Vw_heldIntS_0,L,okO,valO,Option.isSome_some,Option.getD_some,isL,getR,cond_false,and_self]
noncomputable abbrev mkS (l:List ByteArray) (k:Int):List ByteArray := mkL (fun _ k => g_Vw_markText_0 k) (fun _ => 1) l k
theorem markStringS_f (l:List ByteArray) (k:Int) (hl:l.length ≤ 1048576) (h:0 ≤ k ∧ k + l.length ≤ MK):g_Aw_markStringS l k = true ∧ g_Vw_markStringS_0 l k = k + l.length ∧ g_Vw_markStringS_1 l k = mkS l k := by
 have L:g_Lw_markStringS_0 (l,k,0) = some (mkS l k,k + l.length) := by
  have := mark_loop (e := .str) (step := g_Sw_markStringS_0) (fun _ k => g_Vw_markText_0 k) (fun _ => 1) l MK (fun i r k hi hr _ h0 hb => by
   have k1:(i:Int) < r.length := by omega
   have k2:(0:Int) ≤ (i:Int) := by omega
   have k3:i < r.length := by omega
   unfold MK at hb
   have t := markText_f k ⟨h0,by unfold MK; omega⟩
   simp only [g_Sw_markStringS_0,RT.sel,cond_true,k1,k2,k3,decide_true,and_self,Int.toNat_natCast,t,wrapM (x := k + 1) (by omega),wrapM (x := (i:Int) + 1) (by omega)]
   congr 1) (fun r k hr => by simp only [g_Sw_markStringS_0,RT.sel,cond_true,hr,Int.lt_irrefl,decide_false,cond_false]) k h.1 (by rw [sumC_one]; exact h.2)
  rw [sumC_one] at this
  exact this
 simp only [g_Aw_markStringS,g_Vw_markStringS_0,g_Vw_markStringS_1,L,okO,valO,Option.isSome_some,Option.getD_some,and_self]
abbrev WM_:Ty := .pair .str (.pair .bool (.sl 3 (.int .i64)))
noncomputable abbrev mW (x:ByteArray×Bool×List Int) (k:Int):ByteArray×Bool×List Int := (g_Vw_markText_0 k,Int.tmod (k + 1) 3 == 0,mkI x.2.2 (k + 2))
abbrev cW (x:ByteArray×Bool×List Int):Nat := 2 + x.2.2.length
noncomputable abbrev mkW (l:List (ByteArray×Bool×List Int)) (k:Int):List (ByteArray×Bool×List Int) := mkL mW cW l k
theorem markStoWriteS_f (l:List (ByteArray×Bool×List Int)) (k:Int) (hl:l.length ≤ 1048576) (hit:∀ x ∈ l,x.2.2.length ≤ 1048576) (h:0 ≤ k ∧ k + (sumC cW l:Nat) ≤ MK):g_Aw_markStoWriteS l k = true ∧ g_Vw_markStoWriteS_0 l k = k + (sumC cW l:Nat) ∧ g_Vw_markStoWriteS_1 l k = mkW l k := by
 have L:g_Lw_markStoWriteS_0 (l,k,0) = some (mkL mW cW l k,k + (sumC cW l:Nat)) := by
  refine mark_loop (e := WM_) (step := g_Sw_markStoWriteS_0) mW cW l MK (fun i r k hi hr ha h0 hb => ?_) (fun r k hr => by simp only [g_Sw_markStoWriteS_0,RT.sel,cond_true,hr,Int.lt_irrefl,decide_false,cond_false]) k h.1 h.2
  have k1:(i:Int) < r.length := by omega
  have k2:(0:Int) ≤ (i:Int) := by omega
  have k3:i < r.length := by omega
  have ha:at_ (.pair .str (.pair .bool (.sl 3 (.int .i64)))) r i = at_ WM_ l i := ha
  have hx := hit _ (at_mem (e := WM_) hi)
  simp only [cW] at hb
  unfold MK at hb
  have t := markText_f k ⟨h0,by unfold MK; omega⟩
  obtain ⟨a1,a2,a3⟩ := markIntS_f (at_ WM_ l i).2.2 (k + 2) hx ⟨by omega,by unfold MK; omega⟩
  have e2:k + 1 + 1 = k + 2 := by omega
  simp only [g_Sw_markStoWriteS_0,updE,RT.sel,cond_true,k1,k2,k3,decide_true,and_self,Int.toNat_natCast,t,List.length_set,at_set k3,ha,wrapM (x := k + 1) (by omega),e2,wrapM (x := k + 2) (by omega),a1,a2,a3,List.set_set,wrapM (x := (i:Int) + 1) (by omega)]
  simp only [cW]
  congr 3
  omega
 simp only [g_Aw_markStoWriteS,g_Vw_markStoWriteS_0,g_Vw_markStoWriteS_1,L,okO,valO,Option.isSome_some,Option.getD_some,and_self]
noncomputable abbrev mN (x:Note) (k:Int):Note := (k,k + 1,mkS x.2.2.1 (k + 2),mkW x.2.2.2 (k + 2 + x.2.2.1.length))
abbrev cN (x:Note):Nat := 2 + x.2.2.1.length + sumC cW x.2.2.2
noncomputable abbrev mkN (l:List Note) (k:Int):List Note := mkL mN cN l k
theorem markLogNoteS_f (l:List Note) (k:Int) (hl:l.length ≤ 1048576) (hit:∀ x ∈ l,smallN x) (h:0 ≤ k ∧ k + (sumC cN l:Nat) ≤ MK):g_Aw_markLogNoteS l k = true ∧ g_Vw_markLogNoteS_0 l k = k + (sumC cN l:Nat) ∧ g_Vw_markLogNoteS_1 l k = mkN l k := by
 have L:g_Lw_markLogNoteS_0 (l,k,0) = some (mkL mN cN l k,k + (sumC cN l:Nat)) := by
  refine mark_loop (e := NI_) (step := g_Sw_markLogNoteS_0) mN cN l MK (fun i r k hi hr ha h0 hb => ?_) (fun r k hr => by simp only [g_Sw_markLogNoteS_0,RT.sel,cond_true,hr,Int.lt_irrefl,decide_false,cond_false]) k h.1 h.2
  have k1:(i:Int) < r.length := by omega
  have k2:(0:Int) ≤ (i:Int) := by omega
  have k3:i < r.length := by omega
  have ha:at_ NI_ r i = at_ NI_ l i := ha
  obtain ⟨x1,x2,x3⟩ := hit _ (at_mem (e := NI_) hi)
  simp only [cN] at hb
  unfold MK at hb
  obtain ⟨a1,a2,a3⟩ := markStringS_f (at_ NI_ l i).2.2.1 (k + 2) x1 ⟨by omega,by unfold MK; omega⟩
  obtain ⟨b1,b2,b3⟩ := markStoWriteS_f (at_ NI_ l i).2.2.2 (k + 2 + ((at_ NI_ l i).2.2.1.length:Nat)) x2 x3 ⟨by omega,by unfold MK; omega⟩
  have e2:k + 1 + 1 = k + 2 := by omega
  simp only [g_Sw_markLogNoteS_0,updE,RT.sel,cond_true,k1,k2,k3,decide_true,and_self,Int.toNat_natCast,List.length_set,at_set k3,ha,wrapM (x := k + 1) (by omega),e2,wrapM (x := k + 2) (by omega),a1,a2,a3,b1,b2,b3,List.set_set,wrapM (x := (i:Int) + 1) (by omega)]
  simp only [cN]
  congr 3
  omega
 simp only [g_Aw_markLogNoteS,g_Vw_markLogNoteS_0,g_Vw_markLogNoteS_1,L,okO,valO,Option.isSome_some,Option.getD_some,and_self]
theorem heldStringS_f (l:List ByteArray) (k:Int) (hl:l.length ≤ 1048576) (h:0 ≤ k ∧ k + l.length ≤ MK):g_Aw_heldStringS (mkS l k) k = true ∧ g_Vw_heldStringS_0 (mkS l k) k = k + l.length := by
 have L:g_Lw_heldStringS_0 (mkS l k) (k,0) = some (.inr (k + l.length)) := by
  have := held_loop (e := .str) (step := g_Sw_heldStringS_0 (mkS l k)) (fun _ k => g_Vw_markText_0 k) (fun _ => 1) l MK (fun k => .inr k) k (fun i k' hi ha h0 hb => by
   have hlen:(mkS l k).length = l.length := mkL_len _ _ _ _
   have k1:(i:Int) < (mkS l k).length := by omega
   have k2:(0:Int) ≤ (i:Int) := by omega
   have ha:at_ .str (mkS l k) i = g_Vw_markText_0 k' := ha
   unfold MK at hb
   have t := markText_f k' ⟨h0,by unfold MK; omega⟩
   simp only [g_Sw_heldStringS_0,RT.sel,cond_true,k1,k2,decide_true,and_self,Int.toNat_natCast,ha,t,BEq.rfl,Bool.not_true,cond_false,wrapM (x := k' + 1) (by omega),wrapM (x := (i:Int) + 1) (by omega)]
   congr 1) (fun k' => by
    have hlen:(mkS l k).length = l.length := mkL_len _ _ _ _
    simp only [g_Sw_heldStringS_0,RT.sel,cond_true,hlen,Int.lt_irrefl,decide_false,cond_false]) h.1 (by rw [sumC_one]; exact h.2)
  rw [sumC_one] at this
  exact this
 simp only [g_Aw_heldStringS,g_Vw_heldStringS_0,L,okO,valO,Option.isSome_some,Option.getD_some,isL,getR,cond_false,and_self]
theorem heldStoWriteS_f (l:List (ByteArray×Bool×List Int)) (k:Int) (hl:l.length ≤ 1048576) (hit:∀ x ∈ l,x.2.2.length ≤ 1048576) (h:0 ≤ k ∧ k + (sumC cW l:Nat) ≤ MK):g_Aw_heldStoWriteS (mkW l k) k = true ∧ g_Vw_heldStoWriteS_0 (mkW l k) k = k + (sumC cW l:Nat) := by
 have L:g_Lw_heldStoWriteS_0 (mkW l k) (k,0) = some (.inr (k + (sumC cW l:Nat))) := by
  refine held_loop (e := WM_) (step := g_Sw_heldStoWriteS_0 (mkW l k)) mW cW l MK (fun k => .inr k) k (fun i k' hi ha h0 hb => ?_) (fun k' => by
    have hlen:(mkW l k).length = l.length := mkL_len _ _ _ _
    simp only [g_Sw_heldStoWriteS_0,RT.sel,cond_true,hlen,Int.lt_irrefl,decide_false,cond_false]) h.1 h.2
  have hlen:(mkW l k).length = l.length := mkL_len _ _ _ _
  have k1:(i:Int) < (mkW l k).length := by omega
  have k2:(0:Int) ≤ (i:Int) := by omega
  have ha:at_ (.pair .str (.pair .bool (.sl 3 (.int .i64)))) (mkW l k) i = mW (at_ WM_ l i) k' := ha
  have hx := hit _ (at_mem (e := WM_) hi)
  simp only [cW] at hb
  unfold MK at hb
  have t := markText_f k' ⟨h0,by unfold MK; omega⟩
  obtain ⟨a1,a2⟩ := heldIntS_f (at_ WM_ l i).2.2 (k' + 2) hx ⟨by omega,by unfold MK; omega⟩
  have e2:k' + 1 + 1 = k' + 2 := by omega
  have n1:¬ (k' + 2 + ((at_ WM_ l i).2.2.length:Int) < 0) := by omega
  simp only [g_Sw_heldStoWriteS_0,RT.sel,cond_true,k1,k2,decide_true,and_self,Int.toNat_natCast,ha,mW,t,BEq.rfl,bne_self_eq_false,Bool.not_true,cond_false,wrapM (x := k' + 1) (by omega),e2,wrapM (x := k' + 2) (by omega),a1,a2,decide_eq_false n1,wrapM (x := (i:Int) + 1) (by omega)]
  simp only [cW]
  congr 2
  omega
 simp only [g_Aw_heldStoWriteS,g_Vw_heldStoWriteS_0,L,okO,valO,Option.isSome_some,Option.getD_some,isL,getR,cond_false,and_self]
theorem heldLogNoteS_f (l:List Note) (k:Int) (hl:l.length ≤ 1048576) (hit:∀ x ∈ l,smallN x) (h:0 ≤ k ∧ k + (sumC cN l:Nat) ≤ MK):g_Aw_heldLogNoteS (mkN l k) k = true ∧ g_Vw_heldLogNoteS_0 (mkN l k) k = k + (sumC cN l:Nat) := by
 have L:g_Lw_heldLogNoteS_0 (mkN l k) (k,0) = some (.inr (k + (sumC cN l:Nat))) := by
  refine held_loop (e := NI_) (step := g_Sw_heldLogNoteS_0 (mkN l k)) mN cN l MK (fun k => .inr k) k (fun i k' hi ha h0 hb => ?_) (fun k' => by
    have hlen:(mkN l k).length = l.length := mkL_len _ _ _ _
    simp only [g_Sw_heldLogNoteS_0,RT.sel,cond_true,hlen,Int.lt_irrefl,decide_false,cond_false]) h.1 h.2
  have hlen:(mkN l k).length = l.length := mkL_len _ _ _ _
  have k1:(i:Int) < (mkN l k).length := by omega
  have k2:(0:Int) ≤ (i:Int) := by omega
  have ha:at_ NI_ (mkN l k) i = mN (at_ NI_ l i) k' := ha
  obtain ⟨x1,x2,x3⟩ := hit _ (at_mem (e := NI_) hi)
  simp only [cN] at hb
  unfold MK at hb
  obtain ⟨a1,a2⟩ := heldStringS_f (at_ NI_ l i).2.2.1 (k' + 2) x1 ⟨by omega,by unfold MK; omega⟩
  obtain ⟨b1,b2⟩ := heldStoWriteS_f (at_ NI_ l i).2.2.2 (k' + 2 + ((at_ NI_ l i).2.2.1.length:Nat)) x2 x3 ⟨by omega,by unfold MK; omega⟩
  have e2:k' + 1 + 1 = k' + 2 := by omega
  have n1:¬ (k' + 2 + ((at_ NI_ l i).2.2.1.length:Int) < 0) := by omega
  have n2:¬ (k' + 2 + ((at_ NI_ l i).2.2.1.length:Int) + (sumC cW (at_ NI_ l i).2.2.2:Nat) < 0) := by omega
  simp only [g_Sw_heldLogNoteS_0,RT.sel,cond_true,k1,k2,decide_true,and_self,Int.toNat_natCast,ha,mN,BEq.rfl,bne_self_eq_false,Bool.not_true,cond_false,wrapM (x := k' + 1) (by omega),e2,wrapM (x := k' + 2) (by omega),a1,a2,b1,b2,decide_eq_false n1,decide_eq_false n2,wrapM (x := (i:Int) + 1) (by omega)]
  simp only [cN]
  congr 2
  omega
 simp only [g_Aw_heldLogNoteS,g_Vw_heldLogNoteS_0,L,okO,valO,Option.isSome_some,Option.getD_some,isL,getR,cond_false,and_self]
abbrev OP_:Ty := .pair (.int .i64) (.pair (.int .i64) (.pair (.int .i64) (.pair (.int .i64) (.pair (.int .i64) (.pair (.int .i64) (.int .i64))))))
abbrev Op_:Type := Int×Int×Int×Int×Int×Int×Int
abbrev FT_:Ty := .pair (.int .i64) (.pair OP_ (.pair .bool (.pair (.sl 3 (.int .i64)) (.sl 3 (.int .i64)))))
abbrev FTx:Type := Int×Op_×Bool×List Int×List Int
def smallT (x:FTx):Prop := x.2.2.2.1.length ≤ 1048576 ∧ x.2.2.2.2.length ≤ 1048576
theorem eqFroTx_self (x:FTx) (h:smallT x):g_Aw_eqFroTx x.1 x.2.1.1 x.2.1.2.1 x.2.1.2.2.1 x.2.1.2.2.2.1 x.2.1.2.2.2.2.1 x.2.1.2.2.2.2.2.1 x.2.1.2.2.2.2.2.2 x.2.2.1 x.2.2.2.1 x.2.2.2.2 x.1 x.2.1.1 x.2.1.2.1 x.2.1.2.2.1 x.2.1.2.2.2.1 x.2.1.2.2.2.2.1 x.2.1.2.2.2.2.2.1 x.2.1.2.2.2.2.2.2 x.2.2.1 x.2.2.2.1 x.2.2.2.2 = true ∧
  g_Vw_eqFroTx_0 x.1 x.2.1.1 x.2.1.2.1 x.2.1.2.2.1 x.2.1.2.2.2.1 x.2.1.2.2.2.2.1 x.2.1.2.2.2.2.2.1 x.2.1.2.2.2.2.2.2 x.2.2.1 x.2.2.2.1 x.2.2.2.2 x.1 x.2.1.1 x.2.1.2.1 x.2.1.2.2.1 x.2.1.2.2.2.1 x.2.1.2.2.2.2.1 x.2.1.2.2.2.2.2.1 x.2.1.2.2.2.2.2.2 x.2.2.1 x.2.2.2.1 x.2.2.2.2 = true := by
 obtain ⟨p1,p2⟩ := eqIntS_self x.2.2.2.1 h.1
 obtain ⟨q1,q2⟩ := eqIntS_self x.2.2.2.2 h.2
 simp [g_Aw_eqFroTx,g_Vw_eqFroTx_0,g_Aw_eqOpOp,g_Vw_eqOpOp_0,p1,p2,q1,q2]
theorem eqFroTxS_self (l:List FTx) (hl:l.length ≤ 1048576) (hit:∀ x ∈ l,smallT x):g_Aw_eqFroTxS l l = true ∧ g_Vw_eqFroTxS_0 l l = true := by
 have h:g_Lw_eqFroTxS_0 l l 0 = some (.inr ()) := by
  have := loop_all (step := g_Sw_eqFroTxS_0 l l) (fun i:Nat => (i:Int)) (fun _ => true) (.inl false) (.inr ()) l.length (fun i hi => by
   have k1:(i:Int) < l.length := by omega
   have k2:(0:Int) ≤ (i:Int) := by omega
   have hw:IntKind.wrap .i64 ((i:Int) + 1) = ((i + 1:Nat):Int) := by rw [wrap64 (by omega)]; omega
   obtain ⟨q1,q2⟩ := eqFroTx_self _ (hit _ (at_mem (e := FT_) hi))
   simp only [g_Sw_eqFroTxS_0,RT.sel,cond_true,k1,k2,hw,decide_true,and_self,Int.toNat_natCast,q1,q2,Bool.not_true,cond_false]) (by simp [g_Sw_eqFroTxS_0,RT.sel])
  rw [show (List.range l.length).all (fun _ => true) = true by simp] at this
  exact this
 simp [g_Aw_eqFroTxS,g_Vw_eqFroTxS_0,h,okO,valO,isL]
theorem eqFroState_self (l:List Note) (safe:Int) (w:List FTx) (hl:l.length ≤ 1048576) (hit:∀ x ∈ l,smallN x) (hw:w.length ≤ 1048576) (hiw:∀ x ∈ w,smallT x):g_Aw_eqFroState l safe w l safe w = true ∧ g_Vw_eqFroState_0 l safe w l safe w = true := by
 obtain ⟨a,b⟩ := eqLogDisk_self l safe hl hit
 obtain ⟨c,d⟩ := eqFroTxS_self w hw hiw
 simp [g_Aw_eqFroState,g_Vw_eqFroState_0,a,b,c,d]
abbrev mF (x:FTx) (k:Int):FTx := (k,(k + 1,k + 2,k + 3,k + 4,k + 5,k + 6,k + 7),Int.tmod (k + 8) 3 == 0,mkI x.2.2.2.1 (k + 9),mkI x.2.2.2.2 (k + 9 + x.2.2.2.1.length))
abbrev cF (x:FTx):Nat := 9 + x.2.2.2.1.length + x.2.2.2.2.length
abbrev mkF (l:List FTx) (k:Int):List FTx := mkL mF cF l k
theorem markFroTxS_f (l:List FTx) (k:Int) (hl:l.length ≤ 1048576) (hit:∀ x ∈ l,smallT x) (h:0 ≤ k ∧ k + (sumC cF l:Nat) ≤ MK):g_Aw_markFroTxS l k = true ∧ g_Vw_markFroTxS_0 l k = k + (sumC cF l:Nat) ∧ g_Vw_markFroTxS_1 l k = mkF l k := by
 have L:g_Lw_markFroTxS_0 (l,k,0) = some (mkL mF cF l k,k + (sumC cF l:Nat)) := by
  refine mark_loop (e := FT_) (step := g_Sw_markFroTxS_0) mF cF l MK (fun i r k hi hr ha h0 hb => ?_) (fun r k hr => by simp only [g_Sw_markFroTxS_0,RT.sel,cond_true,hr,Int.lt_irrefl,decide_false,cond_false]) k h.1 h.2
  have k1:(i:Int) < r.length := by omega
  have k2:(0:Int) ≤ (i:Int) := by omega
  have k3:i < r.length := by omega
  have ha:at_ FT_ r i = at_ FT_ l i := ha
  obtain ⟨x1,x2⟩ := hit _ (at_mem (e := FT_) hi)
  simp only [cF] at hb
  unfold MK at hb
  have w1:IntKind.wrap .i64 (k + 1) = k + 1 := wrapM (by omega)
  have w2:IntKind.wrap .i64 (k + 1 + 1) = k + 2 := by rw [wrapM (by omega)]; omega
  have w3:IntKind.wrap .i64 (k + 2 + 1) = k + 3 := by rw [wrapM (by omega)]; omega
  have w4:IntKind.wrap .i64 (k + 3 + 1) = k + 4 := by rw [wrapM (by omega)]; omega
  have w5:IntKind.wrap .i64 (k + 4 + 1) = k + 5 := by rw [wrapM (by omega)]; omega
  have w6:IntKind.wrap .i64 (k + 5 + 1) = k + 6 := by rw [wrapM (by omega)]; omega
  have w7:IntKind.wrap .i64 (k + 6 + 1) = k + 7 := by rw [wrapM (by omega)]; omega
  have w8:IntKind.wrap .i64 (k + 7 + 1) = k + 8 := by rw [wrapM (by omega)]; omega
  have w9:IntKind.wrap .i64 (k + 8 + 1) = k + 9 := by rw [wrapM (by omega)]; omega
  obtain ⟨a1,a2,a3⟩ := markIntS_f (at_ FT_ l i).2.2.2.1 (k + 9) x1 ⟨by omega,by unfold MK; omega⟩
  obtain ⟨b1,b2,b3⟩ := markIntS_f (at_ FT_ l i).2.2.2.2 (k + 9 + (at_ FT_ l i).2.2.2.1.length) x2 ⟨by omega,by unfold MK; omega⟩
  have at_set':∀ x:FTx,at_ FT_ (r.set i x) i = x := fun x => at_set (e := FT_) k3
  simp only [g_Sw_markFroTxS_0,updE,RT.sel,cond_true,k1,k2,k3,decide_true,and_self,Int.toNat_natCast,List.length_set,at_set',ha,w1,w2,w3,w4,w5,w6,w7,w8,w9,a1,a2,a3,b1,b2,b3,List.set_set,wrapM (x := (i:Int) + 1) (by omega)]
  simp only [cF]
  congr 3
  omega
 simp only [g_Aw_markFroTxS,g_Vw_markFroTxS_0,g_Vw_markFroTxS_1,L,okO,valO,Option.isSome_some,Option.getD_some,and_self]
theorem heldFroTxS_f (l:List FTx) (k:Int) (hl:l.length ≤ 1048576) (hit:∀ x ∈ l,smallT x) (h:0 ≤ k ∧ k + (sumC cF l:Nat) ≤ MK):g_Aw_heldFroTxS (mkF l k) k = true ∧ g_Vw_heldFroTxS_0 (mkF l k) k = k + (sumC cF l:Nat) := by
 have L:g_Lw_heldFroTxS_0 (mkF l k) (k,0) = some (.inr (k + (sumC cF l:Nat))) := by
  refine held_loop (e := FT_) (step := g_Sw_heldFroTxS_0 (mkF l k)) mF cF l MK (fun k => .inr k) k (fun i k' hi ha h0 hb => ?_) (fun k' => by
    have hlen:(mkF l k).length = l.length := mkL_len _ _ _ _
    simp only [g_Sw_heldFroTxS_0,RT.sel,cond_true,hlen,Int.lt_irrefl,decide_false,cond_false]) h.1 h.2
  have hlen:(mkF l k).length = l.length := mkL_len _ _ _ _
  have k1:(i:Int) < (mkF l k).length := by omega
  have k2:(0:Int) ≤ (i:Int) := by omega
  have ha:at_ FT_ (mkF l k) i = mF (at_ FT_ l i) k' := ha
  obtain ⟨x1,x2⟩ := hit _ (at_mem (e := FT_) hi)
  simp only [cF] at hb
  unfold MK at hb
  have w1:IntKind.wrap .i64 (k' + 1) = k' + 1 := wrapM (by omega)
  have w2:IntKind.wrap .i64 (k' + 1 + 1) = k' + 2 := by rw [wrapM (by omega)]; omega
  have w3:IntKind.wrap .i64 (k' + 2 + 1) = k' + 3 := by rw [wrapM (by omega)]; omega
  have w4:IntKind.wrap .i64 (k' + 3 + 1) = k' + 4 := by rw [wrapM (by omega)]; omega
  have w5:IntKind.wrap .i64 (k' + 4 + 1) = k' + 5 := by rw [wrapM (by omega)]; omega
  have w6:IntKind.wrap .i64 (k' + 5 + 1) = k' + 6 := by rw [wrapM (by omega)]; omega
  have w7:IntKind.wrap .i64 (k' + 6 + 1) = k' + 7 := by rw [wrapM (by omega)]; omega
  have w8:IntKind.wrap .i64 (k' + 7 + 1) = k' + 8 := by rw [wrapM (by omega)]; omega
  have w9:IntKind.wrap .i64 (k' + 8 + 1) = k' + 9 := by rw [wrapM (by omega)]; omega
  obtain ⟨a1,a2⟩ := heldIntS_f (at_ FT_ l i).2.2.2.1 (k' + 9) x1 ⟨by omega,by unfold MK; omega⟩
  obtain ⟨b1,b2⟩ := heldIntS_f (at_ FT_ l i).2.2.2.2 (k' + 9 + (at_ FT_ l i).2.2.2.1.length) x2 ⟨by omega,by unfold MK; omega⟩
  have n1:¬ (k' + 9 + ((at_ FT_ l i).2.2.2.1.length:Int) < 0) := by omega
  have n2:¬ (k' + 9 + ((at_ FT_ l i).2.2.2.1.length:Int) + ((at_ FT_ l i).2.2.2.2.length:Int) < 0) := by omega
  simp only [g_Sw_heldFroTxS_0,RT.sel,cond_true,k1,k2,decide_true,and_self,Int.toNat_natCast,ha,mF,BEq.rfl,bne_self_eq_false,Bool.not_true,cond_false,w1,w2,w3,w4,w5,w6,w7,w8,w9,a1,a2,b1,b2,decide_eq_false n1,decide_eq_false n2,wrapM (x := (i:Int) + 1) (by omega)]
  simp only [cF]
  congr 2
  omega
 simp only [g_Aw_heldFroTxS,g_Vw_heldFroTxS_0,L,okO,valO,Option.isSome_some,Option.getD_some,isL,getR,cond_false,and_self]
abbrev Msg:Type := Int×Int×Int×Int×Int×Int×Int×Int×Int×Int×Int
abbrev MI_:Ty := .pair (.int .i64) (.pair (.int .i64) (.pair (.int .i64) (.pair (.int .i64) (.pair (.int .i64) (.pair (.int .i64) (.pair (.int .i64) (.pair (.int .i64) (.pair (.int .i64) (.pair (.int .i64) (.int .i64))))))))))
abbrev mM (_:Msg) (k:Int):Msg := (k,k + 1,k + 2,k + 3,k + 4,k + 5,k + 6,k + 7,k + 8,k + 9,k + 10)
abbrev mkM (l:List Msg) (k:Int):List Msg := mkL mM (fun _ => 11) l k
theorem sumC_11:∀ (l:List Msg),sumC (fun _ => 11) l = 11 * l.length
 | [] => rfl
 | x :: l => by rw [sumC_cons,sumC_11 l,List.length_cons]; omega
theorem markMsgMsgS_f (l:List Msg) (k:Int) (hl:l.length ≤ 1048576) (h:0 ≤ k ∧ k + (11 * l.length:Nat) ≤ MK):g_Aw_markMsgMsgS l k = true ∧ g_Vw_markMsgMsgS_0 l k = k + (11 * l.length:Nat) ∧ g_Vw_markMsgMsgS_1 l k = mkM l k := by
 have L:g_Lw_markMsgMsgS_0 (l,k,0) = some (mkL mM (fun _ => 11) l k,k + (sumC (fun _ => 11) l:Nat)) := by
  refine mark_loop (e := MI_) (step := g_Sw_markMsgMsgS_0) mM (fun _ => 11) l MK (fun i r k hi hr ha h0 hb => ?_) (fun r k hr => by simp only [g_Sw_markMsgMsgS_0,RT.sel,cond_true,hr,Int.lt_irrefl,decide_false,cond_false]) k h.1 (by rw [sumC_11]; exact h.2)
  have k1:(i:Int) < r.length := by omega
  have k2:(0:Int) ≤ (i:Int) := by omega
  have k3:i < r.length := by omega
  unfold MK at hb
  have w1:IntKind.wrap .i64 (k + 1) = k + 1 := wrapM (by omega)
  have w2:IntKind.wrap .i64 (k + 1 + 1) = k + 2 := by rw [wrapM (by omega)]; omega
  have w3:IntKind.wrap .i64 (k + 2 + 1) = k + 3 := by rw [wrapM (by omega)]; omega
  have w4:IntKind.wrap .i64 (k + 3 + 1) = k + 4 := by rw [wrapM (by omega)]; omega
  have w5:IntKind.wrap .i64 (k + 4 + 1) = k + 5 := by rw [wrapM (by omega)]; omega
  have w6:IntKind.wrap .i64 (k + 5 + 1) = k + 6 := by rw [wrapM (by omega)]; omega
  have w7:IntKind.wrap .i64 (k + 6 + 1) = k + 7 := by rw [wrapM (by omega)]; omega
  have w8:IntKind.wrap .i64 (k + 7 + 1) = k + 8 := by rw [wrapM (by omega)]; omega
  have w9:IntKind.wrap .i64 (k + 8 + 1) = k + 9 := by rw [wrapM (by omega)]; omega
  have w10:IntKind.wrap .i64 (k + 9 + 1) = k + 10 := by rw [wrapM (by omega)]; omega
  have w11:IntKind.wrap .i64 (k + 10 + 1) = k + 11 := by rw [wrapM (by omega)]; omega
  have hw:IntKind.wrap .i64 ((i:Int) + 1) = ((i + 1:Nat):Int) := by rw [wrap64 (by omega)]; omega
  have at_set':∀ x:Msg,at_ MI_ (r.set i x) i = x := fun x => at_set (e := MI_) k3
  simp only [g_Sw_markMsgMsgS_0,updE,RT.sel,cond_true,k1,k2,k3,decide_true,and_self,Int.toNat_natCast,List.length_set,at_set',List.set_set,w1,w2,w3,w4,w5,w6,w7,w8,w9,w10,w11,hw]
  rfl
 rw [sumC_11] at L
 simp only [g_Aw_markMsgMsgS,g_Vw_markMsgMsgS_0,g_Vw_markMsgMsgS_1,L,okO,valO,Option.isSome_some,Option.getD_some,and_self]
theorem heldMsgMsgS_f (l:List Msg) (k:Int) (hl:l.length ≤ 1048576) (h:0 ≤ k ∧ k + (11 * l.length:Nat) ≤ MK):g_Aw_heldMsgMsgS (mkM l k) k = true ∧ g_Vw_heldMsgMsgS_0 (mkM l k) k = k + (11 * l.length:Nat) := by
 have L:g_Lw_heldMsgMsgS_0 (mkM l k) (k,0) = some (.inr (k + (sumC (fun _ => 11) l:Nat))) := by
  refine held_loop (e := MI_) (step := g_Sw_heldMsgMsgS_0 (mkM l k)) mM (fun _ => 11) l MK (fun k => .inr k) k (fun i k' hi ha h0 hb => ?_) (fun k' => by
    have hlen:(mkM l k).length = l.length := mkL_len _ _ _ _
    simp only [g_Sw_heldMsgMsgS_0,RT.sel,cond_true,hlen,Int.lt_irrefl,decide_false,cond_false]) h.1 (by rw [sumC_11]; exact h.2)
  have hlen:(mkM l k).length = l.length := mkL_len _ _ _ _
  have k1:(i:Int) < (mkM l k).length := by omega
  have k2:(0:Int) ≤ (i:Int) := by omega
  have ha:at_ MI_ (mkM l k) i = mM (at_ MI_ l i) k' := ha
  unfold MK at hb
  have w1:IntKind.wrap .i64 (k' + 1) = k' + 1 := wrapM (by omega)
  have w2:IntKind.wrap .i64 (k' + 1 + 1) = k' + 2 := by rw [wrapM (by omega)]; omega
  have w3:IntKind.wrap .i64 (k' + 2 + 1) = k' + 3 := by rw [wrapM (by omega)]; omega
  have w4:IntKind.wrap .i64 (k' + 3 + 1) = k' + 4 := by rw [wrapM (by omega)]; omega
  have w5:IntKind.wrap .i64 (k' + 4 + 1) = k' + 5 := by rw [wrapM (by omega)]; omega
  have w6:IntKind.wrap .i64 (k' + 5 + 1) = k' + 6 := by rw [wrapM (by omega)]; omega
  have w7:IntKind.wrap .i64 (k' + 6 + 1) = k' + 7 := by rw [wrapM (by omega)]; omega
  have w8:IntKind.wrap .i64 (k' + 7 + 1) = k' + 8 := by rw [wrapM (by omega)]; omega
  have w9:IntKind.wrap .i64 (k' + 8 + 1) = k' + 9 := by rw [wrapM (by omega)]; omega
  have w10:IntKind.wrap .i64 (k' + 9 + 1) = k' + 10 := by rw [wrapM (by omega)]; omega
  have w11:IntKind.wrap .i64 (k' + 10 + 1) = k' + 11 := by rw [wrapM (by omega)]; omega
  have hw:IntKind.wrap .i64 ((i:Int) + 1) = ((i + 1:Nat):Int) := by rw [wrap64 (by omega)]; omega
  simp only [g_Sw_heldMsgMsgS_0,RT.sel,cond_true,k1,k2,decide_true,and_self,Int.toNat_natCast,ha,mM,w1,w2,w3,w4,w5,w6,w7,w8,w9,w10,w11,hw,bne_self_eq_false,cond_false]
  rfl
 rw [sumC_11] at L
 simp only [g_Aw_heldMsgMsgS,g_Vw_heldMsgMsgS_0,L,okO,valO,Option.isSome_some,Option.getD_some,isL,getR,cond_false,and_self]
theorem eqMsgMsgS_self (l:List Msg) (hl:l.length ≤ 1048576):g_Aw_eqMsgMsgS l l = true ∧ g_Vw_eqMsgMsgS_0 l l = true := by
 have h:g_Lw_eqMsgMsgS_0 l l 0 = some (.inr ()) := by
  have := loop_all (step := g_Sw_eqMsgMsgS_0 l l) (fun i:Nat => (i:Int)) (fun _ => true) (.inl false) (.inr ()) l.length (fun i hi => by
   have k1:(i:Int) < l.length := by omega
   have k2:(0:Int) ≤ (i:Int) := by omega
   have hw:IntKind.wrap .i64 ((i:Int) + 1) = ((i + 1:Nat):Int) := by rw [wrap64 (by omega)]; omega
   simp only [g_Sw_eqMsgMsgS_0,RT.sel,cond_true,k1,k2,hw,decide_true,and_self,Int.toNat_natCast,g_Aw_eqMsgMsg,g_Vw_eqMsgMsg_0,g_Aw_eqOpOp,g_Vw_eqOpOp_0,bne_self_eq_false,cond_false,Bool.false_or,Bool.not_true]) (by simp [g_Sw_eqMsgMsgS_0,RT.sel])
  rw [show (List.range l.length).all (fun _ => true) = true by simp] at this
  exact this
 simp [g_Aw_eqMsgMsgS,g_Vw_eqMsgMsgS_0,h,okO,valO,isL]
theorem mN0 (k:Int) (h:0 ≤ k ∧ k ≤ 100):g_Aw_markLogNoteS [] k = true ∧ g_Vw_markLogNoteS_0 [] k = k ∧ g_Vw_markLogNoteS_1 [] k = [] := by
 obtain ⟨a,b,c⟩ := markLogNoteS_f [] k (by simp) (by simp) ⟨h.1,by unfold MK; simp [sumC]; omega⟩
 exact ⟨a,by rw [b]; simp [sumC],c⟩
theorem hN0 (k:Int) (h:0 ≤ k ∧ k ≤ 100):g_Aw_heldLogNoteS [] k = true ∧ g_Vw_heldLogNoteS_0 [] k = k := by
 obtain ⟨a,b⟩ := heldLogNoteS_f [] k (by simp) (by simp) ⟨h.1,by unfold MK; simp [sumC]; omega⟩
 exact ⟨a,by have:g_Vw_heldLogNoteS_0 [] k = _ := b; rw [this]; simp [sumC]⟩
theorem mF0 (k:Int) (h:0 ≤ k ∧ k ≤ 100):g_Aw_markFroTxS [] k = true ∧ g_Vw_markFroTxS_0 [] k = k ∧ g_Vw_markFroTxS_1 [] k = [] := by
 obtain ⟨a,b,c⟩ := markFroTxS_f [] k (by simp) (by simp) ⟨h.1,by unfold MK; simp [sumC]; omega⟩
 exact ⟨a,by rw [b]; simp [sumC],c⟩
theorem hF0 (k:Int) (h:0 ≤ k ∧ k ≤ 100):g_Aw_heldFroTxS [] k = true ∧ g_Vw_heldFroTxS_0 [] k = k := by
 obtain ⟨a,b⟩ := heldFroTxS_f [] k (by simp) (by simp) ⟨h.1,by unfold MK; simp [sumC]; omega⟩
 exact ⟨a,by have:g_Vw_heldFroTxS_0 [] k = _ := b; rw [this]; simp [sumC]⟩
theorem mM0 (k:Int) (h:0 ≤ k ∧ k ≤ 100):g_Aw_markMsgMsgS [] k = true ∧ g_Vw_markMsgMsgS_0 [] k = k ∧ g_Vw_markMsgMsgS_1 [] k = [] := by
 obtain ⟨a,b,c⟩ := markMsgMsgS_f [] k (by simp) ⟨h.1,by unfold MK; simp; omega⟩
 exact ⟨a,by rw [b]; simp,c⟩
theorem hM0 (k:Int) (h:0 ≤ k ∧ k ≤ 100):g_Aw_heldMsgMsgS [] k = true ∧ g_Vw_heldMsgMsgS_0 [] k = k := by
 obtain ⟨a,b⟩ := heldMsgMsgS_f [] k (by simp) ⟨h.1,by unfold MK; simp; omega⟩
 exact ⟨a,by have:g_Vw_heldMsgMsgS_0 [] k = _ := b; rw [this]; simp⟩
theorem mO0 (k:Int):g_Aw_markOpOpS [] k = true ∧ g_Vw_markOpOpS_0 [] k = k ∧ g_Vw_markOpOpS_1 [] k = [] := by
 have L:g_Lw_markOpOpS_0 ([],k,0) = some ([],k) := by
  unfold g_Lw_markOpOpS_0
  rw [loopO_eq]
  simp [g_Sw_markOpOpS_0,RT.sel]
 simp [g_Aw_markOpOpS,g_Vw_markOpOpS_0,g_Vw_markOpOpS_1,L,okO,valO]
theorem hO0 (k:Int):g_Aw_heldOpOpS [] k = true ∧ g_Vw_heldOpOpS_0 [] k = k := by
 have L:g_Lw_heldOpOpS_0 [] (k,0) = some (.inr k) := by
  unfold g_Lw_heldOpOpS_0
  rw [loopO_eq]
  simp [g_Sw_heldOpOpS_0,RT.sel]
 simp [g_Aw_heldOpOpS,g_Vw_heldOpOpS_0,L,okO,valO,isL,getR]
theorem mQ0 (k:Int):g_Aw_markFroOutS [] k = true ∧ g_Vw_markFroOutS_0 [] k = k ∧ g_Vw_markFroOutS_1 [] k = [] := by
 have L:g_Lw_markFroOutS_0 ([],k,0) = some ([],k) := by
  unfold g_Lw_markFroOutS_0
  rw [loopO_eq]
  simp [g_Sw_markFroOutS_0,RT.sel]
 simp [g_Aw_markFroOutS,g_Vw_markFroOutS_0,g_Vw_markFroOutS_1,L,okO,valO]
theorem hQ0 (k:Int):g_Aw_heldFroOutS [] k = true ∧ g_Vw_heldFroOutS_0 [] k = k := by
 have L:g_Lw_heldFroOutS_0 [] (k,0) = some (.inr k) := by
  unfold g_Lw_heldFroOutS_0
  rw [loopO_eq]
  simp [g_Sw_heldFroOutS_0,RT.sel]
 simp [g_Aw_heldFroOutS,g_Vw_heldFroOutS_0,L,okO,valO,isL,getR]
abbrev D0:List (List Note×Int) := [([],0),([],0),([],0)]
abbrev D1:List (List Note×Int) := [([],1),([],2),([],3)]
theorem wr2:IntKind.wrap .i64 2 = 2 := by decide
theorem wr3:IntKind.wrap .i64 3 = 3 := by decide
theorem wr4:IntKind.wrap .i64 4 = 4 := by decide
theorem wr1:IntKind.wrap .i64 1 = 1 := by decide
theorem mD0:g_Aw_markLogDiskS D0 1 = true ∧ g_Vw_markLogDiskS_0 D0 1 = 4 ∧ g_Vw_markLogDiskS_1 D0 1 = D1 := by
 have L:g_Lw_markLogDiskS_0 (D0,1,0) = some (D1,4) := by
  unfold g_Lw_markLogDiskS_0
  have e1:(g_Sw_markLogDiskS_0 (D0,1,0)).sel = .go ([([],1),([],0),([],0)],2,1) := by simp [g_Sw_markLogDiskS_0,updE,RT.sel,at_,mN0,wr1,wr2]
  have e2:(g_Sw_markLogDiskS_0 ([([],1),([],0),([],0)],2,1)).sel = .go ([([],1),([],2),([],0)],3,2) := by simp [g_Sw_markLogDiskS_0,updE,RT.sel,at_,mN0,wr2,wr3]
  have e3:(g_Sw_markLogDiskS_0 ([([],1),([],2),([],0)],3,2)).sel = .go (D1,4,3) := by simp [g_Sw_markLogDiskS_0,updE,RT.sel,at_,mN0,wr3,wr4]
  have e4:(g_Sw_markLogDiskS_0 (D1,4,3)).sel = .out (D1,4) := by simp [g_Sw_markLogDiskS_0,RT.sel]
  rw [loopO_eq,e1]
  show loopO _ _ = _
  rw [loopO_eq,e2]
  show loopO _ _ = _
  rw [loopO_eq,e3]
  show loopO _ _ = _
  rw [loopO_eq,e4]
 simp [g_Aw_markLogDiskS,g_Vw_markLogDiskS_0,g_Vw_markLogDiskS_1,L,okO,valO]
theorem hD0:g_Aw_heldLogDiskS D1 1 = true ∧ g_Vw_heldLogDiskS_0 D1 1 = 4 := by
 have L:g_Lw_heldLogDiskS_0 D1 (1,0) = some (.inr 4) := by
  unfold g_Lw_heldLogDiskS_0
  have e1:(g_Sw_heldLogDiskS_0 D1 (1,0)).sel = .go (2,1) := by simp [g_Sw_heldLogDiskS_0,RT.sel,at_,hN0,wr1,wr2]
  have e2:(g_Sw_heldLogDiskS_0 D1 (2,1)).sel = .go (3,2) := by simp [g_Sw_heldLogDiskS_0,RT.sel,at_,hN0,wr2,wr3]
  have e3:(g_Sw_heldLogDiskS_0 D1 (3,2)).sel = .go (4,3) := by simp [g_Sw_heldLogDiskS_0,RT.sel,at_,hN0,wr3,wr4]
  have e4:(g_Sw_heldLogDiskS_0 D1 (4,3)).sel = .out (.inr 4) := by simp [g_Sw_heldLogDiskS_0,RT.sel]
  rw [loopO_eq,e1]
  show loopO _ _ = _
  rw [loopO_eq,e2]
  show loopO _ _ = _
  rw [loopO_eq,e3]
  show loopO _ _ = _
  rw [loopO_eq,e4]
 simp [g_Aw_heldLogDiskS,g_Vw_heldLogDiskS_0,L,okO,valO,isL,getR]
theorem eD0:g_Aw_eqLogDiskS D0 D0 = true ∧ g_Vw_eqLogDiskS_0 D0 D0 = true := by
 obtain ⟨q1,q2⟩ := eqLogDisk_self [] 0 (by simp) (by simp)
 have L:g_Lw_eqLogDiskS_0 D0 D0 0 = some (.inr ()) := by
  unfold g_Lw_eqLogDiskS_0
  have e1:(g_Sw_eqLogDiskS_0 D0 D0 0).sel = .go 1 := by simp [g_Sw_eqLogDiskS_0,RT.sel,at_,q1,q2,wr1]
  have e2:(g_Sw_eqLogDiskS_0 D0 D0 1).sel = .go 2 := by simp [g_Sw_eqLogDiskS_0,RT.sel,at_,q1,q2,wr2]
  have e3:(g_Sw_eqLogDiskS_0 D0 D0 2).sel = .go 3 := by simp [g_Sw_eqLogDiskS_0,RT.sel,at_,q1,q2,wr3]
  have e4:(g_Sw_eqLogDiskS_0 D0 D0 3).sel = .out (.inr ()) := by simp [g_Sw_eqLogDiskS_0,RT.sel]
  rw [loopO_eq,e1]
  show loopO _ _ = _
  rw [loopO_eq,e2]
  show loopO _ _ = _
  rw [loopO_eq,e3]
  show loopO _ _ = _
  rw [loopO_eq,e4]
 simp [g_Aw_eqLogDiskS,g_Vw_eqLogDiskS_0,L,okO,valO,isL]
theorem eW0:g_Aw_eqWldWorld [] 0 [] D0 [] [] [] [] 0 [] D0 [] [] [] = true ∧ g_Vw_eqWldWorld_0 [] 0 [] D0 [] [] [] [] 0 [] D0 [] [] [] = true := by
 obtain ⟨a1,a2⟩ := eqFroState_self [] 0 [] (by simp) (by simp) (by simp) (by simp)
 obtain ⟨b1,b2⟩ := eD0
 obtain ⟨c1,c2⟩ := eqMsgMsgS_self [] (by simp)
 have L1:g_Lw_eqOpOpS_0 [] [] 0 = some (.inr ()) := by
  unfold g_Lw_eqOpOpS_0
  rw [loopO_eq]
  simp [g_Sw_eqOpOpS_0,RT.sel]
 have L2:g_Lw_eqFroOutS_0 [] [] 0 = some (.inr ()) := by
  unfold g_Lw_eqFroOutS_0
  rw [loopO_eq]
  simp [g_Sw_eqFroOutS_0,RT.sel]
 simp only [g_Aw_eqWldWorld,g_Vw_eqWldWorld_0,a1,a2,b1,b2,c1,c2,g_Aw_eqOpOpS,g_Vw_eqOpOpS_0,g_Aw_eqFroOutS,g_Vw_eqFroOutS_0,L1,L2,okO,valO,isL,Option.isSome_some,Option.getD_some,bne_self_eq_false,Bool.not_true,cond_false,cond_true,Bool.or_true,Bool.true_or,Bool.false_or,Bool.and_self,Bool.or_self,and_self]
theorem pure_FnExactWldNew:Fw_FnExactWldNew [] = some (true,.val false [.bool true],[]) := by
 show some (g_Aw_FnExactWldNew,RV.val false [Cell.bool g_Vw_FnExactWldNew_0],[]) = _
 have key:g_Aw_FnExactWldNew = true ∧ g_Vw_FnExactWldNew_0 = true := by
  obtain ⟨e1,e2⟩ := eW0
  obtain ⟨d1,d2,d3⟩ := mD0
  obtain ⟨h1,h2⟩ := hD0
  obtain ⟨a1,a2,a3⟩ := mN0 1 (by omega)
  obtain ⟨a4,a5⟩ := hN0 1 (by omega)
  obtain ⟨b1,b2,b3⟩ := mF0 1 (by omega)
  obtain ⟨b4,b5⟩ := hF0 1 (by omega)
  obtain ⟨c1,c2,c3⟩ := mM0 4 (by omega)
  obtain ⟨c4,c5⟩ := hM0 4 (by omega)
  have n1:¬ ((1:Int) < 0) := by omega
  have n4:¬ ((4:Int) < 0) := by omega
  simp only [g_Aw_FnExactWldNew,g_Vw_FnExactWldNew_0,g_Vi_WldNew_0,g_Vi_WldNew_1,g_Vi_WldNew_2,g_Vi_WldNew_3,g_Vi_WldNew_4,g_Vi_WldNew_5,g_Vs_WldNew_0,g_Vs_WldNew_1,g_Vs_WldNew_2,g_Vs_WldNew_3,g_Vs_WldNew_4,g_Vs_WldNew_5,e1,e2,g_Aw_markWldWorld,g_Vw_markWldWorld_0,g_Vw_markWldWorld_1,g_Vw_markWldWorld_2,g_Vw_markWldWorld_3,g_Vw_markWldWorld_4,g_Aw_heldWldWorld,g_Vw_heldWldWorld_0,g_Aw_markFroState,g_Aw_markLogDisk,g_Aw_heldFroState,g_Vw_heldFroState_0,g_Aw_heldLogDisk,g_Vw_heldLogDisk_0,a1,a2,a3,a4,a5,b1,b2,b3,b4,b5,c1,c2,c3,c4,c5,d1,d2,d3,h1,h2,(mO0 _).1,(mO0 _).2.1,(mO0 _).2.2,(hO0 _).1,(hO0 _).2,(mQ0 _).1,(mQ0 _).2.1,(mQ0 _).2.2,(hQ0 _).1,(hQ0 _).2,decide_eq_false n1,decide_eq_false n4,bne_self_eq_false,BEq.rfl,Bool.not_true,Bool.not_false,Bool.and_self,Bool.or_true,Bool.true_or,Bool.or_self,Bool.false_or,cond_true,cond_false,and_self,Bool.true_and,Bool.and_true]
 rw [key.1,key.2]
end Go.Proofs.Ytedhpmhlmdcpbaa.E
