/- An engine of values, proved sound for the model, used for the proof: part 3. No conditions. -/
import Derived.Test.YtedhpmhlmdcpbaaGreatDoorEb
set_option linter.all false
section
namespace Go.Proofs.YtedhpmhlmdcpbaaGreatDoor.E
open Go
inductive Wk where
 | std | ro | nz | fr | sh
def wkZ:NZ → NZ
 | .nil => .may true
 | .non => .may false
 | .may b => .may b
 | .any => .any
def wkC (ro:Wk):Cell → Cell
 | .nil el e => match ro with
  | .ro => .sl .any el e []
  | .fr => .sl .any el e []
  | .sh => .own .any e.flat el e []
  | .std => .own .any true el e []
  | .nz => .own (.may true) true el e []
 | .sl z el e l => .sl (match ro with | .nz => wkZ z | _ => .any) el e l
 | .own z d el e l => match ro with
  | .fr => .sl .any el e l
  | .nz => .own (wkZ z) d el e l
  | .sh => .own .any e.flat el e l
  | _ => .own .any d el e l
 | c => c
theorem wkZ_ok {z:NZ} {v:Value} (h:zOk z v):zOk (wkZ z) v := by
 cases z with
 | nil => exact .inl ⟨h,rfl⟩
 | non => exact .inr ⟨h,rfl⟩
 | any => trivial
 | may b => exact h
def wkRV (ro:Wk):RV → RV
 | .val g cs => .val g (cs.map (wkC ro))
 | .tup us => .tup (us.map fun u => (u.1,u.2.map (wkC ro)))
def PM.ro:PM → Wk
 | .rd | .fz | .bxr => .ro
 | _ => .std
def wkArgs:List PM → List RV → List RV
 | m :: ms,y :: ys => wkRV m.ro y :: wkArgs ms ys
 | _,ys => ys
def wkRes (ro:Wk) (r:RV×List (List Cell)):RV×List (List Cell) := (wkRV ro r.1,r.2.map (·.map (wkC .std)))
theorem wkC_closed {ro:Wk} {c:Cell} (h:c.closed = true):(wkC ro c).closed = true := by
 cases c <;> first | exact h | (simp only [wkC]; split <;> rfl) | rfl
theorem rowRep_nil {w:World} {S φ:Nat → Prop} (el:Nat) (e:Ty) {z:NZ} (hz:zOk z (.slice none 0 0)):RowRep w S φ ⟨false,z,true,el,e,[]⟩ (.slice none 0 0) := by
 refine ⟨hz,?_⟩
 rw [if_neg (by simp)]
 refine ⟨[],ownR_nil _ _ _ _,fun g hg => by simp [Value.ownBlock] at hg,?_⟩
 simp only [if_true]
 exact ⟨fun _ _ => False,fun _ _ hg => hg.elim,fun _ _ _ hg => hg.elim,fun i x hx => by simp at hx⟩
theorem FRep.wk {X:Ctx} {φ:Nat → Prop} {ro:Wk} (hr:ro ≠ .fr ∧ ro ≠ .sh) {c:Cell} {v:Value} (h:FRep X φ c v):FRep X φ (wkC ro c) v := by
 cases c with
 | nil el e =>
  have h:v = .slice none 0 0 := h
  subst h
  cases ro with
  | ro => exact ⟨trivial,none,0,rfl,⟨Nat.le_refl _,fun _ => rfl⟩,fun i x hx => by simp at hx⟩
  | std => exact rowRep_nil el e trivial
  | fr => exact absurd rfl hr.1
  | sh => exact absurd rfl hr.2
  | nz => exact rowRep_nil el e (.inl ⟨rfl,rfl⟩)
 | sl z el e l => cases ro <;> first | exact ⟨trivial,h.2⟩ | exact ⟨wkZ_ok h.1,h.2⟩
 | own z d el e l => cases ro <;> first | exact absurd rfl hr.1 | exact absurd rfl hr.2 | exact ⟨trivial,h.2⟩ | exact ⟨wkZ_ok h.1,h.2⟩
 | _ => exact h
theorem FAll.wk {X:Ctx} {ψ:Nat → Nat → Prop} {ro:Wk} (hr:ro ≠ .fr ∧ ro ≠ .sh):∀ {cs:List Cell} {vs:List Value} {k:Nat},FAll X ψ k cs vs → FAll X ψ k (cs.map (wkC ro)) vs
 | [],[],_,_ => trivial
 | _ :: _,_ :: _,_,h => ⟨h.1.wk hr,FAll.wk hr h.2⟩
 | [],_ :: _,_,h => h.elim
 | _ :: _,[],_,h => h.elim
theorem BAll.wk {w:World} {S:Nat → Prop} {ψ:Nat → Nat → Prop} {ro:Wk} (hr:ro ≠ .fr ∧ ro ≠ .sh) {k:Nat} {cs:List Cell} {vs:List Value} (h:BAll w S ψ k cs vs):BAll w S ψ k (cs.map (wkC ro)) vs :=
 ⟨by
  rw [List.all_map,List.all_eq_true]
  intro c hc
  exact wkC_closed (List.all_eq_true.1 h.1 c hc),h.2.wk hr⟩
theorem BoxAt.wk {w:World} {S:Nat → Prop} {ψ:Nat → Nat → Prop} {ro:Wk} (hr:ro ≠ .fr ∧ ro ≠ .sh) {cs:List Cell} {ad:Addr} (h:BoxAt w S ψ cs ad):BoxAt w S ψ (cs.map (wkC ro)) ad := by
 obtain ⟨h1,vs,h2,h3⟩ := h
 exact ⟨h1,vs,h2.wk hr,h3⟩
theorem PM.ro_fr (m:PM):m.ro ≠ .fr ∧ m.ro ≠ .sh := by cases m <;> exact ⟨(fun h => by cases h),(fun h => by cases h)⟩
theorem given_wk {w:World} {S:Nat → Prop}:∀ {ψ:Nat → Nat → Prop} {m:PM} {y:RV} {v:Value},Given w S ψ m y v → Given w S ψ m (wkRV m.ro y) v := by
 intro ψ m y v h
 cases y with
 | tup us => cases m <;> exact h.elim
 | val g cs =>
  cases m with
  | bx => obtain ⟨h1,h2,ad,h3,h4,h5⟩ := h; exact ⟨h1,by simpa using h2,ad,h3,h4.wk (PM.ro_fr _),h5⟩
  | bxr => obtain ⟨h1,h2,ad,h3,h4,h5⟩ := h; exact ⟨h1,by simpa using h2,ad,h3,h4.wk (PM.ro_fr _),h5⟩
  | rd => obtain ⟨vs,h1,h2,h3⟩ := h; exact ⟨vs,h1.wk (PM.ro_fr _),h2,fun e => by rw [List.length_map]; exact h3 e⟩
  | fz => obtain ⟨vs,h1,h2,h3⟩ := h; exact ⟨vs,h1.wk (PM.ro_fr _),h2,fun e => by rw [List.length_map]; exact h3 e⟩
  | «mut» => obtain ⟨vs,h1,h2,h3⟩ := h; exact ⟨vs,h1.wk (PM.ro_fr _),h2,fun e => by rw [List.length_map]; exact h3 e⟩
  | own => obtain ⟨vs,h1,h2,h3⟩ := h; exact ⟨vs,h1.wk (PM.ro_fr _),h2,fun e => by rw [List.length_map]; exact h3 e⟩
theorem givenAll_wk {w:World} {S:Nat → Prop} {ψ:Nat → Nat → Nat → Prop}:∀ {ms:List PM} {ys:List RV} {vs:List Value} {i:Nat},GivenAll w S ψ i ms ys vs → GivenAll w S ψ i ms (wkArgs ms ys) vs
 | [],[],[],_,_ => trivial
 | m :: ms,y :: ys,v :: vs,i,h => ⟨given_wk h.1,givenAll_wk h.2⟩
 | [],[],_ :: _,_,h => h.elim
 | [],_ :: _,_,_,h => h.elim
 | _ :: _,[],_,_,h => h.elim
 | _ :: _,_ :: _,[],_,h => h.elim
theorem tupRep_wk {w:World} {S:Nat → Prop} {ψ:Nat → Nat → Prop} {ro:Wk} (hr:ro ≠ .fr ∧ ro ≠ .sh):∀ {us:List (Bool×List Cell)} {vs:List Value} {k:Nat},TupRep w S ψ k us vs → TupRep w S ψ k (us.map fun u => (u.1,u.2.map (wkC ro))) vs
 | [],[],_,_ => trivial
 | u :: us,v :: vs,k,h => by
  obtain ⟨⟨ws,h1,h2,h3⟩,h4⟩ := h
  refine ⟨⟨ws,h1.wk hr,h2,fun e => by simp only [List.length_map]; exact h3 e⟩,?_⟩
  simp only [List.length_map]
  exact tupRep_wk hr h4
 | [],_ :: _,_,h => h.elim
 | _ :: _,[],_,h => h.elim
theorem resRep_wk {w:World} {S:Nat → Prop} {ψ:Nat → Nat → Prop} {ro:Wk} (hr:ro ≠ .fr ∧ ro ≠ .sh) {r:RV} {v:Value} (h:ResRep w S ψ r v):ResRep w S ψ (wkRV ro r) v := by
 cases r with
 | val g cs => obtain ⟨vs,h1,h2,h3⟩ := h; exact ⟨vs,h1.wk hr,h2,fun e => by rw [List.length_map]; exact h3 e⟩
 | tup us => obtain ⟨vs,h1,h2⟩ := h; exact ⟨vs,h1,tupRep_wk hr h2⟩
theorem outAll_wk {w:World} {S:Nat → Prop} {ψ:Nat → Nat → Nat → Prop}:∀ {ms:List PM} {vs:List Value} {os:List (List Cell)} {i:Nat},OutAll w S ψ i ms vs os → OutAll w S ψ i ms vs (os.map (·.map (wkC .std)))
 | [],[],os,_,h => by have h:os = [] := h; subst h; rfl
 | [],_ :: _,_,_,h => h.elim
 | _ :: _,[],_,_,h => h.elim
 | m :: ms,v :: vs,os,i,h => by
  unfold OutAll at h ⊢
  split
  ·rename_i hm
   rw [if_pos hm] at h
   obtain ⟨o,os',rfl,h1,h2⟩ := h
   refine ⟨_,_,rfl,?_,outAll_wk h2⟩
   cases m with
   | bx => obtain ⟨ad,e1,e2,e3⟩ := h1; exact ⟨ad,e1,e2.wk ⟨(fun h => by cases h),(fun h => by cases h)⟩,e3⟩
   | «mut» => exact BAll.wk ⟨(fun h => by cases h),(fun h => by cases h)⟩ h1
   | rd => cases hm
   | fz => cases hm
   | own => cases hm
   | bxr => cases hm
  ·rename_i hm
   rw [if_neg hm] at h
   exact outAll_wk h
theorem FRep.frz {w:World} {S S' φ φ':Nat → Prop} (hS:∀ g,S g → S' g) (hφ:∀ g,φ g → S' g) {c:Cell} {v:Value} (hc:c.closed = true) (h:FRep (bare w S) φ c v):FRep (bare w S') φ' (wkC .fr c) v := by
 cases c with
 | nil el e =>
  have h:v = .slice none 0 0 := h
  subst h
  exact ⟨trivial,none,0,rfl,⟨Nat.le_refl _,fun _ => rfl⟩,fun i x hx => by simp at hx⟩
 | sl z el e l => exact CRep0.closed (X := bare w S) (Y := bare w S') (fun g hg => ⟨hS g hg,rfl⟩) (.sl .any el e l) v rfl ⟨trivial,h.2⟩
 | own z d el e l => exact ⟨trivial,RowRep.ro h hφ hS⟩
 | fn f caps =>
  obtain ⟨vs,e1,e2⟩ := h
  refine ⟨vs,e1,?_⟩
  simp only [Cell.closed,List.all_eq_true] at hc
  refine All2.of e2.length (fun i a b ha hb => ?_)
  obtain ⟨b',hb',hr⟩ := e2.get ha
  rw [hb] at hb'
  cases hb'
  exact CRep0.closed (X := bare w S) (Y := bare w S') (fun g hg => ⟨hS g hg,rfl⟩) a b (hc a (List.mem_of_getElem? ha)) hr
 | undef => cases hc
 | int k n => exact h
 | bool b => exact h
 | str s => exact h
 | row i c ver => cases hc
 | ptr b ver off => cases hc
 | eptr i c ver k sz off => cases hc
 | sptr e x off => exact CRep0.closed (X := bare w S) (Y := bare w S') (fun g hg => ⟨hS g hg,rfl⟩) (.sptr e x off) v hc h
 | fptr f e x => exact CRep0.closed (X := bare w S) (Y := bare w S') (fun g hg => ⟨hS g hg,rfl⟩) (.fptr f e x) v hc h
theorem FAll.frz {w:World} {S S':Nat → Prop} {ψ ψ':Nat → Nat → Prop} (hS:∀ g,S g → S' g) (hψ:∀ c g,ψ c g → S' g):∀ {cs:List Cell} {vs:List Value} {k:Nat},cs.all Cell.closed = true → FAll (bare w S) ψ k cs vs → FAll (bare w S') ψ' k (cs.map (wkC .fr)) vs
 | [],[],_,_,_ => trivial
 | _ :: _,_ :: _,_,hc,h => by
  simp only [List.all_cons,Bool.and_eq_true] at hc
  exact ⟨h.1.frz hS (hψ _) hc.1,FAll.frz hS hψ hc.2 h.2⟩
 | [],_ :: _,_,_,h => h.elim
 | _ :: _,[],_,_,h => h.elim
theorem BAll.frz {w:World} {S S':Nat → Prop} {ψ ψ':Nat → Nat → Prop} (hS:∀ g,S g → S' g) (hψ:∀ c g,ψ c g → S' g) {k:Nat} {cs:List Cell} {vs:List Value} (h:BAll w S ψ k cs vs):BAll w S' ψ' k (cs.map (wkC .fr)) vs :=
 ⟨by
  rw [List.all_map,List.all_eq_true]
  intro c hc
  exact wkC_closed (List.all_eq_true.1 h.1 c hc),h.2.frz hS hψ h.1⟩
theorem TupRep.frz {w:World} {S S':Nat → Prop} {ψ ψ':Nat → Nat → Prop} (hS:∀ g,S g → S' g) (hψ:∀ c g,ψ c g → S' g):∀ {us:List (Bool×List Cell)} {vs:List Value} {k:Nat},TupRep w S ψ k us vs → TupRep w S' ψ' k (us.map fun u => (u.1,u.2.map (wkC .fr))) vs
 | [],[],_,_ => trivial
 | u :: us,v :: vs,k,h => by
  obtain ⟨⟨ws,h1,h2,h3⟩,h4⟩ := h
  refine ⟨⟨ws,h1.frz hS hψ,h2,fun e => by simp only [List.length_map]; exact h3 e⟩,?_⟩
  simp only [List.length_map]
  exact TupRep.frz hS hψ h4
 | [],_ :: _,_,h => h.elim
 | _ :: _,[],_,h => h.elim
theorem ResRep.frz {w:World} {S S':Nat → Prop} {ψ ψ':Nat → Nat → Prop} (hS:∀ g,S g → S' g) (hψ:∀ c g,ψ c g → S' g) {r:RV} {v:Value} (h:ResRep w S ψ r v):ResRep w S' ψ' (wkRV .fr r) v := by
 cases r with
 | val g cs => obtain ⟨vs,h1,h2,h3⟩ := h; exact ⟨vs,h1.frz hS (fun c => hψ _),h2,fun e => by rw [List.length_map]; exact h3 e⟩
 | tup us => obtain ⟨vs,h1,h2⟩ := h; exact ⟨vs,h1,h2.frz hS (fun c => hψ _)⟩
theorem CRep0.bareS {w:World} {S S':Nat → Prop} (hS:∀ g,S g → S' g) {c:Cell} {v:Value} (hc:c.closed0 = true) (h:CRep0 (bare w S) c v):CRep0 (bare w S') c v := CRep0.closed (X := bare w S) (Y := bare w S') (fun g hg => ⟨hS g hg,rfl⟩) c v hc h
theorem RowRep.shallow {w:World} {S S' φ φ':Nat → Prop} (hS:∀ g,S g → S' g) {z:NZ} {d:Bool} {el:Nat} {e:Ty} {l:List e.den} {v:Value} (h1:∀ g,φ g → v.ownBlock = some g → φ' g) (h2:∀ g,φ g → v.ownBlock ≠ some g → S' g) (h:RowRep w S φ ⟨false,z,d,el,e,l⟩ v):RowRep w S' φ' ⟨false,.any,e.flat,el,e,l⟩ v := by
 have key:RowRep w S' φ' ⟨false,.any,false,el,e,l⟩ v := by
  obtain ⟨_,h⟩ := h
  rw [if_neg (by simp)] at h
  obtain ⟨vals,o1,o2,o3⟩ := h
  refine ⟨trivial,?_⟩
  rw [if_neg (by simp)]
  refine ⟨vals,o1,fun g hg => h1 g (o2 g hg) hg,?_⟩
  rw [if_neg (by simp)]
  split at o3
  ·obtain ⟨χ,x1,x2,x3⟩ := o3
   intro i x hx
   exact OWc.ro (fun g hg => h2 g (x1 i g hg).1 (x1 i g hg).2) _ _ _ (x3 i x hx)
  ·exact fun i x hx => ROc.move (fun g hg => ⟨hS g hg,rfl⟩) _ _ _ (o3 i x hx)
 have := key.deepen
 simpa using this
theorem FRep.sh {w:World} {S φ:Nat → Prop} {c:Cell} {v:Value} (hc:c.closed = true) (h:FRep (bare w S) φ c v):∃ φ':Nat → Prop,(∀ g,φ' g → φ g) ∧ ∀ S':Nat → Prop,(∀ g,S g → S' g) → (∀ g,φ g → ¬ φ' g → S' g) → FRep (bare w S') φ' (wkC .sh c) v := by
 cases c with
 | nil el e =>
  have h:v = .slice none 0 0 := h
  subst h
  refine ⟨fun _ => False,fun _ h => h.elim,fun S' _ _ => ?_⟩
  exact RowRep.shallow (S := S') (φ := fun _ => False) (fun _ h => h) (fun _ h _ => h.elim) (fun _ h _ => h.elim) (rowRep_nil (z := .any) el e trivial)
 | sl z el e l => exact ⟨fun _ => False,fun _ h => h.elim,fun S' hS _ => CRep0.bareS hS (c := .sl .any el e l) rfl ⟨trivial,h.2⟩⟩
 | own z d el e l => exact ⟨fun g => φ g ∧ v.ownBlock = some g,fun g h => h.1,fun S' hS hφ => RowRep.shallow hS (fun g h1 h2 => ⟨h1,h2⟩) (fun g h1 h2 => hφ g h1 (fun h => h2 h.2)) h⟩
 | fn f caps =>
  obtain ⟨vs,e1,e2⟩ := h
  refine ⟨fun _ => False,fun _ h => h.elim,fun S' hS _ => ⟨vs,e1,?_⟩⟩
  simp only [Cell.closed,List.all_eq_true] at hc
  refine All2.of e2.length (fun i a b ha hb => ?_)
  obtain ⟨b',hb',hr⟩ := e2.get ha
  rw [hb] at hb'
  cases hb'
  exact CRep0.bareS hS (hc a (List.mem_of_getElem? ha)) hr
 | undef => cases hc
 | int k n => exact ⟨fun _ => False,fun _ h => h.elim,fun S' _ _ => h⟩
 | bool b => exact ⟨fun _ => False,fun _ h => h.elim,fun S' _ _ => h⟩
 | str s => exact ⟨fun _ => False,fun _ h => h.elim,fun S' _ _ => h⟩
 | row i c ver => cases hc
 | ptr b ver off => cases hc
 | eptr i c ver k sz off => cases hc
 | sptr e x off => exact ⟨fun _ => False,fun _ h => h.elim,fun S' hS _ => CRep0.bareS hS (c := .sptr e x off) rfl h⟩
 | fptr f e x => exact ⟨fun _ => False,fun _ h => h.elim,fun S' hS _ => CRep0.bareS hS (c := .fptr f e x) rfl h⟩
theorem FAll.congr {X:Ctx} {ψ ψ':Nat → Nat → Prop}:∀ {cs:List Cell} {vs:List Value} {k:Nat},(∀ c,k ≤ c → c < k + cs.length → ψ c = ψ' c) → FAll X ψ k cs vs → FAll X ψ' k cs vs
 | [],[],_,_,_ => trivial
 | c :: cs,v :: vs,k,hj,h => by
  refine ⟨?_,FAll.congr (fun c h1 h2 => hj c (by omega) (by simp only [List.length_cons]; omega)) h.2⟩
  rw [← hj k (Nat.le_refl _) (by simp)]
  exact h.1
 | [],_ :: _,_,_,h => h.elim
 | _ :: _,[],_,_,h => h.elim
theorem FAll.sh {w:World} {S:Nat → Prop} {ψ:Nat → Nat → Prop}:∀ {cs:List Cell} {vs:List Value} {k:Nat},cs.all Cell.closed = true → FAll (bare w S) ψ k cs vs → ∃ ψ':Nat → Nat → Prop,(∀ c g,ψ' c g → ψ c g) ∧ ∀ S':Nat → Prop,(∀ g,S g → S' g) → (∀ c g,k ≤ c → c < k + cs.length → ψ c g → ¬ ψ' c g → S' g) → FAll (bare w S') ψ' k (cs.map (wkC .sh)) vs
 | [],[],_,_,_ => ⟨fun _ _ => False,fun _ _ h => h.elim,fun _ _ _ => trivial⟩
 | c :: cs,v :: vs,k,hc,h => by
  simp only [List.all_cons,Bool.and_eq_true] at hc
  obtain ⟨φ',a1,a2⟩ := h.1.sh hc.1
  obtain ⟨ψ',b1,b2⟩ := FAll.sh hc.2 h.2
  refine ⟨fun c g => if c = k then φ' g else ψ' c g,fun c g hg => ?_,fun S' hS hψ => ⟨?_,?_⟩⟩
  ·simp only at hg
   split at hg
   ·rename_i e; subst e; exact a1 g hg
   ·exact b1 c g hg
  ·have := a2 S' hS (fun g h1 h2 => hψ k g (Nat.le_refl _) (by simp) h1 (by simpa using h2))
   simpa using this
  ·have := b2 S' hS (fun c g h0 h00 h1 h2 => hψ c g (by omega) (by simp only [List.length_cons]; omega) h1 (by show ¬ (if c = k then φ' g else ψ' c g); rw [if_neg (by omega)]; exact h2))
   exact FAll.congr (fun c h1 _ => by funext g; rw [if_neg (by omega)]) this
 | [],_ :: _,_,_,h => h.elim
 | _ :: _,[],_,_,h => h.elim
theorem BAll.sh {w:World} {S:Nat → Prop} {ψ:Nat → Nat → Prop} {k:Nat} {cs:List Cell} {vs:List Value} (h:BAll w S ψ k cs vs):∃ ψ':Nat → Nat → Prop,(∀ c g,ψ' c g → ψ c g) ∧ ∀ S':Nat → Prop,(∀ g,S g → S' g) → (∀ c g,k ≤ c → c < k + cs.length → ψ c g → ¬ ψ' c g → S' g) → BAll w S' ψ' k (cs.map (wkC .sh)) vs := by
 obtain ⟨ψ',h1,h2⟩ := FAll.sh h.1 h.2
 refine ⟨ψ',h1,fun S' hS hψ => ⟨?_,h2 S' hS hψ⟩⟩
 rw [List.all_map,List.all_eq_true]
 intro c hc
 exact wkC_closed (List.all_eq_true.1 h.1 c hc)
theorem TupRep.sh {w:World} {S:Nat → Prop} {ψ:Nat → Nat → Prop}:∀ {us:List (Bool×List Cell)} {vs:List Value} {k:Nat},TupRep w S ψ k us vs → ∃ ψ':Nat → Nat → Prop,(∀ c g,ψ' c g → ψ c g) ∧ ∀ S':Nat → Prop,(∀ g,S g → S' g) → (∀ c g,k ≤ c → ψ c g → ¬ ψ' c g → S' g) → TupRep w S' ψ' k (us.map fun u => (u.1,u.2.map (wkC .sh))) vs
 | [],[],_,_ => ⟨fun _ _ => False,fun _ _ h => h.elim,fun _ _ _ => trivial⟩
 | u :: us,v :: vs,k,h => by
  obtain ⟨⟨ws,h1,h2,h3⟩,h4⟩ := h
  obtain ⟨ψ1,a1,a2⟩ := h1.sh
  obtain ⟨ψ2,b1,b2⟩ := TupRep.sh h4
  refine ⟨fun c g => if c < k + u.2.length then ψ1 c g else ψ2 c g,fun c g hg => ?_,fun S' hS hψ => ⟨⟨ws,?_,h2,fun e => by simp only [List.length_map]; exact h3 e⟩,?_⟩⟩
  ·simp only at hg
   split at hg
   ·exact a1 c g hg
   ·exact b1 c g hg
  ·have := a2 S' hS (fun c g h0 h00 h1 h2 => hψ c g h0 h1 (by show ¬ (if c < k + u.2.length then ψ1 c g else ψ2 c g); rw [if_pos h00]; exact h2))
   exact ⟨this.1,FAll.congr (fun c _ h2 => by funext g; rw [if_pos (by simpa using h2)]) this.2⟩
  ·have := b2 S' hS (fun c g h0 h1 h2 => hψ c g (by omega) h1 (by show ¬ (if c < k + u.2.length then ψ1 c g else ψ2 c g); rw [if_neg (by omega)]; exact h2))
   simp only [List.length_map]
   exact TupRep.mono (fun c h1 => by funext g; rw [if_neg (by omega)]) this
 | [],_ :: _,_,h => h.elim
 | _ :: _,[],_,h => h.elim
theorem ResRep.sh {w:World} {S:Nat → Prop} {ψ:Nat → Nat → Prop} {r:RV} {v:Value} (h:ResRep w S ψ r v):∃ ψ':Nat → Nat → Prop,(∀ c g,ψ' c g → ψ c g) ∧ ∀ S':Nat → Prop,(∀ g,S g → S' g) → (∀ c g,ψ c g → ¬ ψ' c g → S' g) → ResRep w S' ψ' (wkRV .sh r) v := by
 cases r with
 | val g cs =>
  obtain ⟨vs,h1,h2,h3⟩ := h
  obtain ⟨ψ1,a1,a2⟩ := h1.sh
  refine ⟨fun c g => match c with | 0 => False | c + 1 => ψ1 c g,fun c g hg => ?_,fun S' hS hψ => ⟨vs,a2 S' hS (fun c g _ _ h1 h2 => hψ (c + 1) g h1 h2),h2,fun e => by rw [List.length_map]; exact h3 e⟩⟩
  cases c with
  | zero => exact hg.elim
  | succ c => exact a1 c g hg
 | tup us =>
  obtain ⟨vs,h1,h2⟩ := h
  obtain ⟨ψ1,a1,a2⟩ := h2.sh
  refine ⟨fun c g => match c with | 0 => False | c + 1 => ψ1 c g,fun c g hg => ?_,fun S' hS hψ => ⟨vs,h1,a2 S' hS (fun c g _ h1 h2 => hψ (c + 1) g h1 h2)⟩⟩
  cases c with
  | zero => exact hg.elim
  | succ c => exact a1 c g hg
theorem OutAll.wide {w:World} {S S':Nat → Prop} {ψ ψ':Nat → Nat → Nat → Prop} (hS:∀ g,S g → S' g):∀ (ms:List PM) (vs:List Value) (os:List (List Cell)) (i:Nat),(∀ j,i < j → ψ j = ψ' j) → OutAll w S ψ i ms vs os → OutAll w S' ψ' i ms vs os
 | [],[],os,_,_,h => h
 | [],_ :: _,_,_,_,h => h.elim
 | _ :: _,[],_,_,_,h => h.elim
 | m :: ms,v :: vs,os,i,hj,h => by
  unfold OutAll at h ⊢
  split
  ·rename_i hm
   rw [if_pos hm] at h
   obtain ⟨o,os',rfl,h1,h2⟩ := h
   refine ⟨_,_,rfl,?_,OutAll.wide hS ms vs os' (i + 1) (fun j h => hj j (by omega)) h2⟩
   rw [hj (i + 1) (by omega)] at h1
   cases m with
   | bx => obtain ⟨ad,e1,e2,e3⟩ := h1; exact ⟨ad,e1,e2.wide hS,e3⟩
   | «mut» => exact BAll.wide hS h1
   | rd => cases hm
   | fz => cases hm
   | own => cases hm
   | bxr => cases hm
  ·rename_i hm
   rw [if_neg hm] at h
   exact OutAll.wide hS ms vs os (i + 1) (fun j h => hj j (by omega)) h
def FSem.wk (ms:List PM) (F:FSem):FSem := fun ys => F (wkArgs ms ys)
theorem Sound.wk {P:Program} {f:Nat} {ms:List PM} {F:FSem} (h:Sound P f ms F):Sound P f ms (F.wk ms) :=
 ⟨h.fn,fun w S ψ ys vs r outs hF hh hg => h.calls w S ψ (wkArgs ms ys) vs r outs hF hh (givenAll_wk hg)⟩
theorem Sound.res {P:Program} {f:Nat} {ms:List PM} {F:FSem} {F':FSem} (ro:Wk) (h:Sound P f ms F) (hF:∀ ys r' outs',F' ys = some (true,r',outs') → ∃ q,F ys = some (true,q) ∧ wkRes ro q = (r',outs')):Sound P f ms F' := by
 refine ⟨h.fn,fun w S ψ ys vs r' outs' hF' hh hg => ?_⟩
 obtain ⟨⟨r,outs⟩,h1,h2⟩ := hF ys r' outs' hF'
 simp only [wkRes,Prod.mk.injEq] at h2
 obtain ⟨rfl,rfl⟩ := h2
 refine Calls.mono (h.calls w S ψ ys vs r outs h1 hh hg) ?_
 rintro e w' he
 match e,he with
 | .returned v,he =>
  obtain ⟨S',ψ',h3,h4,h5⟩ := he
  by_cases hr:ro = .fr
  ·subst hr
   refine ⟨fun g => S' g ∨ ∃ c,ψ' 0 c g,fun i c g => i ≠ 0 ∧ ψ' i c g,?_,ResRep.frz (fun g hg => .inl hg) (fun c g hg => .inr ⟨c,hg⟩) h4,OutAll.wide (ψ := ψ') (fun g hg => .inl hg) ms vs _ 0 (fun j hj => by funext c g; exact propext ⟨fun h => ⟨by omega,h⟩,fun h => h.2⟩) (outAll_wk h5)⟩
   obtain ⟨t1,t2,t3,t4,t5,t6⟩ := h3
   refine ⟨t1,t2,t3,t4,fun g hg hn => ?_,?_,?_,?_⟩
   ·obtain ⟨k1,k2,k3⟩ := t5 g hg hn
    exact ⟨k1,⟨fun h => h.elim k2.1 (fun ⟨c,h⟩ => absurd ⟨0,c,h⟩ k3),fun h => .inl (k2.2 h)⟩,fun ⟨i,c,h⟩ => k3 ⟨i,c,h.2⟩⟩
   ·rintro g (hg | ⟨c,hg⟩)
    ·exact t6.lt g hg
    ·exact (t6.own 0 c g hg).1
   ·rintro i c g ⟨hi,hg⟩
    refine ⟨(t6.own i c g hg).1,?_⟩
    rintro (h | ⟨c',h⟩)
    ·exact (t6.own i c g hg).2 h
    ·exact hi (t6.apart i c 0 c' g hg h).1
   ·rintro i c i' c' g ⟨_,h⟩ ⟨_,h'⟩
    exact t6.apart i c i' c' g h h'
  ·by_cases hs:ro = .sh
   ·subst hs
    obtain ⟨ψ0,g1,g2⟩ := ResRep.sh h4
    refine ⟨fun g => S' g ∨ ∃ c,ψ' 0 c g ∧ ¬ ψ0 c g,fun i c g => if i = 0 then ψ0 c g else ψ' i c g,?_,g2 _ (fun g hg => .inl hg) (fun c g hg hn => .inr ⟨c,hg,hn⟩),OutAll.wide (ψ := ψ') (fun g hg => .inl hg) ms vs _ 0 (fun j hj => by funext c g; rw [if_neg (by omega)]) (outAll_wk h5)⟩
    have hk:∀ i c g,(if i = 0 then ψ0 c g else ψ' i c g) → ψ' i c g := by
     intro i c g hg
     split at hg
     ·rename_i hi; subst hi; exact g1 c g hg
     ·exact hg
    obtain ⟨t1,t2,t3,t4,t5,t6⟩ := h3
    refine ⟨t1,t2,t3,t4,fun g hg hn => ?_,?_,?_,?_⟩
    ·obtain ⟨k1,k2,k3⟩ := t5 g hg hn
     exact ⟨k1,⟨fun h => h.elim k2.1 (fun ⟨c,h,_⟩ => absurd ⟨0,c,h⟩ k3),fun h => .inl (k2.2 h)⟩,fun ⟨i,c,h⟩ => k3 ⟨i,c,hk i c g h⟩⟩
    ·rintro g (hg | ⟨c,hg,_⟩)
     ·exact t6.lt g hg
     ·exact (t6.own 0 c g hg).1
    ·intro i c g hg
     have hg' := hk i c g hg
     refine ⟨(t6.own i c g hg').1,?_⟩
     rintro (h | ⟨c',h,hn⟩)
     ·exact (t6.own i c g hg').2 h
     ·obtain ⟨rfl,rfl⟩ := t6.apart i c 0 c' g hg' h
      rw [if_pos rfl] at hg
      exact hn hg
    ·intro i c i' c' g h h'
     exact t6.apart i c i' c' g (hk _ _ _ h) (hk _ _ _ h')
   ·exact ⟨S',ψ',h3,resRep_wk ⟨hr,hs⟩ h4,outAll_wk h5⟩
inductive Q where
 | yes
 | ask (b:Bool)
def Q.holds:Q → Bool
 | .yes => true
 | .ask b => b
def Q.and (b:Bool):Q → Q
 | .yes => .ask b
 | .ask c => .ask (b&&c)
def Q.ite (b:Bool):Q → Q → Q
 | .yes,.yes => .yes
 | .yes,.ask q => .ask (b || q)
 | .ask p,.yes => .ask (!b || p)
 | .ask p,.ask q => .ask (bif b then p else q)
theorem Q.and_holds {b:Bool} {q:Q} (h:(q.and b).holds = true):b = true ∧ q.holds = true := by
 cases q with
 | yes => exact ⟨h,rfl⟩
 | ask c => simpa [Q.and,Q.holds] using h
theorem Q.ite_holds {b:Bool} {p q:Q} (h:(Q.ite b p q).holds = true):(b = true ∧ p.holds = true) ∨ (b = false ∧ q.holds = true) := by
 cases p <;> cases q <;> cases b <;> simp_all [Q.ite,Q.holds]
abbrev Outc := Option (Q×RV×List (List Cell))
def joinN (b:Bool):Outc → Outc → Outc
 | none,none => none
 | some x,none => some (x.1.and b,x.2)
 | none,some y => some (y.1.and (!b),y.2)
 | some x,some y => (mergeR b x.2.1 y.2.1).bind fun r => (mergeO b x.2.2 y.2.2).map fun os => (Q.ite b x.1 y.1,r,os)
def collapseN (ro:Wk) (E:Env) (o:Orc):Tr (RV×List (List Cell)) → Outc
 | .done a => some (.yes,wkRes ro a)
 | .br b x y => joinN b (collapseN ro E o x) (collapseN ro E o y)
 | .lp b _ s k => match o b (canon E b s) with
  | none => none
  | some (p,xt) => (xt.fold joinN fun ex h => collapseN ro E o (k ex (St.of h))).map fun q => (q.1.and p,q.2)
 | .fail => none
def collapseH (ro:Wk) (E:Env) (o:Orc) (t:Tr (RV×List (List Cell))):Option (Bool×RV×List (List Cell)) := (collapseN ro E o t).map fun x => (x.1.holds,x.2)
theorem joinN_ok {b:Bool} {x y:Outc} {q:Q} {r:RV×List (List Cell)} (h:joinN b x y = some (q,r)) (hq:q.holds = true):(b = true ∧ ∃ q,q.holds = true ∧ x = some (q,r)) ∨ (b = false ∧ ∃ q,q.holds = true ∧ y = some (q,r)) := by
 match x,y with
 | none,none => cases h
 | some x,none =>
  obtain ⟨p,s⟩ := x
  simp only [joinN,Option.some.injEq,Prod.mk.injEq] at h
  obtain ⟨h1,h2⟩ := h
  rw [← h1] at hq
  obtain ⟨h3,h4⟩ := Q.and_holds hq
  exact .inl ⟨h3,p,h4,by rw [h2]⟩
 | none,some y =>
  obtain ⟨p,s⟩ := y
  simp only [joinN,Option.some.injEq,Prod.mk.injEq] at h
  obtain ⟨h1,h2⟩ := h
  rw [← h1] at hq
  obtain ⟨h3,h4⟩ := Q.and_holds hq
  exact .inr ⟨by simpa using h3,p,h4,by rw [h2]⟩
 | some x,some y =>
  obtain ⟨p,s,s'⟩ := x
  obtain ⟨p',u,u'⟩ := y
  obtain ⟨c,h1,h2⟩ := Option.bind_eq_some_iff.1 h
  obtain ⟨os,h3,h4⟩ := Option.map_eq_some_iff.1 h2
  have e1 := mergeR_ok h1
  have e2 := mergeO_ok h3
  simp only [Prod.mk.injEq] at h4 e1 e2
  obtain ⟨h5,h6⟩ := h4
  rw [← h5] at hq
  rcases Q.ite_holds hq with ⟨hb,h7⟩ | ⟨hb,h7⟩
  ·subst hb
   refine .inl ⟨rfl,p,h7,?_⟩
   simp only [cond_true] at e1 e2
   rw [← h6,e1,e2]
  ·subst hb
   refine .inr ⟨rfl,p',h7,?_⟩
   simp only [cond_false] at e1 e2
   rw [← h6,e1,e2]
theorem collapseN_to {E:Env} {o:Orc} {ro:Wk} {r:RV×List (List Cell)}:∀ {t:Tr (RV×List (List Cell))} {q:Q},collapseN ro E o t = some (q,r) → q.holds = true → ∃ x,t.To E (OR o) x ∧ wkRes ro x = r := by
 intro t
 induction t with
 | done a => intro q h _; simp only [collapseN,Option.some.injEq,Prod.mk.injEq] at h; exact ⟨a,rfl,h.2⟩
 | br b x y hx hy =>
  intro q h hq
  rcases joinN_ok h hq with ⟨h1,q',h2,h3⟩ | ⟨h1,q',h2,h3⟩
  ·obtain ⟨z,h4,h5⟩ := hx h3 h2; exact ⟨z,.inl ⟨h1,h4⟩,h5⟩
  ·obtain ⟨z,h4,h5⟩ := hy h3 h2; exact ⟨z,.inr ⟨h1,h4⟩,h5⟩
 | lp b c s k ih =>
  intro q h hq
  simp only [collapseN] at h
  split at h
  ·cases h
  ·rename_i p xt ho
   obtain ⟨z,h1,h2⟩ := Option.map_eq_some_iff.1 h
   simp only [Prod.mk.injEq] at h2
   obtain ⟨h3,h4⟩ := h2
   rw [← h3] at hq
   obtain ⟨hp,hz⟩ := Q.and_holds hq
   subst hp
   have key:∀ (xt:XT) (z:Q),(xt.fold joinN fun ex h => collapseN ro E o (k ex (St.of h))) = some (z,r) → z.holds = true → ∃ x,(k xt.sel.1 (St.of xt.sel.2)).To E (OR o) x ∧ wkRes ro x = r := by
    intro xt
    induction xt with
    | leaf ex h => intro z h1 hz; exact ih ex (St.of h) h1 hz
    | br b x y hx hy =>
     intro z h1 hz
     rcases joinN_ok h1 hz with ⟨e,q',h2,h3⟩ | ⟨e,q',h2,h3⟩
     ·subst e; exact hx q' h3 h2
     ·subst e; exact hy q' h3 h2
   obtain ⟨z1,z2⟩ := z
   simp only at h4
   subst h4
   obtain ⟨x,h5,h6⟩ := key xt z1 h1 hz
   exact ⟨x,⟨_,_,⟨xt,ho,rfl⟩,h5⟩,h6⟩
 | fail => intro q h; cases h
theorem collapseH_to {E:Env} {o:Orc} {ro:Wk} {r:RV×List (List Cell)} {t:Tr (RV×List (List Cell))} (h:collapseH ro E o t = some (true,r)):∃ x,t.To E (OR o) x ∧ wkRes ro x = r := by
 obtain ⟨⟨q,x⟩,h1,h2⟩ := Option.map_eq_some_iff.1 h
 simp only [Prod.mk.injEq] at h2
 rw [h2.2] at h1
 exact collapseN_to h1 h2.1
inductive RT (σ ρ:Type) where
 | go (x:σ)
 | out (r:ρ)
 | br (b:Bool) (x y:RT σ ρ)
 | bad
def RT.sel {σ ρ:Type}:RT σ ρ → RT σ ρ
 | .br b x y => bif b then x.sel else y.sel
 | t => t
def RT.bt {σ ρ:Type} (hd:σ → List (Pl×LV)) (hx:ρ → Ex×List (Pl×LV)):RT σ ρ → BT
 | .go x => .again (hd x)
 | .out r => .out (hx r).1 (hx r).2
 | .br b x y => .br b (x.bt hd hx) (y.bt hd hx)
 | .bad => .fail
def rounds {σ ρ:Type} (step:σ → RT σ ρ):Nat → σ → Option ρ
 | 0,_ => none
 | n + 1,x => match (step x).sel with
  | .go y => rounds step n y
  | .out r => some r
  | _ => none
theorem rounds_mono {σ ρ:Type} {step:σ → RT σ ρ}:∀ {n m:Nat} {x:σ} {r:ρ},n ≤ m → rounds step n x = some r → rounds step m x = some r
 | 0,_,_,_,_,h => by cases h
 | n + 1,0,_,_,hm,_ => absurd hm (Nat.not_succ_le_zero _)
 | n + 1,m + 1,x,r,hm,h => by
  unfold rounds at h ⊢
  split at h
  ·exact rounds_mono (Nat.le_of_succ_le_succ hm) h
  ·exact h
  ·cases h
open Classical in
noncomputable def loopO {σ ρ:Type} (step:σ → RT σ ρ) (x:σ):Option ρ := if h:∃ r n,rounds step n x = some r then some h.choose else none
theorem loopO_of {σ ρ:Type} {step:σ → RT σ ρ} {x:σ} {r:ρ} {n:Nat} (h:rounds step n x = some r):loopO step x = some r := by
 unfold loopO
 have hx:∃ r n,rounds step n x = some r := ⟨r,n,h⟩
 rw [dif_pos hx]
 obtain ⟨m,hm⟩ := hx.choose_spec
 have e1 := rounds_mono (Nat.le_max_left n m) h
 have e2 := rounds_mono (Nat.le_max_right n m) hm
 rw [e1] at e2
 exact e2.symm
theorem loopO_some {σ ρ:Type} {step:σ → RT σ ρ} {x:σ} {r:ρ} (h:loopO step x = some r):∃ n,rounds step n x = some r := by
 unfold loopO at h
 split at h
 ·rename_i hx
  injection h with h
  subst h
  exact hx.choose_spec
 ·cases h
theorem loopO_eq {σ ρ:Type} (step:σ → RT σ ρ) (x:σ):loopO step x = match (step x).sel with
  | .go y => loopO step y
  | .out r => some r
  | _ => none := by
 split
 ·rename_i y hy
  cases hc:loopO step y with
  | some r =>
   obtain ⟨n,hn⟩ := loopO_some hc
   refine loopO_of (n := n + 1) ?_
   unfold rounds
   rw [hy]
   exact hn
  | none =>
   cases hd:loopO step x with
   | none => rfl
   | some r =>
    obtain ⟨n,hn⟩ := loopO_some hd
    cases n with
    | zero => cases hn
    | succ n =>
     unfold rounds at hn
     rw [hy] at hn
     rw [loopO_of hn] at hc
     cases hc
 ·rename_i r hr
  refine loopO_of (n := 1) ?_
  unfold rounds
  rw [hr]
 ·rename_i h1 h2
  cases hd:loopO step x with
  | none => rfl
  | some r =>
   obtain ⟨n,hn⟩ := loopO_some hd
   cases n with
   | zero => cases hn
   | succ n =>
    unfold rounds at hn
    split at hn
    ·rename_i y hy; exact absurd hy (h1 y)
    ·rename_i r' hr; exact absurd hr (h2 r')
    ·cases hn
theorem rt_sel {σ ρ:Type} {hd:σ → List (Pl×LV)} {hx:ρ → Ex×List (Pl×LV)}:∀ (t:RT σ ρ),(t.bt hd hx).sel = match t.sel with
  | .go y => some (.again (hd y))
  | .out r => some (.out (hx r).1 (hx r).2)
  | _ => none
 | .go _ => rfl
 | .out _ => rfl
 | .bad => rfl
 | .br b x y => by
  simp only [RT.bt,BT.sel,RT.sel]
  cases b with
  | true => exact rt_sel x
  | false => exact rt_sel y
def loopsAll:Nat → Code → List (Nat×Code)
 | b,.seq x y => loopsAll b x ++ loopsAll b y
 | b,.cond _ x y => loopsAll b x ++ loopsAll b y
 | _,.block id c => loopsAll id c
 | b,.loop c => (b,c) :: loopsAll b c
 | _,_ => []
theorem loopsAll_of:∀ (c:Code) (b:Nat) (p:Nat×Code),p ∈ loopsOf b c → p ∈ loopsAll b c := by
 intro c
 induction c with
 | seq x y ihx ihy => intro b p hp; rcases List.mem_append.1 hp with h | h; exact List.mem_append_left _ (ihx b p h); exact List.mem_append_right _ (ihy b p h)
 | cond t x y ihx ihy => intro b p hp; rcases List.mem_append.1 hp with h | h; exact List.mem_append_left _ (ihx b p h); exact List.mem_append_right _ (ihy b p h)
 | block id c ih => intro b p hp; exact ih id p hp
 | loop c ih => intro b p hp; simp only [loopsOf,List.mem_singleton] at hp; subst hp; exact List.mem_cons_self ..
 | _ => intro b p hp; cases hp
theorem loopsAll_in:∀ (c:Code) (b:Nat) (p q:Nat×Code),p ∈ loopsAll b c → q ∈ loopsAll p.1 p.2 → q ∈ loopsAll b c := by
 intro c
 induction c with
 | seq x y ihx ihy => intro b p q hp hq; rcases List.mem_append.1 hp with h | h; exact List.mem_append_left _ (ihx b p q h hq); exact List.mem_append_right _ (ihy b p q h hq)
 | cond t x y ihx ihy => intro b p q hp hq; rcases List.mem_append.1 hp with h | h; exact List.mem_append_left _ (ihx b p q h hq); exact List.mem_append_right _ (ihy b p q h hq)
 | block id c ih => intro b p q hp hq; exact ih id p q hp hq
 | loop c ih =>
  intro b p q hp hq
  rcases List.mem_cons.1 hp with rfl | hp
  ·exact List.mem_cons_of_mem _ hq
  ·exact List.mem_cons_of_mem _ (ih b p q hp hq)
 | _ => intro b p q hp; cases hp
def OrcOk (E:Env) (o:Orc) (ls:List (Nat×Code)) (k:Nat):Prop := ∀ n p,p ∈ ls → ∀ h ex h',OR o p.1 p.2 h ex h' → LT E (n + k) p.1 p.2 h ex h'
theorem orcOk_none {E:Env} {ls:List (Nat×Code)}:OrcOk E (fun _ _ => none) ls 0 := by
 rintro n p _ h ex h' ⟨xt,h1,_⟩
 cases h1
theorem LT_step {E:Env} {o:Orc} {ls:List (Nat×Code)} {k:Nat} (ho:OrcOk E o ls k) {b:Nat} {c:Code} (hc:(b,c) ∈ ls) (hls:∀ q,q ∈ loopsAll b c → q ∈ ls) {σ ρ:Type} (hd:σ → List (Pl×LV)) (hx:ρ → Ex×List (Pl×LV)) (step:σ → RT σ ρ)
  (body:∀ x,(exec E b c (St.of (hd x)) (leafRd E b)).bt E o = (step x).bt hd hx) (n:Nat) {x:σ} {r:ρ} (h:loopO step x = some r):LT E (n + k + 1) b c (hd x) (hx r).1 (hx r).2 := by
 obtain ⟨m,hm⟩ := loopO_some h
 have lift:∀ {h:List (Pl×LV)} {r:Rd},((exec E b c (St.of h) (leafRd E b)).bt E o).sel = some r → (exec E b c (St.of h) (leafRd E b)).To E (LT E (n + k)) r := by
  intro h r hr
  refine exec_mono c b _ _ (fun p hp h ex h' => ho n p (hls p (loopsAll_of c b p hp)) h ex h') (fun ex s h => ?_) (bt_to hr)
  cases ex <;> exact h
 refine ⟨m,?_⟩
 clear h
 induction m generalizing x with
 | zero => cases hm
 | succ m ih =>
  have hb := rt_sel (hd := hd) (hx := hx) (step x)
  rw [← body x] at hb
  unfold rounds at hm
  split at hm
  ·rename_i y hy
   rw [hy] at hb
   exact .inr ⟨_,lift hb,ih hm⟩
  ·rename_i r' hr
   injection hm with hm
   subst hm
   rw [hr] at hb
   exact .inl (lift hb)
  ·cases hm
theorem orc_add {E:Env} {o o':Orc} {ls:List (Nat×Code)} {k:Nat} (ho:OrcOk E o ls k) (h:∀ n p,p ∈ ls → ∀ h ex h',OR o' p.1 p.2 h ex h' → OR o p.1 p.2 h ex h' ∨ LT E (n + k + 1) p.1 p.2 h ex h'):OrcOk E o' ls (k + 1) := by
 intro n p hp hh ex h' hor
 rcases h n p hp hh ex h' hor with h1 | h1
 ·have := ho (n + 1) p hp _ _ _ h1
  rwa [show n + (k + 1) = n + 1 + k by omega]
 ·exact h1
theorem fn_gen {P:Program} {E:Env} (hE:Good P E) (hm:P.follows .mixedOrders = true) {f:Nat} {fn:Func} {c:Code} {ms:List PM} {F:FSem} {o:Orc} {k:Nat} (ro:Wk) (hf:P.funcs[f]? = some fn) (hb:fn.body = some c) (hname:(fn.name == "runtime.NumGoroutine") = false) (hd:dstB fn.ntmps ms c = true) (hn:ms.length ≤ fn.ntmps)
  (ho:OrcOk E o (loopsAll 0 c) k)
  (hF:∀ ys r outs,F ys = some (true,r,outs) → collapseH ro E o (execFn E fn ms ys) = some (true,r,outs)):Sound P f ms F := by
 have key:Sound P f ms (fun ys => open Classical in if h:∃ q,(∃ n,(execFn E fn ms ys).To E (LT E n) q) ∧ ∃ r,F ys = some (true,r) ∧ wkRes ro q = r then some (true,h.choose) else none) := by
  refine fn_ok hE hm hf hb hname hd hn (fun ys r outs h => ?_)
  split at h
  ·rename_i hq
   simp only [Option.some.injEq,Prod.mk.injEq,true_and] at h
   obtain ⟨h1,_⟩ := hq.choose_spec
   rw [h] at h1
   exact h1
  ·cases h
 refine key.res ro (fun ys r' outs' h => ?_)
 obtain ⟨q,h1,h2⟩   := collapseH_to (hF ys r' outs' h)
 have hq:∃ q,(∃ n,(execFn E fn ms ys).To E (LT E n) q) ∧ ∃ r,F ys = some (true,r) ∧ wkRes ro q = r := by
  refine ⟨q,⟨0 + k,?_⟩,_,h,h2⟩
  unfold execFn at h1 ⊢
  rw [hb] at h1 ⊢
  refine exec_mono c 0 _ _ (fun p hp => ho 0 p (loopsAll_of c 0 p hp)) (fun ex s h => ?_) h1
  cases ex with
  | exit id => exact h
  | normal => exact tr_mono (L1 := OR o) (L2 := LT E (0 + k)) (p := Prg.retP E fn ms) (k := fun r _ => .done r) (fun _ _ h => h) h
  | ret => exact tr_mono (L1 := OR o) (L2 := LT E (0 + k)) (p := Prg.retP E fn ms) (k := fun r _ => .done r) (fun _ _ h => h) h
 obtain ⟨_,r,h3,h4⟩ := hq.choose_spec
 refine ⟨hq.choose,?_,?_⟩
 ·exact dif_pos hq
 ·rw [h4]
  rw [h] at h3
  injection h3 with h3
  injection h3 with _ h3
  exact h3.symm
instance sumInh {α β:Type} [Inhabited β]:Inhabited (α ⊕ β) := ⟨.inr default⟩
def isL {α β:Type}:α ⊕ β → Bool
 | .inl _ => true
 | .inr _ => false
def getL {α β:Type} [Inhabited α]:α ⊕ β → α
 | .inl a => a
 | .inr _ => default
def getR {α β:Type} [Inhabited β]:α ⊕ β → β
 | .inl _ => default
 | .inr b => b
def okO {ρ:Type} (x:Option ρ):Bool := x.isSome
def valO {ρ:Type} [Inhabited ρ] (x:Option ρ):ρ := x.getD default
theorem okO_some {ρ:Type} [Inhabited ρ] {x:Option ρ} (h:okO x = true):x = some (valO x) := by
 cases x with
 | none => cases h
 | some r => rfl
def lit (l:List Nat):ByteArray := ⟨(l.map UInt8.ofNat).toArray⟩
def loopOf (b:Nat):Code → Option Code
 | .seq x y => (loopOf b x).orElse fun _ => loopOf b y
 | .cond _ x y => (loopOf b x).orElse fun _ => loopOf b y
 | .block i (.loop c) => if i = b then some c else loopOf b c
 | .block _ c => loopOf b c
 | .loop c => loopOf b c
 | _ => none
end Go.Proofs.YtedhpmhlmdcpbaaGreatDoor.E
end
namespace Go.Proofs.YtedhpmhlmdcpbaaGreatDoor.E
open Go
set_option maxRecDepth 100000
set_option maxHeartbeats 0
def plainV:RV → Option Value
 | .val false [.int k n] => some (.int k n)
 | .val false [.bool b] => some (.bool b)
 | .val false [.str s] => some (.string s)
 | _ => none
theorem given_plain {w:World} {S:Nat → Prop} {ψ:Nat → Nat → Prop} {y:RV} {v u:Value} (h:Given w S ψ .own y v) (hp:plainV y = some u):v = u := by
 unfold plainV at hp
 split at hp
 ·cases hp
  obtain ⟨vs,⟨_,h1⟩,h2,_⟩ := h
  match vs,h1 with
  | [x],h1 => have e:x = _ := h1.1; rw [h2,e]; rfl
 ·cases hp
  obtain ⟨vs,⟨_,h1⟩,h2,_⟩ := h
  match vs,h1 with
  | [x],h1 => have e:x = _ := h1.1; rw [h2,e]; rfl
 ·cases hp
  obtain ⟨vs,⟨_,h1⟩,h2,_⟩ := h
  match vs,h1 with
  | [x],h1 => have e:x = _ := h1.1; rw [h2,e]; rfl
 ·cases hp
theorem givenAll_plain {w:World} {S:Nat → Prop} {ψ:Nat → Nat → Nat → Prop}:∀ {ms:List PM} {ys:List RV} {vs us:List Value} {i:Nat},(∀ m ∈ ms,m = .own) → GivenAll w S ψ i ms ys vs → ys.mapM plainV = some us → vs = us
 | [],[],[],us,_,_,_,h => by simp at h; exact h.symm ▸ rfl
 | m :: ms,y :: ys,v :: vs,us,i,hm,hg,h => by
  have := hm m (by simp)
  subst this
  simp only [List.mapM_cons,Option.pure_def,Option.bind_eq_bind,Option.bind_eq_some_iff,Option.some.injEq] at h
  obtain ⟨u,h1,us',h2,rfl⟩ := h
  rw [given_plain hg.1 h1,givenAll_plain (fun m h => hm m (by simp [h])) hg.2 h2]
 | [],[],_ :: _,_,_,_,hg,_ => hg.elim
 | [],_ :: _,_,_,_,_,hg,_ => hg.elim
 | _ :: _,[],_,_,_,_,hg,_ => hg.elim
 | _ :: _,_ :: _,[],_,_,_,hg,_ => hg.elim
theorem sound_plain {P:Program} {f:Nat} {ms:List PM} {F:FSem} (hm:∀ m ∈ ms,m = .own) (hfn:∃ fn,P.funcs[f]? = some fn ∧ fn.body.isSome = true ∧ (fn.name == "runtime.NumGoroutine") = false)
  (h:∀ (w:World) ys r outs,F ys = some (true,r,outs) → outs = [] ∧ ∃ us v,ys.mapM plainV = some us ∧ plainV r = some v ∧ Calls P f us.toArray w fun e w' => e = .returned v ∧ RowKit.Below w.heap.size w w'):Sound P f ms F := by
 refine ⟨hfn,fun w S ψ ys vs r outs hF hh hg => ?_⟩
 obtain ⟨rfl,us,v,h1,h2,h3⟩ := h w ys r outs hF
 rw [givenAll_plain hm hg h1]
 refine Calls.mono h3 ?_
 rintro e w' ⟨rfl,hb⟩
 refine ⟨S,fun _ _ _ => False,⟨hb.os,hb.tape,hb.output,hb.size,fun g hg' _ => ⟨hb.block g hg',Iff.rfl,fun ⟨_,_,h⟩ => h⟩,⟨fun g hg' => Nat.lt_of_lt_of_le (hh.lt g hg') hb.size,fun _ _ _ h => h.elim,fun _ _ _ _ _ h => h.elim⟩⟩,?_,?_⟩
 ·unfold plainV at h2
  split at h2
  ·cases h2; exact ⟨[_],⟨rfl,rfl,trivial⟩,rfl,fun _ => rfl⟩
  ·cases h2; exact ⟨[_],⟨rfl,rfl,trivial⟩,rfl,fun _ => rfl⟩
  ·cases h2; exact ⟨[_],⟨rfl,rfl,trivial⟩,rfl,fun _ => rfl⟩
  ·cases h2
 ·have:∀ (ms:List PM) (i:Nat) (us:List Value),(∀ m ∈ ms,m = .own) → ms.length = us.length → OutAll w' S (fun _ _ _ => False) i ms us [] := by
   intro ms
   induction ms with
   | nil => intro i us _ hl; cases us with
    | nil => rfl
    | cons _ _ => cases hl
   | cons m ms ih =>
    intro i us hm hl
    cases us with
    | nil => cases hl
    | cons u us =>
     have := hm m (by simp)
     subst this
     exact ih (i + 1) us (fun m h => hm m (by simp [h])) (by simpa using hl)
  refine this ms 0 us hm ?_
  have h4 := givenAll_plain hm hg h1
  have:∀ (ms:List PM) (i:Nat) (ys:List RV) (vs:List Value),GivenAll w S ψ i ms ys vs → ms.length = vs.length := by
   intro ms
   induction ms with
   | nil => intro i ys vs hg; cases ys <;> cases vs <;> first | rfl | exact hg.elim
   | cons m ms ih => intro i ys vs hg; cases ys <;> cases vs <;> first | exact hg.elim | (simp only [List.length_cons]; rw [ih _ _ _ hg.2])
  rw [this ms 0 ys vs hg,h4]
section
variable {G:Beg} {s s':St} {a:Act} {w w':World} {W W':Wit} {P:Program} {E:Env}
end
abbrev itI (l:List (ByteArray×List Int)) (i:Int):ByteArray×List Int := at_ (.pair .str (.sl 3 (.int .i64))) l (Int.toNat i)
end Go.Proofs.YtedhpmhlmdcpbaaGreatDoor.E
