/- An engine of values, proved sound for the model, used for the proof: part 3. No conditions. -/
import Derived.Test.YtedhpmhlmdcpbaaGreatDoorEb
set_option linter.all false
namespace Go.Proofs.YtedhpmhlmdcpbaaGreatDoor.E
open Go
set_option maxRecDepth 100000
set_option maxHeartbeats 0
def plainV:RV → Option Value
 | .val false [.int k n] => some (.int k n)
 | .val false [.bool b] => some (.bool b)
 | .val false [.str s] => some (.string s)
 | _ => none
theorem given_plain {w:World} {S:Nat → Prop} {ψ:Nat → Nat → Prop} {y:RV} {v u:Value} (h:Given w S ψ .own y v) (hp:plainV y = some u):v = u := by
 unfold plainV at hp
 split at hp
 ·cases hp
  obtain ⟨vs,⟨_,h1⟩,h2,_⟩ := h
  match vs,h1 with
  | [x],h1 => have e:x = _ := h1.1; rw [h2,e]; rfl
 ·cases hp
  obtain ⟨vs,⟨_,h1⟩,h2,_⟩ := h
  match vs,h1 with
  | [x],h1 => have e:x = _ := h1.1; rw [h2,e]; rfl
 ·cases hp
  obtain ⟨vs,⟨_,h1⟩,h2,_⟩ := h
  match vs,h1 with
  | [x],h1 => have e:x = _ := h1.1; rw [h2,e]; rfl
 ·cases hp
theorem givenAll_plain {w:World} {S:Nat → Prop} {ψ:Nat → Nat → Nat → Prop}:∀ {ms:List PM} {ys:List RV} {vs us:List Value} {i:Nat},(∀ m ∈ ms,m = .own) → GivenAll w S ψ i ms ys vs → ys.mapM plainV = some us → vs = us
 | [],[],[],us,_,_,_,h => by simp at h; exact h.symm ▸ rfl
 | m :: ms,y :: ys,v :: vs,us,i,hm,hg,h => by
  have := hm m (by simp)
  subst this
  simp only [List.mapM_cons,Option.pure_def,Option.bind_eq_bind,Option.bind_eq_some_iff,Option.some.injEq] at h
  obtain ⟨u,h1,us',h2,rfl⟩ := h
  rw [given_plain hg.1 h1,givenAll_plain (fun m h => hm m (by simp [h])) hg.2 h2]
 | [],[],_ :: _,_,_,_,hg,_ => hg.elim
 | [],_ :: _,_,_,_,_,hg,_ => hg.elim
 | _ :: _,[],_,_,_,_,hg,_ => hg.elim
 | _ :: _,_ :: _,[],_,_,_,hg,_ => hg.elim
theorem sound_plain {P:Program} {f:Nat} {ms:List PM} {F:FSem} (hm:∀ m ∈ ms,m = .own) (hfn:∃ fn,P.funcs[f]? = some fn ∧ fn.body.isSome = true ∧ (fn.name == "runtime.NumGoroutine") = false)
  (h:∀ (w:World) ys r outs,F ys = some (true,r,outs) → outs = [] ∧ ∃ us v,ys.mapM plainV = some us ∧ plainV r = some v ∧ Calls P f us.toArray w fun e w' => e = .returned v ∧ RowKit.Below w.heap.size w w'):Sound P f ms F := by
 refine ⟨hfn,fun w S ψ ys vs r outs hF hh hg => ?_⟩
 obtain ⟨rfl,us,v,h1,h2,h3⟩ := h w ys r outs hF
 rw [givenAll_plain hm hg h1]
 refine Calls.mono h3 ?_
 rintro e w' ⟨rfl,hb⟩
 refine ⟨S,fun _ _ _ => False,⟨hb.os,hb.tape,hb.output,hb.size,fun g hg' _ => ⟨hb.block g hg',Iff.rfl,fun ⟨_,_,h⟩ => h⟩,⟨fun g hg' => Nat.lt_of_lt_of_le (hh.lt g hg') hb.size,fun _ _ _ h => h.elim,fun _ _ _ _ _ h => h.elim⟩⟩,?_,?_⟩
 ·unfold plainV at h2
  split at h2
  ·cases h2; exact ⟨[_],⟨rfl,rfl,trivial⟩,rfl,fun _ => rfl⟩
  ·cases h2; exact ⟨[_],⟨rfl,rfl,trivial⟩,rfl,fun _ => rfl⟩
  ·cases h2; exact ⟨[_],⟨rfl,rfl,trivial⟩,rfl,fun _ => rfl⟩
  ·cases h2
 ·have:∀ (ms:List PM) (i:Nat) (us:List Value),(∀ m ∈ ms,m = .own) → ms.length = us.length → OutAll w' S (fun _ _ _ => False) i ms us [] := by
   intro ms
   induction ms with
   | nil => intro i us _ hl; cases us with
    | nil => rfl
    | cons _ _ => cases hl
   | cons m ms ih =>
    intro i us hm hl
    cases us with
    | nil => cases hl
    | cons u us =>
     have := hm m (by simp)
     subst this
     exact ih (i + 1) us (fun m h => hm m (by simp [h])) (by simpa using hl)
  refine this ms 0 us hm ?_
  have h4 := givenAll_plain hm hg h1
  have:∀ (ms:List PM) (i:Nat) (ys:List RV) (vs:List Value),GivenAll w S ψ i ms ys vs → ms.length = vs.length := by
   intro ms
   induction ms with
   | nil => intro i ys vs hg; cases ys <;> cases vs <;> first | rfl | exact hg.elim
   | cons m ms ih => intro i ys vs hg; cases ys <;> cases vs <;> first | exact hg.elim | (simp only [List.length_cons]; rw [ih _ _ _ hg.2])
  rw [this ms 0 ys vs hg,h4]
theorem given_cases {w:World} {S:Nat → Prop} {ψ:Nat → Nat → Prop} {el:Nat} {e:Ty} {l:List e.den} {v:Value} (h:Given w S ψ .rd (.val false [.sl .any el e l]) v) :
  (l = [] ∧ Given w S ψ .rd (.val false [.nil el e]) v) ∨ Given w S ψ .rd (.val false [.sl .non el e l]) v := by
 obtain ⟨vs,⟨h1,h2⟩,h3,h4⟩ := h
 match vs,h2 with
 | [x],h2 =>
  obtain ⟨_,A,cap,e1,e2,e3⟩ := h2.1
  have e1:x = .slice A l.length cap := by simpa using e1
  cases A with
  | none =>
   have hl:l = [] := by
    cases l with
    | nil => rfl
    | cons a l => obtain ⟨g,off,c,h,_⟩ := e3 0 a rfl; cases h
   subst hl
   have := e2.2 rfl
   subst this
   exact .inl ⟨rfl,[x],⟨rfl,e1,trivial⟩,h3,fun _ => rfl⟩
  | some a => exact .inr ⟨[x],⟨rfl,⟨⟨a,_,_,e1⟩,some a,cap,by rw [e1],e2,e3⟩,trivial⟩,h3,fun _ => rfl⟩
theorem sound_cases {P:Program} {f:Nat} {F1 F2:FSem} {el:Nat} {e:Ty} (h1:Sound P f [.rd] F1) (h2:Sound P f [.rd] F2) {F:FSem}
  (hF:∀ ys r outs,F ys = some (true,r,outs) → ∃ l:List e.den,ys = [.val false [.sl .any el e l]] ∧ (l = [] → F1 [.val false [.nil el e]] = some (true,r,outs)) ∧ F2 [.val false [.sl .non el e l]] = some (true,r,outs)):Sound P f [.rd] F := by
 refine ⟨h1.fn,fun w S ψ ys vs r outs hFy hh hg => ?_⟩
 obtain ⟨l,rfl,k1,k2⟩ := hF ys r outs hFy
 match vs,hg with
 | [v],hg =>
  rcases given_cases hg.1 with ⟨e1,g⟩ | g
  ·exact h1.calls w S ψ _ [v] r outs (k1 e1) hh ⟨g,trivial⟩
  ·exact h2.calls w S ψ _ [v] r outs k2 hh ⟨g,trivial⟩
section
variable {G:Beg} {s s':St} {a:Act} {w w':World} {W W':Wit} {P:Program} {E:Env}
end
end Go.Proofs.YtedhpmhlmdcpbaaGreatDoor.E
