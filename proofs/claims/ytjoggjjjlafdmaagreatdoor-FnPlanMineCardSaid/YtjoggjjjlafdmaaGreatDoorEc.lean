/- An engine of values, proved sound for the model, used for the proof: part 3. No conditions. -/
import Derived.Test.YtjoggjjjlafdmaaGreatDoorEb
set_option linter.all false
namespace Go.Proofs.YtjoggjjjlafdmaaGreatDoor.E
open Go
set_option maxRecDepth 100000
set_option maxHeartbeats 0
def plainV:RV → Option Value
 | .val false [.int k n] => some (.int k n)
 | .val false [.bool b] => some (.bool b)
 | .val false [.str s] => some (.string s)
 | _ => none
theorem given_plain {w:World} {S:Nat → Prop} {ψ:Nat → Nat → Prop} {y:RV} {v u:Value} (h:Given w S ψ .own y v) (hp:plainV y = some u):v = u := by
 unfold plainV at hp
 split at hp
 ·cases hp
  obtain ⟨vs,⟨_,h1⟩,h2,_⟩ := h
  match vs,h1 with
  | [x],h1 => have e:x = _ := h1.1; rw [h2,e]; rfl
 ·cases hp
  obtain ⟨vs,⟨_,h1⟩,h2,_⟩ := h
  match vs,h1 with
  | [x],h1 => have e:x = _ := h1.1; rw [h2,e]; rfl
 ·cases hp
  obtain ⟨vs,⟨_,h1⟩,h2,_⟩ := h
  match vs,h1 with
  | [x],h1 => have e:x = _ := h1.1; rw [h2,e]; rfl
 ·cases hp
theorem givenAll_plain {w:World} {S:Nat → Prop} {ψ:Nat → Nat → Nat → Prop}:∀ {ms:List PM} {ys:List RV} {vs us:List Value} {i:Nat},(∀ m ∈ ms,m = .own) → GivenAll w S ψ i ms ys vs → ys.mapM plainV = some us → vs = us
 | [],[],[],us,_,_,_,h => by simp at h; exact h.symm ▸ rfl
 | m :: ms,y :: ys,v :: vs,us,i,hm,hg,h => by
  have := hm m (by simp)
  subst this
  simp only [List.mapM_cons,Option.pure_def,Option.bind_eq_bind,Option.bind_eq_some_iff,Option.some.injEq] at h
  obtain ⟨u,h1,us',h2,rfl⟩ := h
  rw [given_plain hg.1 h1,givenAll_plain (fun m h => hm m (by simp [h])) hg.2 h2]
 | [],[],_ :: _,_,_,_,hg,_ => hg.elim
 | [],_ :: _,_,_,_,_,hg,_ => hg.elim
 | _ :: _,[],_,_,_,_,hg,_ => hg.elim
 | _ :: _,_ :: _,[],_,_,_,hg,_ => hg.elim
theorem sound_plain {P:Program} {f:Nat} {ms:List PM} {F:FSem} (hm:∀ m ∈ ms,m = .own) (hfn:∃ fn,P.funcs[f]? = some fn ∧ fn.body.isSome = true ∧ (fn.name == "runtime.NumGoroutine") = false)
  (h:∀ (w:World) ys r outs,F ys = some (true,r,outs) → outs = [] ∧ ∃ us v,ys.mapM plainV = some us ∧ plainV r = some v ∧ Calls P f us.toArray w fun e w' => e = .returned v ∧ RowKit.Below w.heap.size w w'):Sound P f ms F := by
 refine ⟨hfn,fun w S ψ ys vs r outs hF hh hg => ?_⟩
 obtain ⟨rfl,us,v,h1,h2,h3⟩ := h w ys r outs hF
 rw [givenAll_plain hm hg h1]
 refine Calls.mono h3 ?_
 rintro e w' ⟨rfl,hb⟩
 refine ⟨S,fun _ _ _ => False,⟨hb.os,hb.tape,hb.output,hb.size,fun g hg' _ => ⟨hb.block g hg',Iff.rfl,fun ⟨_,_,h⟩ => h⟩,⟨fun g hg' => Nat.lt_of_lt_of_le (hh.lt g hg') hb.size,fun _ _ _ h => h.elim,fun _ _ _ _ _ h => h.elim⟩⟩,?_,?_⟩
 ·unfold plainV at h2
  split at h2
  ·cases h2; exact ⟨[_],⟨rfl,rfl,trivial⟩,rfl,fun _ => rfl⟩
  ·cases h2; exact ⟨[_],⟨rfl,rfl,trivial⟩,rfl,fun _ => rfl⟩
  ·cases h2; exact ⟨[_],⟨rfl,rfl,trivial⟩,rfl,fun _ => rfl⟩
  ·cases h2
 ·have:∀ (ms:List PM) (i:Nat) (us:List Value),(∀ m ∈ ms,m = .own) → ms.length = us.length → OutAll w' S (fun _ _ _ => False) i ms us [] := by
   intro ms
   induction ms with
   | nil => intro i us _ hl; cases us with
    | nil => rfl
    | cons _ _ => cases hl
   | cons m ms ih =>
    intro i us hm hl
    cases us with
    | nil => cases hl
    | cons u us =>
     have := hm m (by simp)
     subst this
     exact ih (i + 1) us (fun m h => hm m (by simp [h])) (by simpa using hl)
  refine this ms 0 us hm ?_
  have h4 := givenAll_plain hm hg h1
  have:∀ (ms:List PM) (i:Nat) (ys:List RV) (vs:List Value),GivenAll w S ψ i ms ys vs → ms.length = vs.length := by
   intro ms
   induction ms with
   | nil => intro i ys vs hg; cases ys <;> cases vs <;> first | rfl | exact hg.elim
   | cons m ms ih => intro i ys vs hg; cases ys <;> cases vs <;> first | exact hg.elim | (simp only [List.length_cons]; rw [ih _ _ _ hg.2])
  rw [this ms 0 ys vs hg,h4]
theorem given_cases {w:World} {S:Nat → Prop} {ψ:Nat → Nat → Prop} {el:Nat} {e:Ty} {l:List e.den} {v:Value} (h:Given w S ψ .rd (.val false [.sl .any el e l]) v) :
  (l = [] ∧ Given w S ψ .rd (.val false [.nil el e]) v) ∨ Given w S ψ .rd (.val false [.sl .non el e l]) v := by
 obtain ⟨vs,⟨h1,h2⟩,h3,h4⟩ := h
 match vs,h2 with
 | [x],h2 =>
  obtain ⟨_,A,cap,e1,e2,e3⟩ := h2.1
  have e1:x = .slice A l.length cap := by simpa using e1
  cases A with
  | none =>
   have hl:l = [] := by
    cases l with
    | nil => rfl
    | cons a l => obtain ⟨g,off,c,h,_⟩ := e3 0 a rfl; cases h
   subst hl
   have := e2.2 rfl
   subst this
   exact .inl ⟨rfl,[x],⟨rfl,e1,trivial⟩,h3,fun _ => rfl⟩
  | some a => exact .inr ⟨[x],⟨rfl,⟨⟨a,_,_,e1⟩,some a,cap,by rw [e1],e2,e3⟩,trivial⟩,h3,fun _ => rfl⟩
theorem sound_cases {P:Program} {f:Nat} {F1 F2:FSem} {el:Nat} {e:Ty} (h1:Sound P f [.rd] F1) (h2:Sound P f [.rd] F2) {F:FSem}
  (hF:∀ ys r outs,F ys = some (true,r,outs) → ∃ l:List e.den,ys = [.val false [.sl .any el e l]] ∧ (l = [] → F1 [.val false [.nil el e]] = some (true,r,outs)) ∧ F2 [.val false [.sl .non el e l]] = some (true,r,outs)):Sound P f [.rd] F := by
 refine ⟨h1.fn,fun w S ψ ys vs r outs hFy hh hg => ?_⟩
 obtain ⟨l,rfl,k1,k2⟩ := hF ys r outs hFy
 match vs,hg with
 | [v],hg =>
  rcases given_cases hg.1 with ⟨e1,g⟩ | g
  ·exact h1.calls w S ψ _ [v] r outs (k1 e1) hh ⟨g,trivial⟩
  ·exact h2.calls w S ψ _ [v] r outs k2 hh ⟨g,trivial⟩
section
variable {G:Beg} {s s':St} {a:Act} {w w':World} {W W':Wit} {P:Program} {E:Env}
def execFnB (E:Env) (fn:Func) (ms:List PM) (t:Nat) (xs:List RV):Tr (RV×List (List Cell)) :=
 match fn.body with
 | none => .fail
 | some c => exec E 0 c (St.of (enter 0 ms xs)) fun ex s => match ex with
  | .exit _ => .fail
  | _ => (Prg.outP t .bx).tr s fun r _ => .done (.val true r,[])
theorem fn_okB (hE:Good P E) (hm:P.follows .mixedOrders = true) {f:Nat} {fn:Func} {c:Code} {ms:List PM} {F:List RV → Option (Bool×List Cell×List (List Cell))} {tr:Nat} (hf:P.funcs[f]? = some fn) (hb:fn.body = some c) (hname:(fn.name == "runtime.NumGoroutine") = false) (hd:dstB fn.ntmps ms c = true) (hn:ms.length ≤ fn.ntmps)
  (hres:fn.results.toList = [.tmp tr]) (hwr:∀ m ∈ ms,m.wr = false)
  (hF:∀ ys r outs,F ys = some (true,r,outs) → outs = [] ∧ ∃ n,(execFnB E fn ms tr ys).To E (LT E n) (.val true r,[])):SoundB P f ms F := by
 refine ⟨⟨fn,hf,by rw [hb]; rfl,hname⟩,fun w S ψ ys vs r outs hFy hands hgiven => ?_⟩
 obtain ⟨rfl,n,hex⟩ := hF ys r outs hFy
 have hlen := hgiven.len
 unfold execFnB at hex
 rw [hb] at hex
 let G:Beg := ⟨w,S,fun g => ∃ i c,ψ i c g,fn.ntmps,fun i => match ms[i]? with
  | some m => if m.wr then vs[i]? else none
  | none => none⟩
 let a0:Act := { tmps := vs.toArray ++ Array.replicate (fn.ntmps - vs.toArray.size) undef,defers := [] }
 have ha:∀ i v,vs[i]? = some v → a0.tmps.getD i undef = v := by
  intro i v hi
  have hlt:i < vs.length := (List.getElem?_eq_some_iff.1 hi).1
  show (vs.toArray ++ _).getD i undef = v
  rw [Array.getD_eq_getD_getElem?,Array.getElem?_append_left (by simpa using hlt)]
  simp [hi]
 have hfix:∀ i v,G.fix i = some v → ∃ m,ms[i]? = some m ∧ m.wr = true ∧ vs[i]? = some v := by
  intro i v hi
  have hi:(match ms[i]? with
   | some m => if m.wr then vs[i]? else none
   | none => none) = some v := hi
  split at hi
  ·rename_i m hmi
   split at hi
   ·rename_i hw; exact ⟨m,hmi,hw,hi⟩
   ·cases hi
  ·cases hi
 have hW:∀ g,begω w S ψ g ≠ none → g < w.heap.size := by
  intro g hg
  by_cases hx:∃ p:Nat×Nat,ψ p.1 p.2 g
  ·obtain ⟨p,hp⟩ := hx; exact (hands.own _ _ _ hp).1
  ·unfold begω at hg
   rw [dif_neg hx] at hg
   split at hg
   ·exact absurd rfl hg
   ·split at hg
    ·assumption
    ·exact absurd rfl hg
 have hbase:Base G a0 w (begW w S ψ ms vs) := by
  refine ⟨?_,rfl,fun i v hi => ?_,hW,rfl,rfl,rfl,Nat.le_refl _,fun g hg hO => ⟨?_,rfl⟩⟩
  ·show (vs.toArray ++ Array.replicate (fn.ntmps - vs.toArray.size) undef).size = fn.ntmps
   simp
   omega
  ·obtain ⟨m,_,_,h3⟩ := hfix i v hi
   exact ha i v h3
  ·have hx:¬ ∃ p:Nat×Nat,ψ p.1 p.2 g := fun ⟨p,hp⟩ => hO ⟨p.1,p.2,hp⟩
   by_cases hS:S g
   ·exact .inl ⟨hS,begω_S hands hS⟩
   ·refine .inr ⟨hS,?_⟩
    show begω w S ψ g = _
    unfold begω
    rw [dif_neg hx,if_neg hS,if_pos hg]
 have hRel:Rel G (St.of (enter 0 ms ys)) a0 w (begW w S ψ ms vs) := of_rel0 hbase (enter_ok (a := a0) hands ms vs ha ms 0 ys vs (fun p => by simp) (fun p => by simp) hgiven)
 have hdst:DstOk G c := by
  intro ops ho o hoo x hx
  simp only [dstB,List.all_eq_true] at hd
  have := hd ops ho o hoo
  rw [hx] at this
  simp only [Bool.and_eq_true,decide_eq_true_eq,Bool.not_eq_true'] at this
  refine ⟨this.1,?_⟩
  show (match ms[x]? with
   | some m => if m.wr then vs[x]? else none
   | none => none) = none
  cases hmx:ms[x]? with
  | none => rfl
  | some m =>
   have h2 := this.2
   rw [hmx] at h2
   simp at h2
   simp [h2]
 refine calls_of_wp hf hb (exec_ok hE hm n c 0 hdst hex hRel (fun ex s' a' w' W' h' hk => ?_))
 have key:((Prg.outP tr .bx).tr s' fun r _ => .done (.val true r,[]):Tr (RV×List (List Cell))).To E (LT E n) (.val true r,[]) → a'.defers = [] ∧ ∃ v,(results fn a'.tmps).run P w' = .ok v w' ∧ ∃ S' ψ',Trip w S ψ w' S' ψ' ∧ BoxRes w' S' (ψ' 0) r v ∧ OutAll w' S' ψ' 0 ms vs [] := by
  intro hk
  obtain ⟨x,s2,h1,h2⟩ := tr_run hk
  have h2:x = r := by injection h2 with h2 _; injection h2
  subst h2
  obtain ⟨k1,χ,O,ho,hbox⟩ := outP_run h' (m := .bx) rfl h1
  obtain ⟨ad,b,hv,hab⟩ := hbox rfl
  let ψ0:Nat → Nat → Prop := fun c g => match c with
   | 0 => g = ad.block
   | c + 1 => χ c g
  let ψ':Nat → Nat → Nat → Prop := fun j c g => j = 0 ∧ ψ0 c g
  have e0:ψ' 0 = ψ0 := by funext c g; exact propext ⟨fun h => h.2,fun h => ⟨rfl,h⟩⟩
  have nb:∀ {g b} {s:St},W'.ω g = some (.B b) → ¬ Loose s W' g := fun e hn => Dead.not_B (hn.dead e)
  have lab:∀ j c g,ψ' j c g → W'.ω g ≠ none ∧ W'.ω g ≠ some .F := by
   rintro j c g ⟨_,hg⟩
   cases c with
   | zero => have hg:g = ad.block := hg; rw [hg,hab]; exact ⟨by simp,by simp⟩
   | succ c => have h1 := (O.away c g hg).1; exact ⟨h1.ne,fun e => Dead.not_F (h1.dead e)⟩
  have happ:∀ j c j' c' g,ψ' j c g → ψ' j' c' g → j = j' ∧ c = c' := by
   rintro j c j' c' g ⟨rfl,hg⟩ ⟨rfl,hg'⟩
   refine ⟨rfl,?_⟩
   cases c with
   | zero =>
    have hg:g = ad.block := hg
    cases c' with
    | zero => rfl
    | succ c' => exact (nb (by rw [hg]; exact hab) (O.away c' g hg').1).elim
   | succ c =>
    cases c' with
    | zero =>
     have hg':g = ad.block := hg'
     exact (nb (by rw [hg']; exact hab) (O.away c g hg).1).elim
    | succ c' => rw [O.apart c c' g hg hg']
  have hout:∀ (ms:List PM) (i:Nat) (vs:List Value),(∀ m ∈ ms,m.wr = false) → vs.length = ms.length → OutAll w' (SN w' W') ψ' i ms vs [] := by
   intro ms
   induction ms with
   | nil => intro i vs _ hl; have:vs = [] := List.length_eq_zero_iff.1 hl; subst this; rfl
   | cons m ms ih =>
    intro i vs hm hl
    cases vs with
    | nil => cases hl
    | cons v vs =>
     unfold OutAll
     rw [if_neg (by rw [hm m (by simp)]; simp)]
     exact ih (i + 1) vs (fun m h => hm m (by simp [h])) (by simpa using hl)
  refine ⟨h'.defers,oneOf [a'.tmps.getD tr undef],results_run (by rw [hres]; rfl),SN w' W',ψ',⟨h'.os,h'.tape,h'.output,h'.grow,fun g hg hno => ?_,⟨fun g hg => hg.1,fun j c g hg => ⟨h'.lt g (lab j c g hg).1,fun hn => (lab j c g hg).1 hn.2⟩,happ⟩⟩,?_,hout ms 0 vs hwr hlen⟩
  ·obtain ⟨e1,e2⟩ := h'.old g hg hno
   refine ⟨e2,?_,?_⟩
   ·rcases e1 with ⟨e3,e4⟩ | ⟨e3,e4⟩
    ·exact ⟨fun _ => e3,fun _ => ⟨Nat.lt_of_lt_of_le hg h'.grow,e4⟩⟩
    ·exact ⟨fun hs => (by have := hs.2; rw [e4] at this; cases this),fun hs => absurd hs e3⟩
   ·rintro ⟨j,c,hj⟩
    obtain ⟨f1,f2⟩ := lab j c g hj
    rcases e1 with ⟨_,e4⟩ | ⟨_,e4⟩
    ·exact f1 e4
    ·exact f2 e4
  ·rw [e0]
   have := ho ψ0 (fun _ => rfl) (fun ad' _ e => by rw [hv] at e; injection e with e; injection e with e; subst e; rfl)
   exact this
 cases ex with
 | exit id => exact hk.elim
 | normal => obtain ⟨h1,v,h2,h3⟩ := key hk; exact ⟨h1,v,h2,h3⟩
 | ret => obtain ⟨h1,v,h2,h3⟩ := key hk; exact ⟨h1,v,h2,h3⟩
theorem fn_genB {P:Program} {E:Env} (hE:Good P E) (hm:P.follows .mixedOrders = true) {f:Nat} {fn:Func} {c:Code} {ms:List PM} {F:List RV → Option (Bool×List Cell×List (List Cell))} {tr:Nat} {o:Orc} {k:Nat} (hf:P.funcs[f]? = some fn) (hb:fn.body = some c) (hname:(fn.name == "runtime.NumGoroutine") = false) (hd:dstB fn.ntmps ms c = true) (hn:ms.length ≤ fn.ntmps)
  (hres:fn.results.toList = [.tmp tr]) (hwr:∀ m ∈ ms,m.wr = false) (ho:OrcOk E o (loopsAll 0 c) k)
  (hF:∀ ys r outs,F ys = some (true,r,outs) → outs = [] ∧ collapse E o (execFnB E fn ms tr ys) = some (true,.val true r,[])):SoundB P f ms F := by
 refine fn_okB hE hm hf hb hname hd hn hres hwr (fun ys r outs h => ?_)
 obtain ⟨h0,h1⟩ := hF ys r outs h
 refine ⟨h0,0 + k,?_⟩
 have h1 := collapse_to h1
 unfold execFnB at h1 ⊢
 rw [hb] at h1 ⊢
 refine exec_mono c 0 _ _ (fun p hp => ho 0 p (loopsAll_of c 0 p hp)) (fun ex s h => ?_) h1
 cases ex with
 | exit id => exact h
 | normal => exact tr_mono (L1 := OR o) (L2 := LT E (0 + k)) (p := Prg.outP tr .bx) (k := fun r _ => .done (RV.val true r,[])) (fun _ _ h => h) h
 | ret => exact tr_mono (L1 := OR o) (L2 := LT E (0 + k)) (p := Prg.outP tr .bx) (k := fun r _ => .done (RV.val true r,[])) (fun _ _ h => h) h
end
abbrev u1 (x:Int):Int := IntKind.wrap .i64 (x + 1)
abbrev itI (l:List (ByteArray×List Int)) (i:Int):ByteArray×List Int := at_ (.pair .str (.sl 3 (.int .i64))) l (Int.toNat i)
end Go.Proofs.YtjoggjjjlafdmaaGreatDoor.E
