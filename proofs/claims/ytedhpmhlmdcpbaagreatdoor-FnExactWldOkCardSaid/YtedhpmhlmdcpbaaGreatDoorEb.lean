/- An engine of values, proved sound for the model, used for the proof: part 2. No conditions. -/
import Derived.Test.YtedhpmhlmdcpbaaGreatDoorEa
import Derived.ChangeArms
import Derived.ChangeSame
import Derived.DataReads
import Derived.DataElems
import Derived.Below
set_option linter.all false
namespace Go.Proofs.YtedhpmhlmdcpbaaGreatDoor.E
open Go
set_option maxRecDepth 100000
set_option maxHeartbeats 0
section
variable {G:Beg} {s s':St} {a:Act} {w w':World} {W W':Wit} {P:Program} {E:Env}
theorem FAll.get {X:Ctx} {ψ:Nat → Nat → Prop}:∀ {cs:List Cell} {vs:List Value} {k:Nat},FAll X ψ k cs vs → ∀ {j:Nat} {c:Cell},cs[j]? = some c → ∃ v,vs[j]? = some v ∧ FRep X (ψ (k + j)) c v
 | c :: cs,v :: vs,k,h,0,x,hx => ⟨v,rfl,by simp at hx; subst hx; exact h.1⟩
 | c :: cs,v :: vs,k,h,j + 1,x,hx => by
  obtain ⟨u,h1,h2⟩ := FAll.get h.2 (j := j) (by simpa using hx)
  refine ⟨u,by simpa using h1,?_⟩
  rwa [show k + (j + 1) = k + 1 + j by omega]
theorem new_elem {X:Ctx} {e:Ty} {base ys:List Cell} {bvals us:List Value} {ψ0 ψn:Nat → Nat → Prop} {off:Nat} {y:e.den} {d':Bool} (hb:FAll X ψ0 0 base bvals) (h0:∀ i j g,ψ0 i g → ψ0 j g → i = j) (hy:FAll X ψn 0 ys us) (hn:∀ i j g,ψn i g → ψn j g → i = j)
  (h0n:∀ i j g,ψ0 i g → ψn j g → False) (hl:off + ys.length ≤ base.length) (hp:pack e (splice off base ys) = some (y,d',[])) :
  (d' = true → OWc X.w e y (fun q => (∃ j,ψ0 j q) ∨ ∃ j,ψn j q) (bvals.take off ++ us ++ bvals.drop (off + us.length))) ∧
  ROc X.w (fun q => X.S q ∨ (∃ j,ψ0 j q) ∨ ∃ j,ψn j q) e y (bvals.take off ++ us ++ bvals.drop (off + us.length)) := by
 have hbl := hb.length
 have hyl := hy.length
 have hl':off + us.length ≤ bvals.length := by omega
 let ψ:Nat → Nat → Prop := fun j => if off ≤ j ∧ j < off + ys.length then ψn (j - off) else ψ0 j
 have hψ:∀ i j g,ψ i g → ψ j g → i = j := by
  intro i j g hi hj
  by_cases h1:off ≤ i ∧ i < off + ys.length <;> by_cases h2:off ≤ j ∧ j < off + ys.length
  ·simp only [ψ,h1,h2,and_self,if_true] at hi hj; have := hn _ _ g hi hj; omega
  ·simp only [ψ,h1,and_self,if_true] at hi; simp only [ψ,if_neg h2] at hj; exact (h0n _ _ g hj hi).elim
  ·simp only [ψ,if_neg h1] at hi; simp only [ψ,h2,and_self,if_true] at hj; exact (h0n _ _ g hi hj).elim
  ·simp only [ψ,if_neg h1] at hi; simp only [ψ,if_neg h2] at hj; exact h0 _ _ g hi hj
 have hall:FAll X ψ 0 (splice off base ys) (bvals.take off ++ us ++ bvals.drop (off + us.length)) := by
  refine FAll.of _ _ 0 (by rw [splice_len hl]; simp; omega) (fun j c hj => ?_)
  rw [Nat.zero_add]
  unfold splice at hj
  rw [splice_get hl] at hj
  rw [splice_get hl']
  by_cases h1:off ≤ j ∧ j < off + ys.length
  ·rw [if_pos h1] at hj
   rw [if_pos (by omega)]
   obtain ⟨v,e1,e2⟩ := hy.get hj
   refine ⟨v,e1,?_⟩
   rw [Nat.zero_add] at e2
   simp only [ψ,h1,and_self,if_true]
   exact e2
  ·rw [if_neg h1] at hj
   rw [if_neg (by omega)]
   obtain ⟨v,e1,e2⟩ := hb.get hj
   refine ⟨v,e1,?_⟩
   rw [Nat.zero_add] at e2
   simp only [ψ,if_neg h1]
   exact e2
 obtain ⟨p1,p2,p3,p4⟩ := pack_rep hψ e _ _ 0 y d' [] hp hall
 have hlen:(splice off base ys).length = e.size := by
  have := congrArg List.length p1
  simp at this
  omega
 have htk:(bvals.take off ++ us ++ bvals.drop (off + us.length)).take e.size = bvals.take off ++ us ++ bvals.drop (off + us.length) := by
  apply List.take_of_length_le
  have h1 := hall.length
  rw [hlen] at h1
  exact Nat.le_of_eq h1.symm
 rw [htk] at p3 p4
 have hsub:∀ j q,ψ j q → (∃ j,ψ0 j q) ∨ ∃ j,ψn j q := by
  intro j q hq
  by_cases h1:off ≤ j ∧ j < off + ys.length
  ·simp only [ψ,h1,and_self,if_true] at hq; exact .inr ⟨_,hq⟩
  ·simp only [ψ,if_neg h1] at hq; exact .inl ⟨_,hq⟩
 exact ⟨fun hd => OWc.move (fun q ⟨j,_,_,hq⟩ => ⟨hsub j q hq,rfl⟩) _ _ _ (p3 hd),ROc.move (fun q hq => ⟨hq.imp id (fun ⟨j,hj⟩ => hsub j q hj),rfl⟩) _ _ _ p4⟩
theorem ok_store (hE:E.tt = mkTI P) {o:Oper} {t:TypeId} {x y:Operand} (ho:o.op = .store t x y):OpOk P E G o := by
 intro s s' r a w W hr h K Q hK
 simp only [Prg.opP,ho] at hr
 obtain ⟨u,s1,q1,q2⟩ := bind_run hr
 obtain ⟨rfl,hu⟩ := evC_run h q1
 obtain ⟨v,s2,q3,q4⟩ := bind_run q2
 obtain ⟨rfl,hv⟩ := ev_run h q3
 obtain ⟨ti,s3,q5,q6⟩ := bind_run q4
 obtain ⟨rfl,hti⟩ := tt_ti hE q5
 obtain ⟨_,s4,q7,q8⟩ := bind_run q6
 obtain ⟨rfl,rfl⟩ := pure_run q8
 clear hr q2 q4 q6 q8 q1 q3 q5
 unfold Prg.storeP at q7
 split at q7
 ·rename_i b ver off
  obtain ⟨new,s5,p1,p2⟩ := bind_run q7
  obtain ⟨rfl,hnl,hnr,hn1,hns,_⟩ := newCells_run p1 hv
  obtain ⟨fz,cs,p3,p4⟩ := getB_run p2
  split at p4
  ·rename_i hc
   obtain ⟨rfl,hoff⟩ := hc
   simp only [Prg.run,Option.some.injEq,Prod.mk.injEq] at p4
   obtain ⟨_,rfl⟩ := p4
   have hne:cs ≠ [] := by
    rintro rfl
    have := hti.pos
    simp only [List.length_nil] at hoff
    omega
   obtain ⟨g,ob,cur,el,had,hg,hfit,h'⟩ := rel_storeB h p3 hne hoff hnr hn1
   have hx := hu.2.2 (by simp [ctx,bvOf,p3])
   rw [show (ctx s5 w W).ad b = _ from had,Addr.add_mid] at hx
   exact wp_store ho hti hx hg hns hfit hn1 (hK _ _ W h' (VRep_one.2 trivial))
  ·cases p4
 ·rename_i i c ver k sz off
  obtain ⟨new,s5,p1,p2⟩ := bind_run q7
  obtain ⟨rfl,hnl,hnr,hn1,hns,_⟩ := newCells_run p1 hv
  obtain ⟨ys,s6,p3,p4⟩ := bind_run p2
  obtain ⟨h6,ψn,T⟩ := mapC_take new _ _ ys _ h p3 hnr
  obtain ⟨ro,p5,p6⟩ := getR_run p4
  obtain ⟨_,s7,p7,p8⟩ := bind_run p6
  obtain ⟨hsz,rfl⟩ := chk_run p7
  obtain ⟨_,s8,p9,p10⟩ := bind_run p8
  obtain ⟨hk,rfl⟩ := sure_run p9
  have hk:k < ro.l.length := by simpa using hk
  split at p10
  ·rename_i hc
   obtain ⟨hfz,hoff⟩ := hc
   split at p10
   ·rename_i yv d' hpk
    have eU:updE ro.e ro.l k (fun x => updV x (packAll ro.e (splice off (if ro.d = true then cellsOwn ro.e x else cellsOf ro.e x) ys))) = ro.l.set k yv := by
     unfold updE
     simp only
     rw [hpk]
     rfl
    rw [eU,ite_self] at p10
    simp only [Prg.run,Option.some.injEq,Prod.mk.injEq] at p10
    obtain ⟨_,rfl⟩ := p10
    clear p8 p6 p4 p2 q7 p9 p7 p1 p3
    generalize hus:(a.eval y).cells.toList = us at *
    have hysl:ys.length = us.length := T.len
    have hu6:CRep (ctx s8 w W) (.eptr i c ver k sz off) (a.eval x) := CRep.ext T.ext _ _ hu
    obtain ⟨g,n,cap,hsv,hx⟩ := hu6.2.2 (by simp [ctx,rvOf,p5])
    have hsv:W.sv i c = .slice (some ⟨g,0,none⟩) n cap := hsv
    have hob:(W.sv i c).ownBlock = some g := by rw [hsv]; rfl
    have hRR := h6.R i c ver ro p5
    obtain ⟨hz,hRR⟩ := hRR
    rw [if_neg (by simp [hfz])] at hRR
    obtain ⟨vals,o1,o2,o3⟩ := hRR
    have hvl:vals.length = ro.l.length * ro.e.size := o1.1
    obtain ⟨cap',cur,hcapn,hg,hcap1,hcap2,hcs,htk⟩:∃ cap' cur,W.sv i c = .slice (some ⟨g,0,none⟩) ro.l.length cap' ∧ w.heap[g]? = some (.cells cur ro.el (0,0)) ∧ ro.l.length ≤ cap' ∧ cap' ≤ maxLen ∧ cap' * ro.e.size ≤ cur.size ∧ cur.toList.take (ro.l.length * ro.e.size) = vals := by
     rcases o1.2 with ⟨e1,e2⟩ | ⟨g',cap',cur,e1,e2,e3,e4,e5,e6,e7⟩
     ·rw [hsv] at e1; cases e1
     ·rw [hsv] at e1
      injection e1 with e1 e1' e1''
      injection e1 with e1
      injection e1 with e1
      subst e1
      exact ⟨cap',cur,by rw [hsv,e1',e1''],e3,e4,e5,e6,e7⟩
    have hkm:(k + 1) * ro.e.size ≤ ro.l.length * ro.e.size := Nat.mul_le_mul_right _ hk
    rw [Nat.add_mul,Nat.one_mul] at hkm
    have hcapm:ro.l.length * ro.e.size ≤ cap' * ro.e.size := Nat.mul_le_mul_right _ hcap1
    rw [hysl] at hoff
    have hfit:k * ro.e.size + off + us.length ≤ cur.size := by omega
    have hfitv:k * ro.e.size + off + us.length ≤ vals.length := by omega
    generalize hcur':(cur.toList.take (k * ro.e.size + off) ++ us ++ cur.toList.drop (k * ro.e.size + off + us.length)).toArray = cur'
    generalize hvals':vals.take (k * ro.e.size + off) ++ us ++ vals.drop (k * ro.e.size + off + us.length) = vals'
    have hpart := part_splice (us := us) hvl hk hoff
    rw [hvals'] at hpart
    have hg':(w.setRow g cur').heap[g]? = some (.cells cur' ro.el (0,0)) := setRow_heap w g cur cur' ro.el _ hg
    have hoth:∀ q,q ≠ g → (w.setRow g cur').heap[q]? = w.heap[q]? := fun q hq => setRow_other w g q cur' hq
    have hcur'sz:cur'.size = cur.size := by rw [← hcur']; simp; omega
    have hown':ownR (w.setRow g cur') 0 ro.el ro.e.size (W.sv i c) (ro.l.set k yv).length vals' := by
     rw [List.length_set]
     refine ⟨by rw [← hvals']; simp; omega,.inr ⟨g,cap',cur',hcapn,Nat.zero_le _,hg',hcap1,hcap2,by rw [hcur'sz]; exact hcs,?_⟩⟩
     rw [← hcur',← hvals',← htk]
     apply List.ext_getElem?
     intro j
     rw [List.getElem?_take]
     have hcl:k * ro.e.size + off + us.length ≤ (cur.toList.take (ro.l.length * ro.e.size)).length := by rw [htk]; exact hfitv
     rw [splice_get hcl,List.getElem?_take]
     simp only [List.toList_toArray]
     rw [splice_get (by simpa using hfit)]
     by_cases hj:j < ro.l.length * ro.e.size
     ·simp only [hj,if_true]
     ·simp only [hj,if_false]
      rw [if_neg (by omega)]
    -- the sets: what the element held,and what comes
    have hpk' := packAll_some hpk
    have hTall := T.all
    have hnl':us.length ≤ ro.e.size := by omega
    have hψg:∀ j q,ψn j q → q ≠ g := by
     rintro j q hq rfl
     exact Dead.not_row p5 ((T.loose j q hq).1.dead (o2 q hob))
    have fin:∀ (r':Row) (W':Wit),Rel G (s8.set (.R i c) (.r ver (some r'))) a (w.setRow g cur') W' → s8.set (.R i c) (.r ver (some { ro with l := ro.l.set k yv,d := ro.e.flat || (ro.d&&d') })) = s8.set (.R i c) (.r ver (some r')) → o.wp P a w K Q := by
     intro r' W' hh e1
     rw [← e1] at hh
     have hx' := hx
     rw [← hsz] at hx'
     refine wp_store ho hti hx' hg hns (by rw [hus]; exact hfit) (by rw [hus]; exact hn1) ?_
     rw [hus,hcur']
     exact hK _ _ W' hh (VRep_one.2 trivial)
    have hbl:((vals.drop (k * ro.e.size)).take ro.e.size).length = ro.e.size := part_len hvl hk
    have hkeep:∀ q,(W.sv i c).ownBlock ≠ some q → (w.setRow g cur').heap[q]? = w.heap[q]? := fun q hq => hoth q (by rintro rfl; exact hq hob)
    have hSg:∀ q,W.ω q = none → q ≠ g := by rintro q hq rfl; rw [o2 q hob] at hq; cases hq
    have hlt:∀ j q,ψn j q → q < w.heap.size := fun j q hq => h6.lt q (T.loose j q hq).1.ne
    have hlo:∀ q,(∃ j,ψn j q) → Loose s8 W q := fun q ⟨j,hj⟩ => (T.loose j q hj).1
    have hz':zOk ro.z (W.sv i c) := hz
    have hget:∀ (j:Nat) (x:ro.e.den),(ro.l.set k yv)[j]? = some x → (j = k ∧ x = yv) ∨ (j ≠ k ∧ ro.l[j]? = some x) := by
     intro j x hj
     by_cases e1:j = k
     ·subst e1
      rw [List.getElem?_set_self hk] at hj
      exact .inl ⟨rfl,(Option.some.inj hj).symm⟩
     ·rw [List.getElem?_set_ne (Ne.symm e1)] at hj
      exact .inr ⟨e1,hj⟩
    by_cases hrd:ro.d = true
    ·rw [if_pos hrd] at o3
     simp only [hrd,if_true] at hpk'
     obtain ⟨χ,x1,x2,x3⟩ := o3
     obtain ⟨ψ0,y1,y2,y3⟩ := cellsOwn_rep (X := ctx s8 w W) _ _ _ _ (x3 k _ (at_get hk))
     have hx0:∀ i' q,ψ0 i' q → W.ω q = some (.R i c) ∧ q ≠ g := fun i' q hq => ⟨(x1 k q (y1 i' q hq).1).1,fun e1 => (x1 k q (y1 i' q hq).1).2 (by rw [e1]; exact hob)⟩
     have h0n:∀ i' j q,ψ0 i' q → ψn j q → False := by
      intro i' j q h1 h2
      exact Dead.not_row p5 ((T.loose j q h2).1.dead (hx0 i' q h1).1)
     obtain ⟨z1,z2⟩ := new_elem y3 y2 hTall T.apart h0n (by rw [cellsOwn_len,hysl]; exact hoff) hpk'
     by_cases hfl:ro.e.flat = true
     ·obtain ⟨W',f1,_⟩ := rel_updR (w' := w.setRow g cur') (r' := { ro with l := ro.l.set k yv,d := ro.e.flat || (ro.d&&d') }) h6 p5 hfz (fun _ => False) (fun _ => False) (fun _ h => h.elim) (fun _ h => h.elim) hkeep rfl rfl rfl (by simp)
       ⟨hz',by
        rw [if_neg (by simp [hfz])]
        refine ⟨vals',hown',fun q hq => .inr ⟨o2 q hq,fun h => h.elim⟩,?_⟩
        rw [if_pos (by simp [hfl])]
        refine ⟨fun _ _ => False,fun _ _ h => h.elim,fun _ _ _ h => h.elim,fun j x hj => ?_⟩
        rw [hpart j]
        rcases hget j x hj with ⟨e1,e2⟩ | ⟨e1,e2⟩
        ·rw [e2,if_pos e1]; exact OWc.move (fun q h => h.elim) _ _ _ (ROc.flat (φ := fun _ => False) _ _ _ hfl z2)
        ·rw [if_neg e1]; exact OWc.move (fun q h => h.elim) _ _ _ (ROc.flat (φ := fun _ => False) _ _ _ hfl (OWc.flat (S := fun _ => True) _ _ _ hfl (x3 j x e2)))⟩
      exact fin _ W' f1 rfl
     ·by_cases hd':d' = true
      ·obtain ⟨W',f1,_⟩ := rel_updR (w' := w.setRow g cur') (r' := { ro with l := ro.l.set k yv,d := ro.e.flat || (ro.d&&d') }) h6 p5 hfz (fun q => ∃ j,ψn j q) (fun _ => False) hlo (fun _ h => h.elim) hkeep rfl rfl rfl (by simp)
        ⟨hz',by
         rw [if_neg (by simp [hfz])]
         refine ⟨vals',hown',fun q hq => .inr ⟨o2 q hq,fun h => h.elim⟩,?_⟩
         rw [if_pos (by simp [hrd,hd'])]
         refine ⟨fun j q => if j = k then ((∃ j,ψ0 j q) ∨ ∃ j,ψn j q) else χ j q,fun j q hq => ?_,fun j1 j2 q h1 h2 => ?_,fun j x hj => ?_⟩
         ·by_cases e1:j = k
          ·simp only [e1,if_true] at hq
           rcases hq with ⟨j',hq⟩ | ⟨j',hq⟩
           ·exact ⟨.inr ⟨(hx0 j' q hq).1,fun h => h.elim⟩,fun e2 => (hx0 j' q hq).2 (by rw [hob] at e2; exact (Option.some.inj e2).symm)⟩
           ·exact ⟨.inl ⟨j',hq⟩,fun e2 => hψg j' q hq (by rw [hob] at e2; exact (Option.some.inj e2).symm)⟩
          ·simp only [e1,if_false] at hq
           exact ⟨.inr ⟨(x1 j q hq).1,fun h => h.elim⟩,(x1 j q hq).2⟩
         ·have cross:∀ j,j ≠ k → χ j q → ((∃ j,ψ0 j q) ∨ ∃ j,ψn j q) → False := by
           intro j hj hχ hq
           rcases hq with ⟨j',hq⟩ | ⟨j',hq⟩
           ·exact hj (x2 j k q hχ (y1 j' q hq).1)
           ·exact Dead.not_row p5 ((T.loose j' q hq).1.dead (x1 j q hχ).1)
          by_cases e1:j1 = k <;> by_cases e2:j2 = k
          ·rw [e1,e2]
          ·simp only [e1,if_true] at h1; simp only [e2,if_false] at h2; exact (cross j2 e2 h2 h1).elim
          ·simp only [e1,if_false] at h1; simp only [e2,if_true] at h2; exact (cross j1 e1 h1 h2).elim
          ·simp only [e1,if_false] at h1; simp only [e2,if_false] at h2; exact x2 j1 j2 q h1 h2
         ·rw [hpart j]
          rcases hget j x hj with ⟨e1,e2⟩ | ⟨e1,e2⟩
          ·rw [e2,if_pos e1]
           simp only [e1,if_true]
           refine OWc.move (fun q hq => ⟨hq,hoth q ?_⟩) _ _ _ (z1 hd')
           rcases hq with ⟨j',hq⟩ | ⟨j',hq⟩
           ·exact (hx0 j' q hq).2
           ·exact hψg j' q hq
          ·rw [if_neg e1]
           simp only [e1,if_false]
           exact OWc.move (fun q hq => ⟨hq,hoth q (fun e3 => (x1 j q hq).2 (by rw [e3]; exact hob))⟩) _ _ _ (x3 j x e2)⟩
       exact fin _ W' f1 rfl
      ·obtain ⟨W',f1,_⟩ := rel_updR (w' := w.setRow g cur') (r' := { ro with l := ro.l.set k yv,d := ro.e.flat || (ro.d&&d') }) h6 p5 hfz (fun _ => False) (fun q => (∃ j,ψn j q) ∨ (W.ω q = some (.R i c) ∧ q ≠ g)) (fun _ h => h.elim) (fun q hq => hq.imp (hlo q) (fun h => h.1)) hkeep rfl rfl rfl (by simp)
        ⟨hz',by
         rw [if_neg (by simp [hfz])]
         refine ⟨vals',hown',fun q hq => .inr ⟨o2 q hq,?_⟩,?_⟩
         ·rintro (⟨j,hj⟩ | ⟨_,e1⟩)
          ·exact hψg j q hj (by rw [hob] at hq; exact (Option.some.inj hq).symm)
          ·exact e1 (by rw [hob] at hq; exact (Option.some.inj hq).symm)
         ·rw [if_neg (by simp [hfl,hd'])]
          have cl:∀ q,((ctx s8 w W).S q ∨ (∃ j,ψ0 j q) ∨ (∃ j,ψn j q) ∨ (W.ω q = some (.R i c) ∧ q ≠ g)) → (q < w.heap.size ∧ ¬ False ∧ (W.ω q = none ∨ ((∃ j,ψn j q) ∨ (W.ω q = some (.R i c) ∧ q ≠ g))) ∧ (W.sv i c).ownBlock ≠ some q) ∧ (w.setRow g cur').heap[q]? = w.heap[q]? := by
           intro q hq
           have hqg:q ≠ g := by
            rcases hq with hq | ⟨j,hq⟩ | ⟨j,hq⟩ | hq
            ·exact hSg q hq.2
            ·exact (hx0 j q hq).2
            ·exact hψg j q hq
            ·exact hq.2
           refine ⟨⟨?_,fun h => h,?_,fun e1 => hqg (by rw [hob] at e1; exact (Option.some.inj e1).symm)⟩,hoth q hqg⟩
           ·rcases hq with hq | ⟨j,hq⟩ | ⟨j,hq⟩ | hq
            ·exact hq.1
            ·exact h6.lt q (by rw [(hx0 j q hq).1]; simp)
            ·exact hlt j q hq
            ·exact h6.lt q (by rw [hq.1]; simp)
           ·rcases hq with hq | ⟨j,hq⟩ | hq | hq
            ·exact .inl hq.2
            ·exact .inr (.inr ⟨(hx0 j q hq).1,hqg⟩)
            ·exact .inr (.inl hq)
            ·exact .inr (.inr hq)
          intro j x hj
          rw [hpart j]
          rcases hget j x hj with ⟨e1,e2⟩ | ⟨e1,e2⟩
          ·rw [e2,if_pos e1]
           refine ROc.move (fun q hq => cl q ?_) _ _ _ z2
           rcases hq with hq | hq | hq
           ·exact .inl hq
           ·exact .inr (.inl hq)
           ·exact .inr (.inr (.inl hq))
          ·rw [if_neg e1]
           have h9:ROc w (fun q => W.ω q = some (.R i c) ∧ q ≠ g) ro.e x ((vals.drop (j * ro.e.size)).take ro.e.size) :=
            OWc.ro (fun q hq => ⟨(x1 j q hq).1,fun e3 => (x1 j q hq).2 (by rw [e3]; exact hob)⟩) _ _ _ (x3 j x e2)
           exact ROc.move (fun q hq => cl q (.inr (.inr (.inr hq)))) _ _ _ h9⟩
       exact fin _ W' f1 rfl
    ·rw [if_neg hrd] at o3
     simp only [hrd,Bool.false_eq_true,if_false] at hpk'
     have hb0:FAll (ctx s8 w W) (fun _ _ => False) 0 (cellsOf ro.e (at_ ro.e ro.l k)) ((vals.drop (k * ro.e.size)).take ro.e.size) := FAll.of_all (cellsOf_rep (X := ctx s8 w W) _ _ _ (o3 k _ (at_get hk))).1
     obtain ⟨_,z2⟩ := new_elem hb0 (fun _ _ _ h => h.elim) hTall T.apart (fun _ _ _ h => h.elim) (by rw [cellsOf_len,hysl]; exact hoff) hpk'
     by_cases hfl:ro.e.flat = true
     ·obtain ⟨W',f1,_⟩ := rel_updR (w' := w.setRow g cur') (r' := { ro with l := ro.l.set k yv,d := ro.e.flat || (ro.d&&d') }) h6 p5 hfz (fun _ => False) (fun _ => False) (fun _ h => h.elim) (fun _ h => h.elim) hkeep rfl rfl rfl (by simp)
       ⟨hz',by
        rw [if_neg (by simp [hfz])]
        refine ⟨vals',hown',fun q hq => .inr ⟨o2 q hq,fun h => h.elim⟩,?_⟩
        rw [if_pos (by simp [hfl])]
        refine ⟨fun _ _ => False,fun _ _ h => h.elim,fun _ _ _ h => h.elim,fun j x hj => ?_⟩
        rw [hpart j]
        rcases hget j x hj with ⟨e1,e2⟩ | ⟨e1,e2⟩
        ·rw [e2,if_pos e1]; exact OWc.move (fun q h => h.elim) _ _ _ (ROc.flat (φ := fun _ => False) _ _ _ hfl z2)
        ·rw [if_neg e1]; exact OWc.move (fun q h => h.elim) _ _ _ (ROc.flat (φ := fun _ => False) _ _ _ hfl (o3 j x e2))⟩
      exact fin _ W' f1 rfl
     ·obtain ⟨W',f1,_⟩ := rel_updR (w' := w.setRow g cur') (r' := { ro with l := ro.l.set k yv,d := ro.e.flat || (ro.d&&d') }) h6 p5 hfz (fun _ => False) (fun q => ∃ j,ψn j q) (fun _ h => h.elim) (fun q hq => .inl (hlo q hq)) hkeep rfl rfl rfl (by simp)
       ⟨hz',by
        rw [if_neg (by simp [hfz])]
        refine ⟨vals',hown',fun q hq => .inr ⟨o2 q hq,?_⟩,?_⟩
        ·rintro ⟨j,hj⟩
         exact hψg j q hj (by rw [hob] at hq; exact (Option.some.inj hq).symm)
        ·rw [if_neg (by simp [hfl,hrd])]
         have cl:∀ q,((ctx s8 w W).S q ∨ (∃ j,ψn j q)) → (q < w.heap.size ∧ ¬ False ∧ (W.ω q = none ∨ (∃ j,ψn j q)) ∧ (W.sv i c).ownBlock ≠ some q) ∧ (w.setRow g cur').heap[q]? = w.heap[q]? := by
          intro q hq
          have hqg:q ≠ g := by
           rcases hq with hq | ⟨j,hq⟩
           ·exact hSg q hq.2
           ·exact hψg j q hq
          refine ⟨⟨?_,fun h => h,hq.imp (fun h => h.2) id,fun e1 => hqg (by rw [hob] at e1; exact (Option.some.inj e1).symm)⟩,hoth q hqg⟩
          rcases hq with hq | ⟨j,hq⟩
          ·exact hq.1
          ·exact hlt j q hq
         intro j x hj
         rw [hpart j]
         rcases hget j x hj with ⟨e1,e2⟩ | ⟨e1,e2⟩
         ·rw [e2,if_pos e1]
          refine ROc.move (fun q hq => cl q ?_) _ _ _ z2
          rcases hq with hq | ⟨_,h⟩ | hq
          ·exact .inl hq
          ·exact h.elim
          ·exact .inr hq
         ·rw [if_neg e1]
          exact ROc.move (fun q hq => cl q (.inl hq)) _ _ _ (o3 j x e2)⟩
      exact fin _ W' f1 rfl
   ·cases p10
  ·cases p10
 ·cases q7
end
section
variable {G:Beg} {s s':St} {a:Act} {w w':World} {W W':Wit} {P:Program} {E:Env}
def bare (w:World) (S:Nat → Prop):Ctx := ⟨w,S,fun _ => ⟨0,0,none⟩,fun _ => 0,fun _ _ => undef,fun _ _ => 0⟩
theorem CRep0.closed {X Y:Ctx} (hS:∀ g,X.S g → Y.S g ∧ Y.w.heap[g]? = X.w.heap[g]?) (c:Cell) (v:Value) (hc:c.closed0 = true) (h:CRep0 X c v):CRep0 Y c v := by
 cases c with
 | sl z el e l => exact ⟨h.1,ROc.move hS _ _ _ h.2⟩
 | sptr e x off =>
  obtain ⟨g,o,c,h1,h2,h3,h4,h5⟩ := h
  exact ⟨g,o,c,h1,(hS g h2).1,h3,h4.of_block (hS g h2).2,ROc.move hS _ _ _ h5⟩
 | fptr f e x =>
  obtain ⟨g,o,p,h1,h2,h3,g2,o2,c,k1,k2,k3,k4,k5⟩ := h
  exact ⟨g,o,p,h1,(hS g h2).1,h3.of_block (hS g h2).2,g2,o2,c,k1,(hS g2 k2).1,k3,k4.of_block (hS g2 k2).2,ROc.move hS _ _ _ k5⟩
 | undef => cases hc
 | row _ _ _ => cases hc
 | ptr _ _ _ => cases hc
 | eptr _ _ _ _ _ _ => cases hc
 | fn _ _ => cases hc
 | int _ _ => exact h
 | bool _ => exact h
 | str _ => exact h
 | nil _ _ => exact h
 | own _ _ _ _ _ => exact h
theorem FRep.closed {X Y:Ctx} (hS:∀ g,X.S g → Y.S g ∧ Y.w.heap[g]? = X.w.heap[g]?) {φ φ':Nat → Prop} (hφ:∀ g,φ g → φ' g ∧ Y.w.heap[g]? = X.w.heap[g]?) {c:Cell} {v:Value} (hc:c.closed = true) (h:FRep X φ c v):FRep Y φ' c v := by
 cases c with
 | own z d el e l => exact RowRep.move hS hφ h
 | fn f caps =>
  obtain ⟨vs,e1,e2⟩ := h
  refine ⟨vs,e1,?_⟩
  simp only [Cell.closed,List.all_eq_true] at hc
  refine All2.of e2.length (fun i a b ha hb => ?_)
  obtain ⟨b',hb',hr⟩ := e2.get ha
  rw [hb] at hb'
  cases hb'
  exact CRep0.closed hS a b (hc a (List.mem_of_getElem? ha)) hr
 | undef => cases hc
 | int k n => exact CRep0.closed (X := X) hS (.int k n) v hc h
 | bool b => exact CRep0.closed (X := X) hS (.bool b) v hc h
 | str s => exact CRep0.closed (X := X) hS (.str s) v hc h
 | nil el e => exact CRep0.closed (X := X) hS (.nil el e) v hc h
 | sl z el e l => exact CRep0.closed (X := X) hS (.sl z el e l) v hc h
 | row i c ver => cases hc
 | ptr b ver off => cases hc
 | eptr i c ver k sz off => cases hc
 | sptr e x off => exact CRep0.closed (X := X) hS (.sptr e x off) v hc h
 | fptr f e x => exact CRep0.closed (X := X) hS (.fptr f e x) v hc h
theorem FAll.closed {X Y:Ctx} (hS:∀ g,X.S g → Y.S g ∧ Y.w.heap[g]? = X.w.heap[g]?) {ψ ψ':Nat → Nat → Prop}:∀ (cs:List Cell) (vs:List Value) (k k':Nat),(∀ j g,j < cs.length → ψ (k + j) g → ψ' (k' + j) g ∧ Y.w.heap[g]? = X.w.heap[g]?) → cs.all Cell.closed = true → FAll X ψ k cs vs → FAll Y ψ' k' cs vs
 | [],[],_,_,_,_,_ => trivial
 | c :: cs,v :: vs,k,k',hψ,hc,h => by
  simp only [List.all_cons,Bool.and_eq_true] at hc
  refine ⟨FRep.closed hS (fun g hg => by have := hψ 0 g (by simp) hg; exact this) hc.1 h.1,FAll.closed hS cs vs (k + 1) (k' + 1) (fun j g hj hg => ?_) hc.2 h.2⟩
  have := hψ (j + 1) g (by simpa using hj) (by rw [show k + (j + 1) = k + 1 + j by omega]; exact hg)
  rw [show k' + 1 + j = k' + (j + 1) by omega]
  exact this
def BAll (w:World) (S:Nat → Prop) (ψ:Nat → Nat → Prop) (k:Nat) (cs:List Cell) (vs:List Value):Prop := cs.all Cell.closed = true ∧ FAll (bare w S) ψ k cs vs
def valOf (g:Bool) (vs:List Value):Value := if g then .agg vs.toArray else vs.headD undef
def BoxAt (w:World) (S:Nat → Prop) (ψ:Nat → Nat → Prop) (cs:List Cell) (ad:Addr):Prop :=
 ad.spot = none ∧ ∃ vs,BAll w S (fun c => ψ (c + 1)) 0 cs vs ∧ ∀ (j:Nat) (u:Value),vs[j]? = some u → w.cell? (ad.add j) = some u ∧ u.oneCell' = true
def OwnBox (w:World) (ψ:Nat → Nat → Prop) (ad:Addr):Prop := ψ 0 ad.block ∧ ∃ cells el,w.heap[ad.block]? = some (.cells cells el (0,0))
def Given (w:World) (S:Nat → Prop) (ψ:Nat → Nat → Prop):PM → RV → Value → Prop
 | .bx,.val g cs,v => g = true ∧ cs ≠ [] ∧ ∃ ad,v = .pointer (some ad) ∧ BoxAt w S ψ cs ad ∧ OwnBox w ψ ad
 | .bxr,.val g cs,v => g = true ∧ cs ≠ [] ∧ ∃ ad,v = .pointer (some ad) ∧ BoxAt w S ψ cs ad ∧ S ad.block
 | _,.val g cs,v => ∃ vs,BAll w S (fun c => ψ (c + 1)) 0 cs vs ∧ v = valOf g vs ∧ (g = false → cs.length = 1)
 | _,.tup _,_ => False
def GivenAll (w:World) (S:Nat → Prop) (ψ:Nat → Nat → Nat → Prop):Nat → List PM → List RV → List Value → Prop
 | _,[],[],[] => True
 | i,m :: ms,y :: ys,v :: vs => Given w S (ψ i) m y v ∧ GivenAll w S ψ (i + 1) ms ys vs
 | _,_,_,_ => False
def TupRep (w:World) (S:Nat → Prop) (ψ:Nat → Nat → Prop):Nat → List (Bool×List Cell) → List Value → Prop
 | _,[],[] => True
 | k,u :: us,v :: vs => (∃ ws,BAll w S ψ k u.2 ws ∧ v = valOf u.1 ws ∧ (u.1 = false → u.2.length = 1)) ∧ TupRep w S ψ (k + u.2.length) us vs
 | _,_,_ => False
def ResRep (w:World) (S:Nat → Prop) (ψ:Nat → Nat → Prop):RV → Value → Prop
 | .val g cs,v => ∃ vs,BAll w S (fun c => ψ (c + 1)) 0 cs vs ∧ v = valOf g vs ∧ (g = false → cs.length = 1)
 | .tup us,v => ∃ vs:List Value,v = .tuple vs.toArray ∧ TupRep w S (fun c => ψ (c + 1)) 0 us vs
def Out1 (w:World) (S:Nat → Prop) (ψ:Nat → Nat → Prop):PM → Value → List Cell → Prop
 | .bx,v,o => ∃ ad,v = .pointer (some ad) ∧ BoxAt w S ψ o ad ∧ OwnBox w ψ ad
 | _,v,o => BAll w S (fun c => ψ (c + 1)) 0 o v.cells.toList
def OutAll (w:World) (S:Nat → Prop) (ψ:Nat → Nat → Nat → Prop):Nat → List PM → List Value → List (List Cell) → Prop
 | i,m :: ms,v :: vs,os => if m.wr then ∃ o os',os = o :: os' ∧ Out1 w S (ψ (i + 1)) m v o ∧ OutAll w S ψ (i + 1) ms vs os' else OutAll w S ψ (i + 1) ms vs os
 | _,[],[],os => os = []
 | _,_,_,_ => False
structure Hands (w:World) (S:Nat → Prop) (ψ:Nat → Nat → Nat → Prop):Prop where
 lt:∀ g,S g → g < w.heap.size
 own:∀ i c g,ψ i c g → g < w.heap.size ∧ ¬ S g
 apart:∀ i c i' c' g,ψ i c g → ψ i' c' g → i = i' ∧ c = c'
structure Trip (w:World) (S:Nat → Prop) (ψ:Nat → Nat → Nat → Prop) (w':World) (S':Nat → Prop) (ψ':Nat → Nat → Nat → Prop):Prop where
 os:w'.os = w.os
 tape:w'.tape = w.tape
 output:w'.output = w.output
 grow:w.heap.size ≤ w'.heap.size
 keep:∀ g,g < w.heap.size → (¬ ∃ i c,ψ i c g) → w'.heap[g]? = w.heap[g]? ∧ (S' g ↔ S g) ∧ ¬ ∃ i c,ψ' i c g
 hands:Hands w' S' ψ'
structure Sound (P:Program) (f:Nat) (ms:List PM) (F:FSem):Prop where
 fn:∃ fn,P.funcs[f]? = some fn ∧ fn.body.isSome = true ∧ (fn.name == "runtime.NumGoroutine") = false
 calls:∀ (w:World) (S:Nat → Prop) (ψ:Nat → Nat → Nat → Prop) (ys:List RV) (vs:List Value) (r:RV) (outs:List (List Cell)),
  F ys = some (true,r,outs) → Hands w S ψ → GivenAll w S ψ 0 ms ys vs →
  Calls P f vs.toArray w fun
   | .returned v,w' => ∃ S' ψ',Trip w S ψ w' S' ψ' ∧ ResRep w' S' (ψ' 0) r v ∧ OutAll w' S' ψ' 0 ms vs outs
   | _,_ => False
def BoxRes (w:World) (S:Nat → Prop) (ψ:Nat → Nat → Prop) (cs:List Cell) (v:Value):Prop := ∃ ad,v = .pointer (some ad) ∧ BoxAt w S ψ cs ad ∧ OwnBox w ψ ad
structure SoundB (P:Program) (f:Nat) (ms:List PM) (F:List RV → Option (Bool×List Cell×List (List Cell))):Prop where
 fn:∃ fn,P.funcs[f]? = some fn ∧ fn.body.isSome = true ∧ (fn.name == "runtime.NumGoroutine") = false
 calls:∀ (w:World) (S:Nat → Prop) (ψ:Nat → Nat → Nat → Prop) (ys:List RV) (vs:List Value) (r:List Cell) (outs:List (List Cell)),
  F ys = some (true,r,outs) → Hands w S ψ → GivenAll w S ψ 0 ms ys vs →
  Calls P f vs.toArray w fun
   | .returned v,w' => ∃ S' ψ',Trip w S ψ w' S' ψ' ∧ BoxRes w' S' (ψ' 0) r v ∧ OutAll w' S' ψ' 0 ms vs outs
   | _,_ => False
def Away (s:St) (l:Pl):Prop := Dead s l ∨ ∃ b ver,l = .B b ∧ s (.B b) = .b ver false []
theorem closedP_run {cs r:List Cell} (h:(Prg.closedP cs).run s = some (r,s')):s' = s ∧ r = cs ∧ cs.all Cell.closed = true := by
 unfold Prg.closedP at h
 split at h
 ·obtain ⟨rfl,rfl⟩ := pure_run h; exact ⟨rfl,rfl,by assumption⟩
 ·cases h
theorem lend0_run (h:Rel G s a w W) {Sc:Nat → Prop} (hS:∀ g,(ctx s w W).S g → Sc g) (hR:∀ g i c ver r,W.ω g = some (.R i c) → s (.R i c) = .r ver (some r) → Sc g) {c y:Cell} {v:Value} (hr:(Prg.lend0 c).run s = some (y,s'))
  (hv:CRep (ctx s w W) c v):s' = s ∧ (y.closed = true → FRep (bare w Sc) (fun _ => False) y v) := by
 have hX:∀ g,(ctx s w W).S g → (bare w Sc).S g ∧ (bare w Sc).w.heap[g]? = (ctx s w W).w.heap[g]? := fun g hg => ⟨hS g hg,rfl⟩
 cases c with
 | row i c ver =>
  obtain ⟨r,e1,e2⟩ := getR_run hr
  obtain ⟨rfl,rfl⟩ := pure_run e2
  obtain ⟨rfl,_⟩ := row_reads h e1 hv
  have hh := h.R i c ver r e1
  exact ⟨rfl,fun _ => ⟨hh.1,RowRep.ro hh (fun g hg => hR g i c ver r hg e1) (fun g hg => hS g hg)⟩⟩
 | _ => obtain ⟨rfl,rfl⟩ := pure_run hr; exact ⟨rfl,fun hy => FRep.closed (X := ctx _ w W) (φ := fun _ => False) hX (fun _ h => False.elim h) hy (FRep_of hv)⟩
theorem mapC_run {R:Cell → Value → Prop} {Q:Cell → Value → Prop} {p:Cell → Prg Cell} (hp:∀ c y v s1,(p c).run s = some (y,s1) → R c v → s1 = s ∧ (y.closed = true → Q y v)) (cs:List Cell):∀ (ys:List Cell) (vs:List Value) (s':St),(Prg.mapC p cs).run s = some (ys,s') → All2 R cs vs → s' = s ∧ ys.length = vs.length ∧ (ys.all Cell.closed = true → All2 Q ys vs) := by
 induction cs with
 | nil =>
  intro ys vs s' hr hv
  obtain ⟨rfl,rfl⟩ := pure_run hr
  cases vs with
  | nil => exact ⟨rfl,rfl,fun _ => trivial⟩
  | cons _ _ => exact hv.elim
 | cons c cs ih =>
  intro ys vs s' hr hv
  cases vs with
  | nil => exact hv.elim
  | cons v vs =>
   obtain ⟨y,s1,q1,q2⟩ := bind_run hr
   obtain ⟨ys',s2,q3,q4⟩ := bind_run q2
   obtain ⟨rfl,rfl⟩ := pure_run q4
   obtain ⟨rfl,h1⟩ := hp _ _ _ _ q1 hv.1
   obtain ⟨rfl,h2,h3⟩ := ih ys' vs _ q3 hv.2
   exact ⟨rfl,by simp [h2],fun hc => by simp only [List.all_cons,Bool.and_eq_true] at hc; exact ⟨h1 hc.1,h3 hc.2⟩⟩
theorem FAll.of2 {X:Ctx} {ψ:Nat → Nat → Prop}:∀ {cs:List Cell} {vs:List Value} {k:Nat},All2 (FRep X (fun _ => False)) cs vs → FAll X ψ k cs vs
 | [],[],_,_ => trivial
 | _ :: _,_ :: _,_,h => ⟨FRep.move (Ext.refl _) (fun _ h => h.elim) h.1,FAll.of2 h.2⟩
theorem tyCs_closed:∀ (cs:List Cell) (e:Ty),Prg.tyCs cs = some e → cs.all Cell.closed = true
 | [],_,h => by cases h
 | [c],e,h => by
  simp only [Prg.tyCs] at h
  cases c <;> first | rfl | cases h
 | c :: d :: r,e,h => by
  simp only [Prg.tyCs] at h
  obtain ⟨x,h1,h2⟩ := Option.bind_eq_some_iff.1 h
  obtain ⟨y,h3,_⟩ := Option.map_eq_some_iff.1 h2
  have := tyCs_closed (d :: r) y (by simpa only [Prg.tyCs] using h3)
  rw [List.all_cons,this]
  cases c <;> first | rfl | cases h1
theorem lendPtr_run (h:Rel G s a w W) {Sc:Nat → Prop} (hS:∀ g,(ctx s w W).S g → Sc g) (hR:∀ g i c ver r,W.ω g = some (.R i c) → s (.R i c) = .r ver (some r) → Sc g)
  (hB:∀ g b ver cs,W.ω g = some (.B b) → s (.B b) = .b ver false cs → cs ≠ [] → Sc g) {c y:Cell} {v:Value} (hr:(Prg.lendPtr c).run s = some (y,s'))
  (hv:CRep0 (ctx s w W) c v):s' = s ∧ (y.closed0 = true → CRep0 (bare w Sc) y v) := by
 have gen:(Prg.lend0 c).run s = some (y,s') → CRep (ctx s w W) c v → s' = s ∧ (y.closed0 = true → CRep0 (bare w Sc) y v) := by
  intro hr hv
  obtain ⟨rfl,h1⟩ := lend0_run h hS hR hr hv
  refine ⟨rfl,fun hy => ?_⟩
  cases y with
  | fn f caps => cases hy
  | own z d el e l =>
   exfalso
   cases c with
   | row i c ver => obtain ⟨r,e1,e2⟩ := getR_run hr; obtain ⟨e3,_⟩ := pure_run e2; cases e3
   | own z d el e l => exact hv
   | _ => obtain ⟨e3,_⟩ := pure_run hr; cases e3
  | _ => exact h1 hy
 cases c with
 | ptr b ver off =>
  simp only [Prg.lendPtr] at hr
  split at hr
  ·rename_i hoff
   subst hoff
   obtain ⟨fz,cs,e1,e2⟩ := getB_run hr
   obtain ⟨ys,s1,q1,q2⟩ := bind_run e2
   split at q2
   ·rename_i e he
    split at q2
    ·rename_i x d hp
     obtain ⟨rfl,rfl⟩ := pure_run q2
     have hp' := packAll_some hp
     have hne:cs ≠ [] := by
      rintro rfl
      obtain ⟨rfl,_⟩ := pure_run q1
      cases he
     obtain ⟨g,o,us,hg,hul,hur,huo,hux⟩ := box_vals h e1 hne
     obtain ⟨rfl,hyl,hyr⟩ := mapC_run (R := CRep (ctx s w W)) (Q := FRep (bare w Sc) (fun _ => False)) (fun c y v s1 hr hv => lend0_run h hS hR hr hv) cs ys us _ q1 hur
     refine ⟨rfl,fun _ => ?_⟩
     have hcl:ys.all Cell.closed = true := ?_
     ·have hall := FAll.of2 (ψ := fun _ _ => False) (k := 0) (hyr hcl)
      obtain ⟨p1,p2,_,p4⟩ := pack_rep (fun _ _ _ h => False.elim h) e ys us 0 x d [] hp' hall
      have hlen:ys.length = e.size := by
       have := congrArg List.length p1
       simp at this
       omega
      have htk:us.take e.size = us := List.take_of_length_le (by omega)
      rw [htk] at p4
      have hbv:bvOf s' b = ver := by simp [bvOf,e1]
      have hv':v = .pointer (some ((W.ad b).add 0)) := hv.2.2 hbv.symm
      refine ⟨g,o,us,?_,?_,by omega,hux,ROc.move (fun q hq => ⟨hq.elim id (fun ⟨_,h⟩ => h.elim),rfl⟩) _ _ _ p4⟩
      ·rw [hv',hg,Addr.add_mid]
      ·have := (h.B b ver fz cs e1 hne).2.1
       rw [hg] at this
       cases fz
       ·exact hB g b ver cs this.1 e1 hne
       ·exact hS g this
     ·clear hyr hyl q1
      exact tyCs_closed ys e he
    ·cases q2
   ·cases q2
  ·cases hr
 | fn f caps => exact hv.elim
 | undef => exact gen hr hv
 | int k n => exact gen hr hv
 | bool b => exact gen hr hv
 | str t => exact gen hr hv
 | nil el e => exact gen hr hv
 | sl z el e l => exact gen hr hv
 | own z d el e l => exact gen hr hv
 | row i c ver => exact gen hr hv
 | eptr i c ver k sz off => exact gen hr hv
 | sptr e x off => exact gen hr hv
 | fptr f e x => exact gen hr hv
theorem lendCap_run (h:Rel G s a w W) {Sc:Nat → Prop} (hS:∀ g,(ctx s w W).S g → Sc g) (hR:∀ g i c ver r,W.ω g = some (.R i c) → s (.R i c) = .r ver (some r) → Sc g)
  (hB:∀ g b ver cs,W.ω g = some (.B b) → s (.B b) = .b ver false cs → cs ≠ [] → Sc g) {c y:Cell} {v:Value} (hr:(Prg.lendCap c).run s = some (y,s'))
  (hv:CRep0 (ctx s w W) c v):s' = s ∧ (y.closed0 = true → CRep0 (bare w Sc) y v) := by
 cases c with
 | ptr b ver off =>
  have hr0 := hr
  simp only [Prg.lendCap] at hr
  split at hr
  ·rename_i hoff
   subst hoff
   obtain ⟨fz,cs,e1,e2⟩ := getB_run hr
   split at e2
   ·rename_i f c
    obtain ⟨y',s1,q1,q2⟩ := bind_run e2
    split at q2
    ·rename_i e x o
     split at q2
     ·rename_i ho
      subst ho
      obtain ⟨rfl,rfl⟩ := pure_run q2
      obtain ⟨g,o,us,hg,hul,hur,huo,hux⟩ := box_vals h e1 (by simp)
      obtain ⟨u,rfl⟩:∃ u,us = [u] := List.length_eq_one_iff.1 hul
      obtain ⟨vs,hu1,hu2⟩ := hur.1
      obtain ⟨p,rfl⟩:∃ p,vs = [p] := List.length_eq_one_iff.1 hu2.length.symm
      obtain ⟨rfl,hp⟩ := lendPtr_run h hS hR hB q1 hu2.1
      obtain ⟨g2,o2,c2,k1,k2,k3,k4,k5⟩ := hp rfl
      have hbv:bvOf s' b = ver := by simp [bvOf,e1]
      have hv':v = .pointer (some ((W.ad b).add 0)) := hv.2.2 hbv.symm
      refine ⟨rfl,fun _ => ⟨g,o,p,?_,?_,?_,g2,o2,c2,k1,k2,k3,k4,k5⟩⟩
      ·rw [hv',hg,Addr.add_mid]; rfl
      ·have := (h.B b ver fz _ e1 (by simp)).2.1
       rw [hg] at this
       cases fz
       ·exact hB g b ver _ this.1 e1 (by simp)
       ·exact hS g this
      ·subst hu1
       exact hux
     ·cases q2
    ·cases q2
   ·exact lendPtr_run h hS hR hB e2 hv
  ·cases hr
 | undef => exact lendPtr_run (c := .undef) h hS hR hB hr hv
 | int k n => exact lendPtr_run (c := .int k n) h hS hR hB hr hv
 | bool b => exact lendPtr_run (c := .bool b) h hS hR hB hr hv
 | str t => exact lendPtr_run (c := .str t) h hS hR hB hr hv
 | nil el e => exact lendPtr_run (c := .nil el e) h hS hR hB hr hv
 | sl z el e l => exact lendPtr_run (c := .sl z el e l) h hS hR hB hr hv
 | own z d el e l => exact lendPtr_run (c := .own z d el e l) h hS hR hB hr hv
 | row i c ver => exact lendPtr_run (c := .row i c ver) h hS hR hB hr hv
 | eptr i c ver k sz off => exact lendPtr_run (c := .eptr i c ver k sz off) h hS hR hB hr hv
 | sptr e x off => exact lendPtr_run (c := .sptr e x off) h hS hR hB hr hv
 | fptr f e x => exact lendPtr_run (c := .fptr f e x) h hS hR hB hr hv
 | fn f caps => exact lendPtr_run (c := .fn f caps) h hS hR hB hr hv
theorem lend_run (h:Rel G s a w W) {Sc:Nat → Prop} (hS:∀ g,(ctx s w W).S g → Sc g) (hR:∀ g i c ver r,W.ω g = some (.R i c) → s (.R i c) = .r ver (some r) → Sc g)
  (hB:∀ g b ver cs,W.ω g = some (.B b) → s (.B b) = .b ver false cs → cs ≠ [] → Sc g) {c y:Cell} {v:Value} (hr:(Prg.lend c).run s = some (y,s'))
  (hv:CRep (ctx s w W) c v):s' = s ∧ (y.closed = true → FRep (bare w Sc) (fun _ => False) y v) := by
 cases c with
 | fn f caps =>
  obtain ⟨ys,s1,q1,q2⟩ := bind_run hr
  obtain ⟨rfl,rfl⟩ := pure_run q2
  obtain ⟨vs,e1,e2⟩ := hv
  have key:∀ (cs ys:List Cell) (vs:List Value) (s1:St),(Prg.mapC Prg.lendCap cs).run s = some (ys,s1) → All2 (CRep0 (ctx s w W)) cs vs → s1 = s ∧ (ys.all Cell.closed0 = true → All2 (CRep0 (bare w Sc)) ys vs) := by
   intro cs
   induction cs with
   | nil =>
    intro ys vs s1 hr hv
    obtain ⟨rfl,rfl⟩ := pure_run hr
    cases vs with
    | nil => exact ⟨rfl,fun _ => trivial⟩
    | cons _ _ => exact hv.elim
   | cons c cs ih =>
    intro ys vs s1 hr hv
    cases vs with
    | nil => exact hv.elim
    | cons v vs =>
     obtain ⟨y,s2,k1,k2⟩ := bind_run hr
     obtain ⟨ys',s3,k3,k4⟩ := bind_run k2
     obtain ⟨rfl,rfl⟩ := pure_run k4
     obtain ⟨rfl,h1⟩ := lendCap_run h hS hR hB k1 hv.1
     obtain ⟨rfl,h2⟩ := ih ys' vs _ k3 hv.2
     exact ⟨rfl,fun hc => by simp only [List.all_cons,Bool.and_eq_true] at hc; exact ⟨h1 hc.1,h2 hc.2⟩⟩
  obtain ⟨rfl,h1⟩ := key _ _ _ _ q1 e2
  exact ⟨rfl,fun hc => ⟨vs,e1,h1 hc⟩⟩
 | undef => exact lend0_run (c := .undef) h hS hR hr hv
 | int k n => exact lend0_run (c := .int k n) h hS hR hr hv
 | bool b => exact lend0_run (c := .bool b) h hS hR hr hv
 | str t => exact lend0_run (c := .str t) h hS hR hr hv
 | nil el e => exact lend0_run (c := .nil el e) h hS hR hr hv
 | sl z el e l => exact lend0_run (c := .sl z el e l) h hS hR hr hv
 | own z d el e l => exact lend0_run (c := .own z d el e l) h hS hR hr hv
 | row i c ver => exact lend0_run (c := .row i c ver) h hS hR hr hv
 | ptr b ver off => exact lend0_run (c := .ptr b ver off) h hS hR hr hv
 | eptr i c ver k sz off => exact lend0_run (c := .eptr i c ver k sz off) h hS hR hr hv
 | sptr e x off => exact lend0_run (c := .sptr e x off) h hS hR hr hv
 | fptr f e x => exact lend0_run (c := .fptr f e x) h hS hR hr hv
theorem lendF_run (h:Rel G s a w W) {Sc:Nat → Prop} (hS:∀ g,(ctx s w W).S g → Sc g) {c y:Cell} {v:Value} (hr:(Prg.lendF c).run s = some (y,s'))
  (hv:CRep (ctx s w W) c v):s' = s ∧ (y.closed = true → FRep (bare w Sc) (fun _ => False) y v) := by
 have hX:∀ g,(ctx s w W).S g → (bare w Sc).S g ∧ (bare w Sc).w.heap[g]? = (ctx s w W).w.heap[g]? := fun g hg => ⟨hS g hg,rfl⟩
 cases c with
 | row i c ver =>
  obtain ⟨r,e1,e2⟩ := getR_run hr
  split at e2
  ·rename_i hf
   obtain ⟨rfl,rfl⟩ := pure_run e2
   obtain ⟨rfl,_⟩ := row_reads h e1 hv
   have hh := h.R i c ver r e1
   obtain ⟨hz,hh⟩ := hh
   rw [if_pos hf] at hh
   exact ⟨rfl,fun _ => ⟨hz,ROc.move hX _ _ _ hh⟩⟩
  ·cases e2
 | fn f caps =>
  simp only [Prg.lendF] at hr
  split at hr
  ·rename_i hc
   obtain ⟨rfl,rfl⟩ := pure_run hr
   have:caps = [] := by simpa using hc
   subst this
   exact ⟨rfl,fun hy => FRep.closed (X := ctx _ w W) (φ := fun _ => False) hX (fun _ h => False.elim h) hy (FRep_of hv)⟩
  ·cases hr
 | _ => obtain ⟨rfl,rfl⟩ := pure_run hr; exact ⟨rfl,fun hy => FRep.closed (X := ctx _ w W) (φ := fun _ => False) hX (fun _ h => False.elim h) hy (FRep_of hv)⟩
end
section
variable {G:Beg} {s s' s1:St} {a:Act} {w w':World} {W W' W1:Wit} {P:Program} {E:Env}
def AwayB (s:St) (W:Wit) (g:Nat):Prop := ∃ l,W.ω g = some l ∧ Away s l
def Fwd (s:St) (W:Wit) (s':St) (W':Wit):Prop := ∀ g l,W.ω g = some l → Away s l → W'.ω g = some l ∧ Away s' l ∧ ∀ b,l = .B b → s' l = s l
theorem Fwd.trans {s2:St} {W2:Wit} (h:Fwd s W s1 W1) (k:Fwd s1 W1 s2 W2):Fwd s W s2 W2 := fun g l h1 h2 => by
 obtain ⟨a1,a2,a3⟩ := h g l h1 h2
 obtain ⟨b1,b2,b3⟩ := k g l a1 a2
 exact ⟨b1,b2,fun b e => (b3 b e).trans (a3 b e)⟩
theorem Fwd.mono (h:Fwd s W s' W') {g:Nat} (hg:AwayB s W g):AwayB s' W' g := by
 obtain ⟨l,h1,h2⟩ := hg
 exact ⟨l,(h g l h1 h2).1,(h g l h1 h2).2.1⟩
theorem Loose.away {g:Nat} (h:Loose s W g):AwayB s W g := by obtain ⟨l,h1,h2⟩ := h; exact ⟨l,h1,.inl h2⟩
theorem Away.not_row {i c ver:Nat} {r:Row} (h:s (.R i c) = .r ver (some r)):¬ Away s (.R i c) := by
 rintro (h1 | ⟨b,ver,e,_⟩)
 ·exact Dead.not_row h h1
 ·cases e
theorem Away.not_box {b ver:Nat} {cs:List Cell} (h:s (.B b) = .b ver false cs) (hc:cs ≠ []):¬ Away s (.B b) := by
 rintro (h1 | ⟨b',ver',e,h2⟩)
 ·exact Dead.not_B h1
 ·injection e with e
  subst e
  rw [h] at h2
  injection h2 with _ _ h2
  exact hc h2
theorem AwayB.at {g:Nat} {l:Pl} (h:AwayB s W g) (e:W.ω g = some l):Away s l := by
 obtain ⟨l',e',h⟩ := h
 rw [e] at e'
 cases e'
 exact h
theorem take_B {c y:Cell} (h:(Prg.take c).run s = some (y,s')) (b:Nat):s' (.B b) = s (.B b) := by
 cases c with
 | row i c ver =>
  obtain ⟨r,e1,e2⟩ := getR_run h
  split at e2
  ·obtain ⟨_,rfl⟩ := pure_run e2; rfl
  ·simp only [Prg.run,Option.some.injEq,Prod.mk.injEq] at e2
   obtain ⟨_,rfl⟩ := e2
   exact St.set_ne _ _ (by simp)
 | _ => obtain ⟨_,rfl⟩ := pure_run h; rfl
theorem takes_B (cs:List Cell):∀ (s s':St) (ys:List Cell),(Prg.mapC Prg.take cs).run s = some (ys,s') → ∀ b,s' (.B b) = s (.B b) := by
 induction cs with
 | nil => intro s s' ys h b; obtain ⟨_,rfl⟩ := pure_run h; rfl
 | cons c cs ih =>
  intro s s' ys h b
  obtain ⟨y,s1,q1,q2⟩ := bind_run h
  obtain ⟨ys',s2,q3,q4⟩ := bind_run q2
  obtain ⟨_,rfl⟩ := pure_run q4
  rw [ih _ _ _ q3 b,take_B q1 b]
theorem takes_fwd {cs ys:List Cell} (h:(Prg.mapC Prg.take cs).run s = some (ys,s')) (hm:∀ g,Loose s W g → Loose s' W g):Fwd s W s' W := by
 intro g l h1 h2
 refine ⟨h1,?_,fun b e => by subst e; exact takes_B _ _ _ _ h b⟩
 rcases h2 with h2 | ⟨b,ver,rfl,h2⟩
 ·exact .inl ((hm g ⟨l,h1,h2⟩).dead h1)
 ·exact .inr ⟨b,ver,rfl,by rw [takes_B _ _ _ _ h]; exact h2⟩
structure Gave (s:St) (W:Wit) (s':St) (w:World) (W':Wit) (ψ:Nat → Nat → Prop) (m:PM) (x y:RV) (v:Value):Prop where
 own:m = .own ∨ m = .mut ∨ m = .bx → Given w (ctx s' w W').S ψ m y v
 box:m = .bx → ∃ b ver,x = .val false [.ptr b ver 0] ∧ v = .pointer (some (W'.ad b)) ∧ s' (.B b) = .b ver false [] ∧ ∀ g,ψ 0 g → W'.ω g = some (.B b)
 away:∀ c g,ψ c g → AwayB s' W' g ∧ ¬ AwayB s W g
 apart:∀ c c' g,ψ c g → ψ c' g → c = c'
 fwd:Fwd s W s' W'
 ext:Ext (ctx s w W) (ctx s' w W')
theorem took_closed {ys:List Cell} {vs:List Value} {ψ:Nat → Nat → Prop} (T:Took s s' W w ys vs ψ) (hc:ys.all Cell.closed = true):BAll w (ctx s' w W).S ψ 0 ys vs :=
 ⟨hc,FAll.closed (X := ctx s' w W) (Y := bare w (ctx s' w W).S) (fun _ hg => ⟨hg,rfl⟩) _ _ _ _ (fun _ _ _ hg => ⟨hg,rfl⟩) hc T.all⟩
theorem gave_take (h:Rel G s a w W) {m:PM} (hm:m = .own ∨ m = .mut) {g:Bool} {cs:List Cell} {y:RV} {v:Value}
  (hr:(do let s ← Prg.mapC Prg.take cs; let s ← Prg.closedP s; Prg.pure (RV.val g s):Prg RV).run s = some (y,s')) (hv:VRep (ctx s w W) (.val g cs) v) :
  Rel G s' a w W ∧ ∃ ψ,Gave s W s' w W ψ m (.val g cs) y v := by
 obtain ⟨ys,s1,q1,q2⟩ := bind_run hr
 obtain ⟨ys',s2,q3,q4⟩ := bind_run q2
 obtain ⟨rfl,rfl,hcl⟩ := closedP_run q3
 obtain ⟨rfl,rfl⟩ := pure_run q4
 obtain ⟨us,hu1,hu2,hu3⟩ := hv
 obtain ⟨h1,χ,T⟩ := mapC_take cs s _ _ us h q1 hu1
 refine ⟨h1,fun c g => match c with | 0 => False | c + 1 => χ c g,⟨fun _ => ?_,fun e => (by rcases hm with rfl | rfl <;> cases e),fun c g hg => ?_,fun c c' g hc hc' => ?_,takes_fwd q1 T.mono,T.ext⟩⟩
 ·have hG:∃ vs,BAll w (ctx s' w W).S (fun c => χ c) 0 ys' vs ∧ v = valOf g vs ∧ (g = false → ys'.length = 1) := ⟨us,took_closed T hcl,hu2,fun e => by rw [T.len,← hu1.length]; exact hu3 e⟩
  rcases hm with rfl | rfl <;> exact hG
 ·cases c with
  | zero => exact hg.elim
  | succ c =>
   refine ⟨(T.loose c g hg).1.away,fun hn => (T.loose c g hg).2 ?_⟩
   obtain ⟨l,e1,e2⟩ := (T.loose c g hg).1
   have := hn.at e1
   rcases this with h3 | ⟨b,ver,rfl,_⟩
   ·exact ⟨l,e1,h3⟩
   ·exact absurd e2 Dead.not_B
 ·cases c with
  | zero => exact hc.elim
  | succ c =>
   cases c' with
   | zero => exact hc'.elim
   | succ c' => rw [T.apart c c' g hc hc']
theorem rel_hideB (h:Rel G s a w W) {b ver:Nat} {cs:List Cell} (hb:s (.B b) = .b ver false cs):Rel G (s.set (.B b) (.b ver false [])) a w W ∧ Ext (ctx s w W) (ctx (s.set (.B b) (.b ver false [])) w W) := by
 have hX:Ext (ctx s w W) (ctx (s.set (.B b) (.b ver false [])) w W) := by
  refine ⟨fun g hg => ⟨hg,rfl⟩,fun x => ?_,fun i c => ⟨?_,fun _ => rfl⟩⟩
  ·refine ⟨?_,fun _ => rfl⟩
   simp only [ctx,bvOf]
   by_cases e:x = b
   ·subst e; rw [St.set_same,hb]; exact Nat.le_refl _
   ·rw [St.set_ne _ _ (by simpa using e)]; exact Nat.le_refl _
  ·simp only [ctx,rvOf]; rw [St.set_ne _ _ (by simp)]; exact Nat.le_refl _
 refine ⟨?_,hX⟩
 refine h.change (fun l => l = .B b) (fun l hl => St.set_ne _ _ hl) (fun _ => by simp) (by simp) (fun g l hg hl => ⟨hg,rfl⟩) (fun _ _ => rfl) (fun _ _ _ => rfl) hX ?_ (fun _ _ e => by cases e) h.lt rfl rfl rfl (Nat.le_refl _) (fun g _ hg => ⟨hg,rfl⟩)
 intro b' e ver' fz cs' hb' hne
 injection e with e
 subst e
 rw [St.set_same] at hb'
 injection hb' with _ _ hb'
 exact absurd hb'.symm hne
theorem freezes_run (cs:List Cell):∀ (s s':St) (W:Wit) (u:Unit) (vs:List Value),Rel G s a w W → (Prg.forC Prg.freeze cs).run s = some (u,s') → All2 (CRep (ctx s w W)) cs vs → ∃ W',Rel G s' a w W' ∧ Ext (ctx s w W) (ctx s' w W') ∧ Fwd s W s' W' := by
 induction cs with
 | nil => intro s s' W u vs h hr _; obtain ⟨_,rfl⟩ := pure_run hr; exact ⟨W,h,Ext.refl _,fun g l h1 h2 => ⟨h1,h2,fun _ _ => rfl⟩⟩
 | cons c cs ih =>
  intro s s' W u vs h hr hv
  cases vs with
  | nil => exact hv.elim
  | cons v vs =>
   obtain ⟨_,s1,q1,q2⟩ := bind_run hr
   obtain ⟨W1,h1,h2,_,h4⟩ := freeze_run h hv.1 q1
   obtain ⟨W2,h5,h6,h7⟩ := ih s1 s' W1 u vs h1 q2 (All2.imp (CRep.ext h2) _ _ hv.2)
   refine ⟨W2,h5,h2.trans h6,Fwd.trans (fun g l e1 e2 => ?_) h7⟩
   obtain ⟨k1,k2⟩ := h4 g l e1 (by rintro i c ver r rfl hs; exact Away.not_row hs e2)
   refine ⟨k1,?_,fun _ _ => k2⟩
   rcases e2 with (⟨j,c,rfl⟩ | ⟨i,c,ver,rfl,e2⟩) | ⟨b,ver,rfl,e2⟩
   ·exact .inl (.inl ⟨j,c,rfl⟩)
   ·exact .inl (.inr ⟨i,c,ver,rfl,k2.trans e2⟩)
   ·exact .inr ⟨b,ver,rfl,k2.trans e2⟩
theorem give1_run (h:Rel G s a w W) {m:PM} {x y:RV} {v:Value} (hr:(Prg.give1 m x).run s = some (y,s')) (hv:VRep (ctx s w W) x v) :
  ∃ W',Rel G s' a w W' ∧ ∃ ψ,Gave s W s' w W' ψ m x y v := by
 have triv:m = .rd ∨ m = .bxr → s' = s → ∃ W',Rel G s' a w W' ∧ ∃ ψ,Gave s W s' w W' ψ m x y v := by
  rintro hm rfl
  exact ⟨W,h,fun _ _ => False,⟨fun e => (by rcases hm with rfl | rfl <;> simp at e),fun e => (by rcases hm with rfl | rfl <;> cases e),fun _ _ h => h.elim,fun _ _ _ h => h.elim,fun _ _ h1 h2 => ⟨h1,h2,fun _ _ => rfl⟩,Ext.refl _⟩⟩
 unfold Prg.give1 at hr
 split at hr
 ·exact ⟨W,gave_take h (.inr rfl) hr hv⟩
 ·exact ⟨W,gave_take h (.inl rfl) hr hv⟩
 ·rename_i b ver off
  split at hr
  ·rename_i hoff
   subst hoff
   obtain ⟨fz,cs,e1,e2⟩ := getB_run hr
   split at e2
   ·rename_i hfc
    obtain ⟨rfl,hne⟩ := hfc
    have hne:cs ≠ [] := by rintro rfl; cases hne
    obtain ⟨ys,s1,q1,q2⟩ := bind_run e2
    obtain ⟨ys',s2,q3,q4⟩ := bind_run q2
    obtain ⟨rfl,rfl,hcl⟩ := closedP_run q3
    simp only [Prg.run,Option.some.injEq,Prod.mk.injEq] at q4
    obtain ⟨rfl,rfl⟩ := q4
    obtain ⟨g0,o,us,hg,hul,hur,huo,hux⟩ := box_vals h e1 hne
    obtain ⟨_,⟨hlab,cells,el,hblk⟩,_⟩ := h.B b ver false cs e1 hne
    obtain ⟨h1,χ,T⟩ := mapC_take cs s _ _ us h q1 hur
    have hb2:s2 (.B b) = .b ver false cs := by rw [takes_B _ _ _ _ q1]; exact e1
    obtain ⟨h2,X2⟩ := rel_hideB h1 hb2
    have hX := T.ext.trans X2
    have hbv:bvOf s b = ver := by simp [bvOf,e1]
    have hc:CRep (ctx s w W) (.ptr b ver 0) v := GRep_one.1 hv
    have hv':v = .pointer (some (W.ad b)) := by
     have := hc.2.2 hbv.symm
     rw [this]
     show Value.pointer (some ((W.ad b).add 0)) = _
     rw [hg,Addr.add_mid]; rfl
    have hB0:Away (s2.set (.B b) (.b ver false [])) (.B b) := .inr ⟨b,ver,rfl,St.set_same _ _ _⟩
    have hlo:∀ g,Loose s2 W g → Loose (s2.set (.B b) (.b ver false [])) W g := by
     rintro g ⟨l,k1,k2⟩
     refine ⟨l,k1,?_⟩
     rcases k2 with k2 | ⟨i,c,ver',rfl,k2⟩
     ·exact .inl k2
     ·exact .inr ⟨i,c,ver',rfl,by rw [St.set_ne _ _ (by simp)]; exact k2⟩
    refine ⟨W,h2,fun c g => match c with | 0 => g = g0 | c + 1 => χ c g,⟨fun _ => ?_,fun _ => ⟨b,ver,rfl,hv',St.set_same _ _ _,fun g hgg => ?_⟩,fun c g hcg => ?_,fun c c' g hc1 hc2 => ?_,?_,hX⟩⟩
    ·refine ⟨rfl,?_,W.ad b,hv',⟨by rw [hg],us,?_,?_⟩,?_,cells,el,hblk⟩
     ·rintro rfl
      have := T.len
      rw [hul] at this
      exact hne (List.length_eq_zero_iff.1 this.symm)
     ·have := took_closed T hcl
      exact ⟨hcl,FAll.closed (X := bare w (ctx s2 w W).S) (Y := bare w (ctx (s2.set (.B b) (.b ver false [])) w W).S) (ψ' := χ) (fun g hg => ⟨(X2.S g hg).1,rfl⟩) _ _ _ _ (fun _ _ _ hg => ⟨hg,rfl⟩) hcl this.2⟩
     ·intro j u hj
      refine ⟨?_,huo u (List.mem_of_getElem? hj)⟩
      rw [hg,Addr.add_mid]
      exact hux j u hj
     ·show (W.ad b).block = g0
      rw [hg]
    ·have hgg:g = g0 := hgg
     rw [hgg]
     rw [hg] at hlab
     exact hlab
    ·cases c with
     | zero =>
      have hcg:g = g0 := hcg
      rw [hg] at hlab
      subst hcg
      exact ⟨⟨.B b,hlab,hB0⟩,fun hn => Away.not_box e1 hne (hn.at hlab)⟩
     | succ c =>
      refine ⟨(hlo g (T.loose c g hcg).1).away,fun hn => (T.loose c g hcg).2 ?_⟩
      obtain ⟨l,k1,k2⟩ := (T.loose c g hcg).1
      rcases hn.at k1 with h3 | ⟨b,ver,rfl,_⟩
      ·exact ⟨l,k1,h3⟩
      ·exact absurd k2 Dead.not_B
    ·have key:∀ c g,χ c g → g ≠ g0 := by
      rintro c g hcg rfl
      rw [hg] at hlab
      exact Dead.not_B ((T.loose c g hcg).1.dead hlab)
     cases c with
     | zero =>
      cases c' with
      | zero => rfl
      | succ c' => exact absurd hc1 (key c' g hc2)
     | succ c =>
      cases c' with
      | zero => exact absurd hc2 (key c g hc1)
      | succ c' => rw [T.apart c c' g hc1 hc2]
    ·intro g l k1 k2
     obtain ⟨k3,k4,k5⟩ := takes_fwd q1 T.mono g l k1 k2
     refine ⟨k3,?_,fun b' e => ?_⟩
     rotate_left
     ·subst e
      have hbb:b' ≠ b := by rintro rfl; exact Away.not_box e1 hne k2
      rw [St.set_ne _ _ (by simpa using hbb)]
      exact k5 b' rfl
     rcases k4 with k4 | ⟨b',ver',rfl,k4⟩
     ·exact .inl ((hlo g ⟨l,k1,k4⟩).dead k1)
     ·by_cases e:b' = b
      ·subst e; exact hB0
      ·exact .inr ⟨b',ver',rfl,by rw [St.set_ne _ _ (by simpa using e)]; exact k4⟩
   ·cases e2
  ·cases hr
 ·obtain ⟨_,s1,q1,q2⟩ := bind_run hr
  obtain ⟨rfl,rfl⟩ := pure_run q2
  obtain ⟨us,hu1,hu2,hu3⟩ := hv
  obtain ⟨W',h1,h2,h3⟩ := freezes_run _ _ _ _ _ us h q1 hu1
  exact ⟨W',h1,fun _ _ => False,⟨fun e => (by simp at e),fun e => (by cases e),fun _ _ h => h.elim,fun _ _ _ h => h.elim,h3,h2⟩⟩
 ·exact triv (.inl rfl) (pure_run hr).2
 ·exact triv (.inr rfl) (pure_run hr).2
 ·cases hr
end
section
variable {G:Beg} {s s' s1:St} {a:Act} {w w':World} {W W' W1:Wit} {P:Program} {E:Env}
theorem BAll.wide {S S':Nat → Prop} (hS:∀ g,S g → S' g) {ψ:Nat → Nat → Prop} {k:Nat} {cs:List Cell} {vs:List Value} (h:BAll w S ψ k cs vs):BAll w S' ψ k cs vs :=
 ⟨h.1,FAll.closed (X := bare w S) (Y := bare w S') (fun g hg => ⟨hS g hg,rfl⟩) _ _ _ _ (fun _ _ _ hg => ⟨hg,rfl⟩) h.1 h.2⟩
theorem BoxAt.wide {S S':Nat → Prop} (hS:∀ g,S g → S' g) {ψ:Nat → Nat → Prop} {cs:List Cell} {ad:Addr} (h:BoxAt w S ψ cs ad):BoxAt w S' ψ cs ad := by
 obtain ⟨h1,vs,h2,h3⟩ := h
 exact ⟨h1,vs,h2.wide hS,h3⟩
theorem Given.wide {S S':Nat → Prop} (hS:∀ g,S g → S' g) {ψ:Nat → Nat → Prop} {m:PM} {y:RV} {v:Value} (h:Given w S ψ m y v):Given w S' ψ m y v := by
 cases y with
 | tup us => cases m <;> exact h
 | val g cs =>
  have gen:(∃ vs,BAll w S (fun c => ψ (c + 1)) 0 cs vs ∧ v = valOf g vs ∧ (g = false → cs.length = 1)) → ∃ vs,BAll w S' (fun c => ψ (c + 1)) 0 cs vs ∧ v = valOf g vs ∧ (g = false → cs.length = 1) :=
   fun ⟨vs,h1,h2⟩ => ⟨vs,h1.wide hS,h2⟩
  cases m with
  | bx => obtain ⟨h1,h2,ad,h3,h4,h5⟩ := h; exact ⟨h1,h2,ad,h3,h4.wide hS,h5⟩
  | bxr => obtain ⟨h1,h2,ad,h3,h4,h5⟩ := h; exact ⟨h1,h2,ad,h3,h4.wide hS,hS _ h5⟩
  | rd => exact gen h
  | fz => exact gen h
  | own => exact gen h
  | «mut» => exact gen h
def GaveAll (w:World) (S:Nat → Prop) (s:St) (W:Wit) (Ψ:Nat → Nat → Nat → Prop):Nat → List PM → List RV → List RV → List Value → Prop
 | _,[],[],[],[] => True
 | i,m :: ms,x :: xs,y :: ys,v :: vs => ((m = .own ∨ m = .mut ∨ m = .bx → Given w S (Ψ i) m y v) ∧ (m = .bx → ∃ b,v = .pointer (some (W.ad b)) ∧ (∃ ver,x = .val false [.ptr b ver 0]) ∧ ∀ g,Ψ i 0 g → W.ω g = some (.B b))) ∧ GaveAll w S s W Ψ (i + 1) ms xs ys vs
 | _,_,_,_,_ => False
theorem GaveAll.mono {S S':Nat → Prop} (hS:∀ g,S g → S' g) {Ψ Ψ':Nat → Nat → Nat → Prop} (ms:List PM):∀ (i:Nat) (xs ys:List RV) (vs:List Value),(∀ j,i ≤ j → Ψ j = Ψ' j) → GaveAll w S s W Ψ i ms xs ys vs → GaveAll w S' s W Ψ' i ms xs ys vs := by
 induction ms with
 | nil => intro i xs ys vs hΨ h; cases xs <;> cases ys <;> cases vs <;> first | trivial | exact h.elim
 | cons m ms ih =>
  intro i xs ys vs hΨ h
  match xs,ys,vs,h with
  | x :: xs,y :: ys,v :: vs,h =>
   obtain ⟨⟨h1,h2⟩,h3⟩ := h
   rw [hΨ i (Nat.le_refl _)] at h1 h2
   exact ⟨⟨fun e => (h1 e).wide hS,h2⟩,ih (i + 1) xs ys vs (fun j hj => hΨ j (by omega)) h3⟩
theorem gives1_run (ms:List PM):∀ (i:Nat) (s s':St) (W:Wit) (xs ys:List RV) (vs:List Value),Rel G s a w W → (Prg.gives1 ms xs).run s = some (ys,s') → All2 (VRep (ctx s w W)) xs vs →
  ∃ W' Ψ,Rel G s' a w W' ∧ GaveAll w (ctx s' w W').S s' W' Ψ i ms xs ys vs ∧ (∀ j c g,Ψ j c g → i ≤ j ∧ AwayB s' W' g ∧ ¬ AwayB s W g) ∧ (∀ j c j' c' g,Ψ j c g → Ψ j' c' g → j = j' ∧ c = c') ∧ Fwd s W s' W' ∧ Ext (ctx s w W) (ctx s' w W') := by
 induction ms with
 | nil =>
  intro i s s' W xs ys vs h hr hv
  cases xs with
  | cons _ _ => cases hr
  | nil =>
   obtain ⟨rfl,rfl⟩ := pure_run hr
   cases vs with
   | cons _ _ => exact hv.elim
   | nil => exact ⟨W,fun _ _ _ => False,h,trivial,fun _ _ _ h => h.elim,fun _ _ _ _ _ h => h.elim,fun _ _ h1 h2 => ⟨h1,h2,fun _ _ => rfl⟩,Ext.refl _⟩
 | cons m ms ih =>
  intro i s s' W xs ys vs h hr hv
  cases xs with
  | nil => cases hr
  | cons x xs =>
   cases vs with
   | nil => exact hv.elim
   | cons v vs =>
    obtain ⟨y,s1,q1,q2⟩ := bind_run hr
    obtain ⟨ys',s2,q3,q4⟩ := bind_run q2
    obtain ⟨rfl,rfl⟩ := pure_run q4
    obtain ⟨W1,h1,ψ,V⟩ := give1_run h q1 hv.1
    obtain ⟨W2,Ψ,h2,k1,k2,k3,k4,k5⟩ := ih (i + 1) s1 _ W1 xs ys' vs h1 q3 (All2.imp (VRep.ext V.ext) _ _ hv.2)
    have hi:∀ c g,¬ Ψ i c g := fun c g hg => by have := (k2 i c g hg).1; omega
    let Φ:Nat → Nat → Nat → Prop := fun j => if j = i then ψ else Ψ j
    have hΦi:Φ i = ψ := by show (if _ then _ else _) = _; rw [if_pos rfl]
    have hΦn:∀ j,j ≠ i → Φ j = Ψ j := fun j hj => by show (if _ then _ else _) = _; rw [if_neg hj]
    have hcross:∀ c j c' g,ψ c g → Ψ j c' g → False := fun c j c' g e1 e2 => (k2 j c' g e2).2.2 (V.away c g e1).1
    refine ⟨W2,Φ,h2,⟨⟨?_,?_⟩,?_⟩,?_,?_,V.fwd.trans k4,V.ext.trans k5⟩
    ·intro e
     rw [hΦi]
     exact (V.own e).wide (fun g hg => (k5.S g hg).1)
    ·intro e
     rw [hΦi]
     obtain ⟨b,ver,e1,e2,e3,e4⟩ := V.box e
     have hadb:W2.ad b = W1.ad b := by
      refine (k5.b b).2 ?_
      have hown := V.own (.inr (.inr e))
      subst e
      have hψ0:∃ g,ψ 0 g := by
       cases y with
       | tup us => exact hown.elim
       | val g cs => obtain ⟨_,_,ad,_,_,h5⟩ := hown; exact ⟨_,h5.1⟩
      obtain ⟨g,hg⟩ := hψ0
      have := (k4 g _ (e4 g hg) (.inr ⟨b,ver,rfl,e3⟩)).2.2 b rfl
      show bvOf s1 b = bvOf _ b
      simp only [bvOf,this]
     refine ⟨b,?_,⟨ver,e1⟩,fun g hg => ?_⟩
     ·rw [e2,hadb]
     ·exact (k4 g _ (e4 g hg) (.inr ⟨b,ver,rfl,e3⟩)).1
    ·exact GaveAll.mono (fun g hg => hg) ms (i + 1) xs ys' vs (fun j hj => (hΦn j (by omega)).symm) k1
    ·intro j c g hg
     by_cases e:j = i
     ·rw [e,hΦi] at hg
      exact ⟨by omega,k4.mono (V.away c g hg).1,(V.away c g hg).2⟩
     ·rw [hΦn j e] at hg
      obtain ⟨l1,l2,l3⟩ := k2 j c g hg
      exact ⟨by omega,l2,fun hn => l3 (V.fwd.mono hn)⟩
    ·intro j c j' c' g hg hg'
     by_cases e:j = i
     ·by_cases e':j' = i
      ·rw [e,hΦi] at hg
       rw [e',hΦi] at hg'
       exact ⟨by omega,V.apart c c' g hg hg'⟩
      ·rw [e,hΦi] at hg
       rw [hΦn j' e'] at hg'
       exact (hcross c j' c' g hg hg').elim
     ·by_cases e':j' = i
      ·rw [hΦn j e] at hg
       rw [e',hΦi] at hg'
       exact (hcross c' j c g hg' hg).elim
      ·rw [hΦn j e] at hg
       rw [hΦn j' e'] at hg'
       exact k3 j c j' c' g hg hg'
theorem Ty.size_pos:∀ e:Ty,0 < e.size
 | .int _ => Nat.one_pos
 | .bool => Nat.one_pos
 | .str => Nat.one_pos
 | .sl _ _ => Nat.one_pos
 | .pair a b => Nat.lt_of_lt_of_le (Ty.size_pos a) (Nat.le_add_right _ _)
theorem lent_all {Sc:Nat → Prop} {ψ:Nat → Nat → Prop} {p:Cell → Prg Cell} {X:Ctx} (hp:∀ c y v s1,(p c).run s = some (y,s1) → CRep X c v → s1 = s ∧ (y.closed = true → FRep (bare w Sc) (fun _ => False) y v))
  {cs ys ys':List Cell} {vs:List Value} {s2:St} (q1:(Prg.mapC p cs).run s = some (ys,s1)) (q3:(Prg.closedP ys).run s1 = some (ys',s2)) (hv:All2 (CRep X) cs vs):s2 = s ∧ BAll w Sc ψ 0 ys' vs := by
 obtain ⟨rfl,h1,h2⟩ := mapC_run hp cs ys vs _ q1 hv
 obtain ⟨rfl,rfl,hc⟩ := closedP_run q3
 exact ⟨rfl,hc,FAll.of2 (h2 hc)⟩
theorem give2_run (h:Rel G s a w W) {Sc:Nat → Prop} (hS:∀ g,(ctx s w W).S g → Sc g) {m:PM} (hL:m.lends = true → ∀ g,g < w.heap.size → ¬ AwayB s W g → Sc g) {ψ:Nat → Nat → Prop} {x y z:RV} {v:Value}
  (hr:(Prg.give2 m x y).run s = some (z,s')) (hv:VRep (ctx s w W) x v) (hg:m = .own ∨ m = .mut ∨ m = .bx → Given w (ctx s w W).S ψ m y v):s' = s ∧ Given w Sc ψ m z v := by
 have hR:m.lends = true → ∀ g i c ver r,W.ω g = some (.R i c) → s (.R i c) = .r ver (some r) → Sc g := fun hm g i c ver r h1 h2 => hL hm g (h.lt g (by rw [h1]; simp)) (fun hn => Away.not_row h2 (hn.at h1))
 have hB:m.lends = true → ∀ g b ver cs,W.ω g = some (.B b) → s (.B b) = .b ver false cs → cs ≠ [] → Sc g := fun hm g b ver cs h1 h2 h3 => hL hm g (h.lt g (by rw [h1]; simp)) (fun hn => Away.not_box h2 h3 (hn.at h1))
 unfold Prg.give2 at hr
 split at hr
 ·obtain ⟨ys,s1,q1,q2⟩ := bind_run hr
  obtain ⟨ys',s2,q3,q4⟩ := bind_run q2
  obtain ⟨rfl,rfl⟩ := pure_run q4
  obtain ⟨us,hu1,hu2,hu3⟩ := hv
  have hlen := (mapC_run (R := CRep (ctx s w W)) (Q := FRep (bare w Sc) (fun _ => False)) (fun c y v s1 hr hv => lend_run h hS (hR rfl) (hB rfl) hr hv) _ _ _ _ q1 hu1).2.1
  obtain ⟨e1,e2⟩ := lent_all (ψ := fun c => ψ (c + 1)) (X := ctx s w W) (fun c y v s1 hr hv => lend_run h hS (hR rfl) (hB rfl) hr hv) q1 q3 hu1
  have hys:ys' = ys := (closedP_run q3).2.1
  exact ⟨e1,us,e2,hu2,fun e => by rw [hys,hlen,← hu1.length]; exact hu3 e⟩
 ·obtain ⟨ys,s1,q1,q2⟩ := bind_run hr
  obtain ⟨ys',s2,q3,q4⟩ := bind_run q2
  obtain ⟨rfl,rfl⟩ := pure_run q4
  obtain ⟨us,hu1,hu2,hu3⟩ := hv
  have hlen := (mapC_run (R := CRep (ctx s w W)) (Q := FRep (bare w Sc) (fun _ => False)) (fun c y v s1 hr hv => lendF_run h hS hr hv) _ _ _ _ q1 hu1).2.1
  obtain ⟨e1,e2⟩ := lent_all (ψ := fun c => ψ (c + 1)) (X := ctx s w W) (fun c y v s1 hr hv => lendF_run h hS hr hv) q1 q3 hu1
  have hys:ys' = ys := (closedP_run q3).2.1
  exact ⟨e1,us,e2,hu2,fun e => by rw [hys,hlen,← hu1.length]; exact hu3 e⟩
 ·rename_i b ver off
  split at hr
  ·rename_i hoff
   subst hoff
   obtain ⟨fz,cs,e1,e2⟩ := getB_run hr
   split at e2
   ·rename_i hne
    have hne:cs ≠ [] := by rintro rfl; cases hne
    obtain ⟨ys,s1,q1,q2⟩ := bind_run e2
    obtain ⟨ys',s2,q3,q4⟩ := bind_run q2
    obtain ⟨rfl,rfl⟩ := pure_run q4
    obtain ⟨g0,o,us,hg0,hul,hur,huo,hux⟩ := box_vals h e1 hne
    have hlen := (mapC_run (R := CRep (ctx s w W)) (Q := FRep (bare w Sc) (fun _ => False)) (fun c y v s1 hr hv => lend_run h hS (hR rfl) (hB rfl) hr hv) _ _ _ _ q1 hur).2.1
    obtain ⟨e3,e4⟩ := lent_all (ψ := fun c => ψ (c + 1)) (X := ctx s w W) (fun c y v s1 hr hv => lend_run h hS (hR rfl) (hB rfl) hr hv) q1 q3 hur
    have hys:ys' = ys := (closedP_run q3).2.1
    have hbv:bvOf s b = ver := by simp [bvOf,e1]
    have hc:CRep (ctx s w W) (.ptr b ver 0) v := GRep_one.1 hv
    have hv':v = .pointer (some (W.ad b)) := by
     have := hc.2.2 hbv.symm
     rw [this]
     show Value.pointer (some ((W.ad b).add 0)) = _
     rw [hg0,Addr.add_mid]; rfl
    refine ⟨e3,rfl,?_,W.ad b,hv',⟨by rw [hg0],us,e4,fun j u hj => ⟨?_,huo u (List.mem_of_getElem? hj)⟩⟩,?_⟩
    ·rintro rfl
     rw [← hys] at hlen
     rw [hul] at hlen
     exact hne (List.length_eq_zero_iff.1 hlen.symm)
    ·rw [hg0,Addr.add_mid]; exact hux j u hj
    ·have := (h.B b ver fz cs e1 hne).2.1
     cases fz
     ·exact hB rfl _ b ver cs this.1 e1 hne
     ·exact hS _ this
   ·cases e2
  ·cases hr
 ·rename_i e x off
  split at hr
  ·rename_i hoff
   subst hoff
   obtain ⟨ys',s2,q3,q4⟩ := bind_run hr
   obtain ⟨rfl,rfl⟩ := pure_run q4
   obtain ⟨rfl,rfl,hc⟩ := closedP_run q3
   have hc':CRep (ctx s' w W) (.sptr e x 0) v := GRep_one.1 hv
   obtain ⟨g,o,us,h1,h2,h3,h4,h5⟩ := hc'
   have hro:ROc w Sc e x us := ROc.move (fun g hg => ⟨hS g hg,rfl⟩) _ _ _ h5
   obtain ⟨k1,k2⟩ := cellsOf_rep (X := bare w Sc) e x us hro
   refine ⟨rfl,rfl,?_,⟨g,o,none⟩,h1,⟨rfl,us,⟨hc,FAll.of_all k1⟩,fun j u hj => ⟨?_,k2 u (List.mem_of_getElem? hj)⟩⟩,hS g h2⟩
   ·intro e0
    have := cellsOf_len e x
    rw [e0] at this
    have := Ty.size_pos e
    simp at *
    omega
   ·rw [Addr.add_mid]; exact h4 j u hj
  ·cases hr
 ·obtain ⟨rfl,rfl⟩ := pure_run hr; exact ⟨rfl,(hg (.inr (.inl rfl))).wide hS⟩
 ·obtain ⟨rfl,rfl⟩ := pure_run hr; exact ⟨rfl,(hg (.inl rfl)).wide hS⟩
 ·obtain ⟨rfl,rfl⟩ := pure_run hr; exact ⟨rfl,(hg (.inr (.inr rfl))).wide hS⟩
 ·cases hr
theorem gives2_run (h:Rel G s a w W) {Sc:Nat → Prop} (hS:∀ g,(ctx s w W).S g → Sc g) {Ψ:Nat → Nat → Nat → Prop} (ms:List PM):∀ (i:Nat) (xs ys zs:List RV) (vs:List Value) (s':St),(ms.any PM.lends = true → ∀ g,g < w.heap.size → ¬ AwayB s W g → Sc g) →
  (Prg.gives2 ms xs ys).run s = some (zs,s') → All2 (VRep (ctx s w W)) xs vs → GaveAll w (ctx s w W).S s W Ψ i ms xs ys vs → s' = s ∧ GivenAll w Sc Ψ i ms zs vs := by
 induction ms with
 | nil =>
  intro i xs ys zs vs s' _ hr hv hg
  match xs,ys,hr with
  | [],[],hr =>
   obtain ⟨rfl,rfl⟩ := pure_run hr
   cases vs with
   | nil => exact ⟨rfl,trivial⟩
   | cons _ _ => exact hv.elim
 | cons m ms ih =>
  intro i xs ys zs vs s' hL hr hv hg
  match xs,ys,vs,hg with
  | x :: xs,y :: ys,v :: vs,hg =>
   obtain ⟨z,s1,q1,q2⟩ := bind_run (show ((Prg.give2 m x y) >>= _).run s = _ from hr)
   obtain ⟨zs',s2,q3,q4⟩ := bind_run q2
   obtain ⟨rfl,rfl⟩ := pure_run q4
   obtain ⟨rfl,h1⟩ := give2_run h hS (fun e => hL (by simp [e])) q1 hv.1 hg.1.1
   obtain ⟨rfl,h2⟩ := ih (i + 1) xs ys zs' vs _ (fun e => hL (by simp [e])) q3 hv.2 hg.2
   exact ⟨rfl,h1,h2⟩
end
section
variable {G:Beg} {s s' s1:St} {a:Act} {w w':World} {W W' W1:Wit} {P:Program} {E:Env}
theorem Away.not_T {i:Nat}:¬ Away s (.T i) := by
 rintro (h | ⟨_,_,e,_⟩)
 ·exact Dead.not_T h
 ·cases e
theorem Away.not_K {i:Nat}:¬ Away s (.K i) := by
 rintro (h | ⟨_,_,e,_⟩)
 ·exact Dead.not_K h
 ·cases e
theorem Away.not_F:¬ Away s .F := by
 rintro (h | ⟨_,_,e,_⟩)
 ·exact Dead.not_F h
 ·cases e
theorem rel_called (h:Rel G s a w W) {Sc S':Nat → Prop} {ψ ψ':Nat → Nat → Nat → Prop} (lab:Nat → Nat → Pl) (hψ:∀ i c g,ψ i c g → AwayB s W g) (T:Trip w Sc ψ w' S' ψ') (hlab:∀ j c g,ψ' j c g → Away s (lab j c)) :
  ∃ W',Rel G s a w' W' ∧ Ext (ctx s w W) (ctx s w' W') ∧ W'.ad = W.ad ∧ (∀ j c g,ψ' j c g → W'.ω g = some (lab j c)) ∧
   ∀ g,S' g → (Sc g → W.ω g = none) → (ctx s w' W').S g := by
 classical
 let ω':Nat → Option Pl := fun g => if hx:∃ p:Nat×Nat,ψ' p.1 p.2 g then some (lab hx.choose.1 hx.choose.2) else if (∃ i c,ψ i c g) ∨ w.heap.size ≤ g then none else W.ω g
 let W':Wit := ⟨ω',W.ad,W.sv⟩
 have ω1:∀ j c g,ψ' j c g → ω' g = some (lab j c) := by
  intro j c g hg
  have hx:∃ p:Nat×Nat,ψ' p.1 p.2 g := ⟨(j,c),hg⟩
  show (if hx:_ then _ else _) = _
  rw [dif_pos hx]
  obtain ⟨e1,e2⟩ := T.hands.apart _ _ _ _ _ hx.choose_spec hg
  rw [e1,e2]
 have ω2:∀ g,(¬ ∃ j c,ψ' j c g) → ((∃ i c,ψ i c g) ∨ w.heap.size ≤ g) → ω' g = none := by
  intro g h1 h2
  show (if hx:_ then _ else _) = _
  rw [dif_neg (by rintro ⟨p,hp⟩; exact h1 ⟨_,_,hp⟩),if_pos h2]
 have ω3:∀ g,g < w.heap.size → (¬ ∃ i c,ψ i c g) → ω' g = W.ω g := by
  intro g h1 h2
  show (if hx:_ then _ else _) = _
  rw [dif_neg (by rintro ⟨p,hp⟩; exact (T.keep g h1 h2).2.2 ⟨_,_,hp⟩),if_neg (by rintro (e | e); exact h2 e; omega)]
 have hn:∀ g,W.ω g = none → ¬ ∃ i c,ψ i c g := by
  rintro g hg ⟨i,c,h1⟩
  obtain ⟨l,e,_⟩ := hψ i c g h1
  rw [hg] at e
  cases e
 have hX:Ext (ctx s w W) (ctx s w' W') := by
  refine ⟨?_,fun _ => ⟨Nat.le_refl _,fun _ => rfl⟩,fun _ _ => ⟨Nat.le_refl _,fun _ => rfl⟩⟩
  rintro g ⟨g1,g2⟩
  exact ⟨⟨Nat.lt_of_lt_of_le g1 T.grow,(ω3 g g1 (hn g g2)).trans g2⟩,(T.keep g g1 (hn g g2)).1⟩
 refine ⟨W',?_,hX,rfl,ω1,?_⟩
 ·refine h.change (Away s) (fun _ _ => rfl) (fun _ => ⟨Away.not_T,Away.not_K⟩) Away.not_F (fun g l hg hl => ?_) (fun _ _ => rfl) (fun _ _ _ => rfl) hX ?_ ?_ (fun g hg => ?_) T.os T.tape T.output T.grow (fun g hg hno => ?_)
  ·have hnψ:¬ ∃ i c,ψ i c g := by rintro ⟨i,c,h1⟩; exact hl ((hψ i c g h1).at hg)
   have hlt := h.lt g (by rw [hg]; simp)
   exact ⟨(ω3 g hlt hnψ).trans hg,(T.keep g hlt hnψ).1⟩
  ·rintro b (hb | ⟨b',ver,e,hb⟩) ver' fz cs hcs hne
   ·exact absurd hb Dead.not_B
   ·injection e with e
    subst e
    rw [hb] at hcs
    injection hcs with _ _ hcs
    exact absurd hcs.symm hne
  ·rintro i c (hi | ⟨b,ver,e,_⟩) ver' r hr
   ·obtain ⟨k,hk⟩ := hi.row
    rw [hk] at hr
    injection hr with _ hr
    cases hr
   ·cases e
  ·by_cases h1:∃ j c,ψ' j c g
   ·obtain ⟨j,c,h1⟩ := h1
    exact (T.hands.own j c g h1).1
   ·by_cases h2:(∃ i c,ψ i c g) ∨ w.heap.size ≤ g
    ·exact absurd (ω2 g h1 h2) hg
    ·have hlt:g < w.heap.size := Nat.lt_of_not_le (fun e => h2 (.inr e))
     exact Nat.lt_of_lt_of_le hlt T.grow
  ·exact ⟨(ω3 g hg (hn g hno)).trans hno,(T.keep g hg (hn g hno)).1⟩
 ·intro g hg hs
  have hnx:¬ ∃ j c,ψ' j c g := by rintro ⟨j,c,h1⟩; exact (T.hands.own j c g h1).2 hg
  refine ⟨T.hands.lt g hg,?_⟩
  by_cases h2:(∃ i c,ψ i c g) ∨ w.heap.size ≤ g
  ·exact ω2 g hnx h2
  ·have hlt:g < w.heap.size := Nat.lt_of_not_le (fun e => h2 (.inr e))
   have hnψ:¬ ∃ i c,ψ i c g := fun e => h2 (.inl e)
   exact (ω3 g hlt hnψ).trans (hs ((T.keep g hlt hnψ).2.1.1 hg))
def LRep (X:Ctx) (φ:Nat → Prop):Cell → Value → Prop
 | .own z d el e l,v => RowRep X.w X.S φ ⟨false,z,d || e.flat,el,e,l⟩ v
 | c,v => CRep X c v
theorem RowRep.deepen {S φ:Nat → Prop} {z:NZ} {d:Bool} {el:Nat} {e:Ty} {l:List e.den} {v:Value} (h:RowRep w S φ ⟨false,z,d,el,e,l⟩ v):RowRep w S φ ⟨false,z,d || e.flat,el,e,l⟩ v := by
 cases d with
 | true => exact h
 | false =>
  obtain ⟨hz,h⟩ := h
  rw [if_neg (by simp)] at h
  obtain ⟨vals,o1,o2,o3⟩ := h
  rw [if_neg (by simp)] at o3
  refine ⟨hz,?_⟩
  rw [if_neg (by simp)]
  refine ⟨vals,o1,o2,?_⟩
  cases hf:e.flat with
  | false => exact o3
  | true =>
   refine ⟨fun _ _ => False,fun _ _ h => h.elim,fun _ _ _ h => h.elim,fun i x hx => ?_⟩
   exact ROc.flat _ _ _ hf (o3 i x hx)
theorem RowRep.deep_S {S S' φ:Nat → Prop} {r:Row} {v:Value} (hf:r.fz = false) (hd:r.d = true) (h:RowRep w S φ r v):RowRep w S' φ r v := by
 obtain ⟨hz,h⟩ := h
 rw [if_neg (by simp [hf])] at h
 refine ⟨hz,?_⟩
 rw [if_neg (by simp [hf])]
 obtain ⟨vals,o1,o2,o3⟩ := h
 rw [if_pos hd] at o3
 exact ⟨vals,o1,o2,by rw [if_pos hd]; exact o3⟩
theorem LRep.of {X:Ctx} {S' φ:Nat → Prop} {c:Cell} {v:Value} (hc:c.closed = true) (h:FRep (bare X.w S') φ c v) (hS:(∀ g,S' g → X.S g) ∨ c.free = true):LRep X φ c v := by
 have tr:(∀ g,S' g → X.S g) → (c.closed = true → FRep (bare X.w S') φ c v → FRep X φ c v) := fun hs hc h => FRep.closed (X := bare X.w S') (fun g hg => ⟨hs g hg,rfl⟩) (fun g hg => ⟨hg,rfl⟩) hc h
 cases c with
 | own z d el e l =>
  have h1:RowRep X.w S' φ ⟨false,z,d || e.flat,el,e,l⟩ v := RowRep.deepen h
  rcases hS with hS | hS
  ·exact RowRep.move (fun g hg => ⟨hS g hg,rfl⟩) (fun g hg => ⟨hg,rfl⟩) h1
  ·exact RowRep.deep_S rfl hS h1
 | sl z el e l => rcases hS with hS | hS; exact tr hS hc h; cases hS
 | sptr e x off => rcases hS with hS | hS; exact tr hS hc h; cases hS
 | fptr f e x => rcases hS with hS | hS; exact tr hS hc h; cases hS
 | fn f caps =>
  rcases hS with hS | hS
  ·exact tr hS hc h
  ·have:caps = [] := by simpa [Cell.free] using hS
   subst this
   obtain ⟨vs,e1,e2⟩ := h
   cases vs with
   | nil => exact ⟨[],e1,trivial⟩
   | cons _ _ => exact e2.elim
 | undef => cases hc
 | row i c ver => cases hc
 | ptr b ver off => cases hc
 | eptr i c ver k sz off => cases hc
 | int k n => exact h
 | bool b => exact h
 | str t => exact h
 | nil el e => exact h
theorem LRep.ext {X Y:Ctx} (hX:Ext X Y) {φ:Nat → Prop} (hφ:∀ g,φ g → Y.w.heap[g]? = X.w.heap[g]?) {c:Cell} {v:Value} (h:LRep X φ c v):LRep Y φ c v := by
 cases c with
 | own z d el e l => exact RowRep.move hX.S (fun g hg => ⟨hg,hφ g hg⟩) h
 | undef => exact CRep.ext hX .undef v h
 | int k n => exact CRep.ext hX (.int k n) v h
 | bool b => exact CRep.ext hX (.bool b) v h
 | str s => exact CRep.ext hX (.str s) v h
 | nil el e => exact CRep.ext hX (.nil el e) v h
 | sl z el e l => exact CRep.ext hX (.sl z el e l) v h
 | row i c ver => exact CRep.ext hX (.row i c ver) v h
 | ptr b ver off => exact CRep.ext hX (.ptr b ver off) v h
 | eptr i c ver k sz off => exact CRep.ext hX (.eptr i c ver k sz off) v h
 | sptr e x off => exact CRep.ext hX (.sptr e x off) v h
 | fptr f e x => exact CRep.ext hX (.fptr f e x) v h
 | fn f caps => exact CRep.ext hX (.fn f caps) v h
def LAll (X:Ctx) (ψ:Nat → Nat → Prop):Nat → List Cell → List Value → Prop
 | _,[],[] => True
 | k,c :: cs,v :: vs => LRep X (ψ k) c v ∧ LAll X ψ (k + 1) cs vs
 | _,_,_ => False
theorem LAll.ext {X Y:Ctx} (hX:Ext X Y) {ψ:Nat → Nat → Prop} (hψ:∀ c g,ψ c g → Y.w.heap[g]? = X.w.heap[g]?):∀ {cs:List Cell} {vs:List Value} {k:Nat},LAll X ψ k cs vs → LAll Y ψ k cs vs
 | [],[],_,_ => trivial
 | _ :: _,_ :: _,_,h => ⟨LRep.ext hX (hψ _) h.1,LAll.ext hX hψ h.2⟩
theorem LAll.of {X:Ctx} {S':Nat → Prop} {ψ:Nat → Nat → Prop}:∀ {cs:List Cell} {vs:List Value} {k:Nat},BAll X.w S' ψ k cs vs → ((∀ g,S' g → X.S g) ∨ cs.all Cell.free = true) → LAll X ψ k cs vs
 | [],[],_,_,_ => trivial
 | [],_ :: _,_,h,_ => h.2.elim
 | _ :: _,[],_,h,_ => h.2.elim
 | c :: cs,v :: vs,k,h,hS => by
  obtain ⟨h1,h2,h3⟩ := h
  simp only [List.all_cons,Bool.and_eq_true] at h1
  refine ⟨LRep.of h1.1 h2 ?_,LAll.of (cs := cs) (vs := vs) (k := k + 1) ⟨h1.2,h3⟩ ?_⟩
  ·rcases hS with hS | hS
   ·exact .inl hS
   ·simp only [List.all_cons,Bool.and_eq_true] at hS; exact .inr hS.1
  ·rcases hS with hS | hS
   ·exact .inl hS
   ·simp only [List.all_cons,Bool.and_eq_true] at hS; exact .inr hS.2
def Kept (W W':Wit) (ψ:Nat → Prop):Prop := W'.ad = W.ad ∧ ∀ g l,W.ω g = some l → (∀ i c,l ≠ .R i c) → ¬ ψ g → W'.ω g = some l
theorem Kept.trans {W2:Wit} {ψ ψ':Nat → Prop} (h:Kept W W1 ψ) (k:Kept W1 W2 ψ'):Kept W W2 (fun g => ψ g ∨ ψ' g) :=
 ⟨k.1.trans h.1,fun g l h1 h2 h3 => k.2 g l (h.2 g l h1 h2 (fun e => h3 (.inl e))) h2 (fun e => h3 (.inr e))⟩
theorem Kept.refl {ψ:Nat → Prop}:Kept W W ψ := ⟨rfl,fun _ _ h _ _ => h⟩
theorem Kept.wide {ψ ψ':Nat → Prop} (h:Kept W W' ψ) (hψ:∀ g,ψ g → ψ' g):Kept W W' ψ' := ⟨h.1,fun g l h1 h2 h3 => h.2 g l h1 h2 (fun e => h3 (hψ g e))⟩
theorem rel_lay1 (h:Rel G s a w W) {d c ver:Nat} {r0:Option Row} (hd:s (.R d c) = .r ver r0) (ver':Nat) (r:Row) (v:Value) (hver:ver < ver' ∨ (ver' = ver ∧ v = W.sv d c)) {φ:Nat → Prop} (hφ:∀ g,φ g → ∃ x y,W.ω g = some (.X x y))
  (hrep:RowRep w (ctx s w W).S φ r v) :
  ∃ W',Rel G (s.set (.R d c) (.r ver' (some r))) a w W' ∧ CRep (ctx (s.set (.R d c) (.r ver' (some r))) w W') (.row d c ver') v ∧ Ext (ctx s w W) (ctx (s.set (.R d c) (.r ver' (some r))) w W') ∧ Kept W W' φ := by
 obtain ⟨W',h1,h2,h3,h4,h5⟩ := rel_layR h hd ver' r v hver φ (fun _ => False) (fun g hg => by obtain ⟨x,y,e⟩ := hφ g hg; exact ⟨_,e,.inl ⟨x,y,rfl⟩⟩) (fun _ h => h.elim) (fun _ _ _ => rfl) rfl rfl rfl (Nat.le_refl _)
  (RowRep.move (fun g hg => ⟨⟨hg.1,fun e => (by obtain ⟨x,y,e'⟩ := hφ g e; rw [hg.2] at e'; cases e'),.inl hg.2⟩,rfl⟩) (fun g hg => ⟨.inl hg,rfl⟩) hrep)
 exact ⟨W',h1,h2,h3,h4,fun g l e1 e2 e3 => h5 g l e1 (e2 _ _) e3 (fun h => h)⟩
theorem lay_run (i:Nat) (cs:List Cell):∀ (k k':Nat) (s s':St) (W:Wit) (ys:List Cell) (vs:List Value) (ψ:Nat → Nat → Prop),Rel G s a w W → (Prg.lay i k cs).run s = some (ys,s') → LAll (ctx s w W) ψ k' cs vs →
  (∀ c g,ψ c g → k' ≤ c → ∃ x y,W.ω g = some (.X x y)) → (∀ c c' g,ψ c g → ψ c' g → c = c') →
  ∃ W',Rel G s' a w W' ∧ Ext (ctx s w W) (ctx s' w W') ∧ All2 (CRep (ctx s' w W')) ys vs ∧ Kept W W' (fun g => ∃ c,k' ≤ c ∧ c < k' + cs.length ∧ ψ c g) ∧ (∀ b,s' (.B b) = s (.B b)) := by
 induction cs with
 | nil =>
  intro k k' s s' W ys vs ψ h hr hv hψ hap
  obtain ⟨rfl,rfl⟩ := pure_run hr
  cases vs with
  | nil => exact ⟨W,h,Ext.refl _,trivial,Kept.refl,fun _ => rfl⟩
  | cons _ _ => exact hv.elim
 | cons c cs ih =>
  intro k k' s s' W ys vs ψ h hr hv hψ hap
  cases vs with
  | nil => exact hv.elim
  | cons v vs =>
   have other:(∀ z d el e l,c ≠ .own z d el e l) → (Prg.lay i k (c :: cs) = (do let s ← Prg.lay i (k + 1) cs; .pure (c :: s))) → CRep (ctx s w W) c v → ∃ W',Rel G s' a w W' ∧ Ext (ctx s w W) (ctx s' w W') ∧ All2 (CRep (ctx s' w W')) ys (v :: vs) ∧ Kept W W' (fun g => ∃ c_1,k' ≤ c_1 ∧ c_1 < k' + (c :: cs).length ∧ ψ c_1 g) ∧ (∀ b,s' (.B b) = s (.B b)) := by
    intro _ he hc
    rw [he] at hr
    obtain ⟨ys',s1,q1,q2⟩ := bind_run hr
    obtain ⟨rfl,rfl⟩ := pure_run q2
    obtain ⟨W',h1,h2,h3,h4,h5⟩ := ih (k + 1) (k' + 1) s _ W ys' vs ψ h q1 hv.2 (fun c g hg hk => hψ c g hg (by omega)) hap
    exact ⟨W',h1,h2,⟨CRep.ext h2 _ _ hc,h3⟩,h4.wide (fun g ⟨c,c1,c2,c3⟩ => ⟨c,by omega,by simp only [List.length_cons]; omega,c3⟩),h5⟩
   cases c with
   | own z d el e l =>
    simp only [Prg.lay] at hr
    obtain ⟨ver,r0,e1,e2⟩ := newR_run hr
    obtain ⟨ys',s1,q1,q2⟩ := bind_run e2
    obtain ⟨rfl,rfl⟩ := pure_run q2
    obtain ⟨W1,h1,h2,h3,h4⟩ := rel_lay1 (φ := ψ k') h e1 (ver + 1) ⟨false,z,d || e.flat,el,e,l⟩ v (.inl (Nat.lt_succ_self _)) (fun g hg => hψ k' g hg (Nat.le_refl _)) hv.1
    have hL:LAll (ctx (s.set (.R i k) (.r (ver + 1) (some ⟨false,z,d || e.flat,el,e,l⟩))) w W1) (fun c g => ψ c g ∧ k' + 1 ≤ c) (k' + 1) cs vs := by
     have := LAll.ext (ψ := ψ) h3 (fun _ _ _ => rfl) hv.2
     clear ih
     revert this
     generalize ctx (s.set (.R i k) (.r (ver + 1) (some ⟨false,z,d || e.flat,el,e,l⟩))) w W1 = X
     have key:∀ (cs:List Cell) (vs:List Value) (m:Nat),k' + 1 ≤ m → LAll X ψ m cs vs → LAll X (fun c g => ψ c g ∧ k' + 1 ≤ c) m cs vs := by
      intro cs
      induction cs with
      | nil => intro vs m _ h; cases vs; trivial; exact h.elim
      | cons c cs ih =>
       intro vs m hm h
       cases vs with
       | nil => exact h.elim
       | cons v vs =>
        refine ⟨?_,ih vs (m + 1) (by omega) h.2⟩
        have:(fun g => ψ m g ∧ k' + 1 ≤ m) = ψ m := by funext g; simp [hm]
        show LRep X (fun g => ψ m g ∧ k' + 1 ≤ m) c v
        rw [this]
        exact h.1
     exact key cs vs (k' + 1) (Nat.le_refl _)
    have hX:∀ c g,(ψ c g ∧ k' + 1 ≤ c) → k' + 1 ≤ c → ∃ x y,W1.ω g = some (.X x y) := by
     intro c g hg hk
     obtain ⟨x,y,e'⟩ := hψ c g hg.1 (by omega)
     exact ⟨x,y,h4.2 g _ e' (by simp) (fun hn => by have := hap _ _ _ hn hg.1; omega)⟩
    obtain ⟨W',h5,h6,h7,h8,h9⟩ := ih (k + 1) (k' + 1) _ _ W1 ys' vs (fun c g => ψ c g ∧ k' + 1 ≤ c) h1 q1 hL hX (fun c c' g h1 h2 => hap c c' g h1.1 h2.1)
    refine ⟨W',h5,h3.trans h6,⟨CRep.ext h6 _ _ h2,h7⟩,(h4.trans h8).wide ?_,fun b => (h9 b).trans (St.set_ne _ _ (by simp))⟩
    rintro g (hg | ⟨c,c1,c2,c3⟩)
    ·exact ⟨k',Nat.le_refl _,by simp only [List.length_cons]; omega,hg⟩
    ·exact ⟨c,by omega,by simp only [List.length_cons]; omega,c3.1⟩
   | undef => exact other (by simp) rfl hv.1
   | int k n => exact other (by simp) rfl hv.1
   | bool b => exact other (by simp) rfl hv.1
   | str t => exact other (by simp) rfl hv.1
   | nil el e => exact other (by simp) rfl hv.1
   | sl z el e l => exact other (by simp) rfl hv.1
   | row i c ver => exact other (by simp) rfl hv.1
   | ptr b ver off => exact other (by simp) rfl hv.1
   | eptr i c ver k sz off => exact other (by simp) rfl hv.1
   | sptr e x off => exact other (by simp) rfl hv.1
   | fptr f e x => exact other (by simp) rfl hv.1
   | fn f caps => exact other (by simp) rfl hv.1
end
section
variable {G:Beg} {s s' s1:St} {a:Act} {w w':World} {W W' W1:Wit} {P:Program} {E:Env}
theorem back_run (cs:List Cell):∀ (k':Nat) (s s':St) (W:Wit) (o:List Cell) (us:List Value) (ψ:Nat → Nat → Prop) (u:Unit),Rel G s a w W → (Prg.back cs o).run s = some (u,s') → All2 (CRep (ctx s w W)) cs us → LAll (ctx s w W) ψ k' o us →
  (∀ c g,ψ c g → k' ≤ c → ∃ x y,W.ω g = some (.X x y)) → (∀ c c' g,ψ c g → ψ c' g → c = c') →
  ∃ W',Rel G s' a w W' ∧ Ext (ctx s w W) (ctx s' w W') ∧ Kept W W' (fun g => ∃ c,ψ c g) ∧ (∀ b,s' (.B b) = s (.B b)) := by
 induction cs with
 | nil =>
  intro k' s s' W o us ψ u h hr hv hL hψ hap
  cases o with
  | nil => obtain ⟨_,rfl⟩ := pure_run hr; exact ⟨W,h,Ext.refl _,Kept.refl,fun _ => rfl⟩
  | cons _ _ => cases hr
 | cons c cs ih =>
  intro k' s s' W o us ψ u h hr hv hL hψ hap
  cases us with
  | nil => exact hv.elim
  | cons v us =>
   cases o with
   | nil => exact hL.elim
   | cons y o =>
    have skip:(Prg.back cs o).run s = some (u,s') → ∃ W',Rel G s' a w W' ∧ Ext (ctx s w W) (ctx s' w W') ∧ Kept W W' (fun g => ∃ c,ψ c g) ∧ (∀ b,s' (.B b) = s (.B b)) := fun hr =>
     ih (k' + 1) s s' W o us ψ u h hr hv.2 hL.2 (fun c g hg hk => hψ c g hg (by omega)) hap
    unfold Prg.back at hr
    split at hr
    ·rename_i heq _; cases heq
    ·rename_i i c ver r z d el e l s0 heq heq'
     injection heq with e1 e2
     injection heq' with e3 e4
     subst e1 e2 e3 e4
     simp only [Prg.run] at hr
     split at hr
     ·rename_i ver' hs
      split at hr
      ·rename_i hvv
       subst hvv
       have hc := hv.1
       have hrv:rvOf s i c = ver' := by simp [rvOf,hs]
       obtain ⟨W1,h1,_,h3,h4⟩ := rel_lay1 (φ := ψ k') h hs ver' ⟨false,z,d || e.flat,el,e,l⟩ v (.inr ⟨rfl,hc.2.2 hrv.symm⟩) (fun g hg => hψ k' g hg (Nat.le_refl _)) hL.1
       obtain ⟨W',h5,h6,h7,h8⟩ := ih (k' + 1) _ s' W1 o us ψ u h1 hr (All2.imp (CRep.ext h3) _ _ hv.2) (LAll.ext h3 (fun _ _ _ => rfl) hL.2)
        (fun c g hg hk => by
         obtain ⟨x,y,e'⟩ := hψ c g hg (by omega)
         exact ⟨x,y,h4.2 g _ e' (by simp) (fun hn => by have := hap _ _ _ hn hg; omega)⟩) hap
       exact ⟨W',h5,h3.trans h6,(h4.trans h7).wide (fun g hg => hg.elim (fun e => ⟨k',e⟩) id),fun b => (h8 b).trans (St.set_ne _ _ (by simp))⟩
      ·cases hr
     ·cases hr
    ·rename_i heq heq'
     injection heq with e1 e2
     injection heq' with e3 e4
     subst e2 e4
     exact skip hr
    ·cases hr
theorem rel_showB (h:Rel G s a w W) {b ver:Nat} (hb:s (.B b) = .b ver false []) {cs:List Cell} {vs:List Value} (hsp:(W.ad b).spot = none) (hω:W.ω (W.ad b).block = some (.B b)) (hblk:∃ cells el,w.heap[(W.ad b).block]? = some (.cells cells el (0,0)))
  (hv:All2 (CRep (ctx s w W)) cs vs) (hcell:∀ (j:Nat) (u:Value),vs[j]? = some u → w.cell? ((W.ad b).add j) = some u ∧ u.oneCell' = true) :
  Rel G (s.set (.B b) (.b ver false cs)) a w W ∧ Ext (ctx s w W) (ctx (s.set (.B b) (.b ver false cs)) w W) := by
 have hX:Ext (ctx s w W) (ctx (s.set (.B b) (.b ver false cs)) w W) := by
  refine ⟨fun g hg => ⟨hg,rfl⟩,fun x => ?_,fun i c => ⟨?_,fun _ => rfl⟩⟩
  ·refine ⟨?_,fun _ => rfl⟩
   simp only [ctx,bvOf]
   by_cases e:x = b
   ·subst e; rw [St.set_same,hb]; exact Nat.le_refl _
   ·rw [St.set_ne _ _ (by simpa using e)]; exact Nat.le_refl _
  ·simp only [ctx,rvOf]; rw [St.set_ne _ _ (by simp)]; exact Nat.le_refl _
 refine ⟨?_,hX⟩
 refine h.change (fun l => l = .B b) (fun l hl => St.set_ne _ _ hl) (fun _ => by simp) (by simp) (fun g l hg hl => ⟨hg,rfl⟩) (fun _ _ => rfl) (fun _ _ _ => rfl) hX ?_ (fun _ _ e => by cases e) h.lt rfl rfl rfl (Nat.le_refl _) (fun g _ hg => ⟨hg,rfl⟩)
 intro b' e ver' fz cs' hb' hne
 injection e with e
 subst e
 rw [St.set_same] at hb'
 injection hb' with e1 e2 e3
 subst e1 e2 e3
 refine ⟨hsp,⟨hω,hblk⟩,fun j c hj => ?_⟩
 obtain ⟨v,k1,k2⟩ := hv.get hj
 exact ⟨v,(hcell j v k1).1,(hcell j v k1).2,CRep.ext hX _ _ k2⟩
def BackAll (W:Wit) (ψ:Nat → Nat → Nat → Prop):Nat → List PM → List RV → List Value → Prop
 | i,m :: ms,x :: xs,v :: vs => (m = .bx → ∃ b,(∃ ver,x = .val false [.ptr b ver 0]) ∧ v = .pointer (some (W.ad b)) ∧ ∀ g,ψ (i + 1) 0 g → W.ω g = some (.B b)) ∧ BackAll W ψ (i + 1) ms xs vs
 | _,_,_,_ => True
theorem BackAll.kept {φ:Nat → Prop} (k:Kept W W' φ) {ψ:Nat → Nat → Nat → Prop} (ms:List PM):∀ (i:Nat) (xs:List RV) (vs:List Value),(∀ j g,i ≤ j → ψ (j + 1) 0 g → ¬ φ g) → BackAll W ψ i ms xs vs → BackAll W' ψ i ms xs vs := by
 induction ms with
 | nil => intro i xs vs _ _; unfold BackAll; trivial
 | cons m ms ih =>
  intro i xs vs hφ h
  match xs,vs,h with
  | [],_,_ => unfold BackAll; trivial
  | _ :: _,[],_ => unfold BackAll; trivial
  | x :: xs,v :: vs,h =>
   refine ⟨fun e => ?_,ih (i + 1) xs vs (fun j g hj => hφ j g (by omega)) h.2⟩
   obtain ⟨b,h1,h2,h3⟩ := h.1 e
   exact ⟨b,h1,by rw [k.1]; exact h2,fun g hg => k.2 g _ (h3 g hg) (by simp) (hφ i g (Nat.le_refl _) hg)⟩
theorem cells_defd {X:Ctx} {g:Bool} {cs:List Cell} {v:Value} {us:List Value} (hu:All2 (CRep X) cs us) (hv:v = valOf g us) (hg:g = false → cs.length = 1) (hd:cs.all Cell.defd = true):v.cells.toList = us := by
 refine cells_of hv (fun e => by rw [← hu.length]; exact hg e) ?_
 intro u hm
 obtain ⟨j,hj,rfl⟩ := List.mem_iff_getElem.1 hm
 have hj':j < cs.length := by rw [hu.length]; exact hj
 obtain ⟨v',h1,h2⟩ := hu.get (i := j) (List.getElem?_eq_getElem hj')
 rw [List.getElem?_eq_getElem hj] at h1
 cases h1
 simp only [List.all_eq_true] at hd
 exact CRep.one _ _ h2 (hd _ (List.getElem_mem hj'))
theorem giveB_run {S':Nat → Prop} {ψ:Nat → Nat → Nat → Prop} (hap:∀ i c i' c' g,ψ i c g → ψ i' c' g → i = i' ∧ c = c') {i:Nat} {m:PM} {x:RV} {v:Value} {o:List Cell} {os os':List (List Cell)}
  (h:Rel G s a w W) (hr:(Prg.giveB m x (o :: os)).run s = some (os',s')) (hm:m.wr = true) (hv:VRep (ctx s w W) x v) (ho:Out1 w S' (ψ (i + 1)) m v o) (hb:m = .bx → ∃ b,(∃ ver,x = .val false [.ptr b ver 0]) ∧ v = .pointer (some (W.ad b)) ∧ ∀ g,ψ (i + 1) 0 g → W.ω g = some (.B b))
  (hS:(∀ g,S' g → (ctx s w W).S g) ∨ o.all Cell.free = true) (hl:∀ c g,ψ (i + 1) (c + 1) g → ∃ x y,W.ω g = some (.X x y)) :
  os' = os ∧ ∃ W',Rel G s' a w W' ∧ Ext (ctx s w W) (ctx s' w W') ∧ Kept W W' (fun g => ∃ c,ψ (i + 1) (c + 1) g) := by
 have hap':∀ c c' g,ψ (i + 1) (c + 1) g → ψ (i + 1) (c' + 1) g → c = c' := fun c c' g h1 h2 => by have := (hap _ _ _ _ _ h1 h2).2; omega
 unfold Prg.giveB at hr
 split at hr
 ·rename_i b ver _ o1 os1 heq
  injection heq with e1 e2
  subst e1 e2
  obtain ⟨ys,s1,q1,q2⟩ := bind_run hr
  obtain ⟨fz,cs,q3,q4⟩ := getB_run q2
  split at q4
  ·rename_i hc
   obtain ⟨rfl,hc⟩ := hc
   have hc:cs = [] := by simpa using hc
   subst hc
   simp only [Prg.run,Option.some.injEq,Prod.mk.injEq] at q4
   obtain ⟨rfl,rfl⟩ := q4
   obtain ⟨b',⟨ver',hx⟩,hvb,hbl⟩ := hb rfl
   injection hx with _ hx
   injection hx with hx _
   injection hx with hx1 hx2 hx3
   subst hx1
   obtain ⟨ad,ho1,⟨hsp,us,hus,hcell⟩,hown,hblk⟩ := ho
   rw [hvb] at ho1
   injection ho1 with ho1
   injection ho1 with ho1
   subst ho1
   obtain ⟨W1,h1,h2,h3,h4,h5⟩ := lay_run b o 0 0 s s1 W ys us (fun c => ψ (i + 1) (c + 1)) h q1 (LAll.of (X := ctx s w W) hus hS) (fun c g hg _ => hl c g hg) hap'
   have had:W1.ad b = W.ad b := by rw [h4.1]
   have hblab:W1.ω (W.ad b).block = some (.B b) := h4.2 _ _ (hbl _ hown) (by simp) (by rintro ⟨c,_,_,hg⟩; have := (hap _ _ _ _ _ hown hg).2; omega)
   obtain ⟨h6,h7⟩ := rel_showB h1 q3 (cs := ys) (vs := us) (by rw [had]; exact hsp) (by rw [had]; exact hblab) (by rw [had]; exact hblk) h3 (by rw [had]; exact hcell)
   exact ⟨rfl,W1,h6,h2.trans h7,h4.wide (fun g ⟨c,_,_,hg⟩ => ⟨c,hg⟩)⟩
  ·cases q4
 ·rename_i g cs o1 os1 heq
  injection heq with e1 e2
  subst e1 e2
  obtain ⟨_,s1,q1,q2⟩ := bind_run hr
  obtain ⟨hd,rfl⟩ := chk_run q1
  obtain ⟨_,s2,q3,q4⟩ := bind_run q2
  obtain ⟨rfl,rfl⟩ := pure_run q4
  obtain ⟨us,hu1,hu2,hu3⟩ := hv
  have hcs := cells_defd hu1 hu2 hu3 hd
  have ho:BAll w S' (fun c => ψ (i + 1) (c + 1)) 0 o v.cells.toList := ho
  rw [hcs] at ho
  obtain ⟨W1,h1,h2,h3,_⟩ := back_run cs 0 _ _ W o us (fun c => ψ (i + 1) (c + 1)) _ h q3 hu1 (LAll.of (X := ctx _ w W) ho hS) (fun c g hg _ => hl c g hg) hap'
  exact ⟨rfl,W1,h1,h2,h3⟩
 all_goals first | cases hm | cases hr
theorem giveBack_run {S':Nat → Prop} {ψ:Nat → Nat → Nat → Prop} (hap:∀ i c i' c' g,ψ i c g → ψ i' c' g → i = i' ∧ c = c') (ms:List PM):∀ (i:Nat) (s s':St) (W:Wit) (xs:List RV) (vs:List Value) (os:List (List Cell)) (u:Unit),
  Rel G s a w W → (Prg.giveBack ms xs os).run s = some (u,s') → All2 (VRep (ctx s w W)) xs vs → OutAll w S' ψ i ms vs os → BackAll W ψ i ms xs vs → ((∀ g,S' g → (ctx s w W).S g) ∨ os.all (·.all Cell.free) = true) →
  (∀ j c g,i ≤ j → ψ (j + 1) (c + 1) g → ∃ x y,W.ω g = some (.X x y)) →
  ∃ W',Rel G s' a w W' ∧ Ext (ctx s w W) (ctx s' w W') ∧ Kept W W' (fun g => ∃ j c,ψ (j + 1) (c + 1) g) := by
 induction ms with
 | nil =>
  intro i s s' W xs vs os u h hr hv ho hb hS hl
  obtain ⟨_,rfl⟩ := pure_run hr
  exact ⟨W,h,Ext.refl _,Kept.refl⟩
 | cons m ms ih =>
  intro i s s' W xs vs os u h hr hv ho hb hS hl
  cases xs with
  | nil => cases hr
  | cons x xs =>
   cases vs with
   | nil => exact hv.elim
   | cons v vs =>
    obtain ⟨os',s1,q1,q2⟩ := bind_run hr
    simp only [OutAll] at ho
    by_cases hm:m.wr = true
    ·rw [if_pos hm] at ho
     obtain ⟨o,os1,rfl,ho1,ho2⟩ := ho
     have hS1:(∀ g,S' g → (ctx s w W).S g) ∨ o.all Cell.free = true := by
      rcases hS with hS | hS
      ·exact .inl hS
      ·simp only [List.all_cons,Bool.and_eq_true] at hS; exact .inr hS.1
     obtain ⟨rfl,W1,h1,h2,h3⟩ := giveB_run hap h q1 hm hv.1 ho1 hb.1 hS1 (fun c g hg => hl i c g (Nat.le_refl _) hg)
     obtain ⟨W2,h4,h5,h6⟩ := ih (i + 1) s1 s' W1 xs vs os' u h1 q2 (All2.imp (VRep.ext h2) _ _ hv.2) ho2
      (BackAll.kept h3 ms (i + 1) xs vs (fun j g hj hg ⟨c,hc⟩ => by have := (hap _ _ _ _ _ hg hc).2; omega) hb.2)
      (by
       rcases hS with hS | hS
       ·exact .inl (fun g hg => (h2.S g (hS g hg)).1)
       ·simp only [List.all_cons,Bool.and_eq_true] at hS; exact .inr hS.2)
      (fun j c g hj hg => by
       obtain ⟨x',y',e⟩ := hl j c g (by omega) hg
       exact ⟨x',y',h3.2 g _ e (by simp) (fun ⟨c',hc'⟩ => by have := (hap _ _ _ _ _ hg hc').1; omega)⟩)
     exact ⟨W2,h4,h2.trans h5,(h3.trans h6).wide (fun g hg => hg.elim (fun ⟨c,hc⟩ => ⟨i,c,hc⟩) id)⟩
    ·rw [if_neg hm] at ho
     have hq:os' = os ∧ s1 = s := by
      cases m <;> first | exact absurd rfl hm | exact pure_run q1
     obtain ⟨rfl,rfl⟩ := hq
     exact ih (i + 1) _ s' W xs vs _ u h q2 hv.2 ho hb.2 hS (fun j c g hj hg => hl j c g (by omega) hg)
theorem layTup_run {S':Nat → Prop} {ψ:Nat → Nat → Prop} (hap:∀ c c' g,ψ c g → ψ c' g → c = c') (i:Nat) (us:List (Bool×List Cell)):∀ (k:Nat) (s s':St) (W:Wit) (r:List (Bool×List Cell)) (vs:List Value),Rel G s a w W → (Prg.layTup i k us).run s = some (r,s') → TupRep w S' ψ k us vs →
  ((∀ g,S' g → (ctx s w W).S g) ∨ us.all (fun x => x.2.all Cell.free) = true) → (∀ c g,ψ c g → k ≤ c → ∃ x y,W.ω g = some (.X x y)) →
  ∃ W',Rel G s' a w W' ∧ Ext (ctx s w W) (ctx s' w W') ∧ All2 (fun u v => GRep (ctx s' w W') u.1 u.2 v) r vs := by
 induction us with
 | nil =>
  intro k s s' W r vs h hr hv _ _
  obtain ⟨rfl,rfl⟩ := pure_run hr
  cases vs with
  | nil => exact ⟨W,h,Ext.refl _,trivial⟩
  | cons _ _ => exact hv.elim
 | cons x us ih =>
  intro k s s' W r vs h hr hv hS hl
  cases vs with
  | nil => exact hv.elim
  | cons v vs =>
   obtain ⟨ys,s1,q1,q2⟩ := bind_run hr
   obtain ⟨r',s2,q3,q4⟩ := bind_run q2
   obtain ⟨rfl,rfl⟩ := pure_run q4
   obtain ⟨⟨ws,e1,e2,e3⟩,hv2⟩ := hv
   have hS1:(∀ g,S' g → (ctx s w W).S g) ∨ x.2.all Cell.free = true := by
    rcases hS with hS | hS
    ·exact .inl hS
    ·simp only [List.all_cons,Bool.and_eq_true] at hS; exact .inr hS.1
   obtain ⟨W1,h1,h2,h3,h4,_⟩ := lay_run i x.2 k k s s1 W ys ws ψ h q1 (LAll.of (X := ctx s w W) e1 hS1) hl hap
   obtain ⟨W2,h5,h6,h7⟩ := ih (k + x.2.length) s1 _ W1 r' vs h1 q3 hv2
    (by
     rcases hS with hS | hS
     ·exact .inl (fun g hg => (h2.S g (hS g hg)).1)
     ·simp only [List.all_cons,Bool.and_eq_true] at hS; exact .inr hS.2)
    (fun c g hg hk => by
     obtain ⟨x',y',e⟩ := hl c g hg (by omega)
     exact ⟨x',y',h4.2 g _ e (by simp) (fun ⟨c',c1,c2,hc'⟩ => by have := hap _ _ _ hg hc'; omega)⟩)
   refine ⟨W2,h5,h2.trans h6,⟨GRep.ext h6 ⟨ws,h3,e2,fun e => ?_⟩,h7⟩⟩
   show ys.length = 1
   rw [h3.length,← e1.2.length]
   exact e3 e
theorem layRV_run {S':Nat → Prop} {ψ:Nat → Nat → Prop} (hap:∀ c c' g,ψ c g → ψ c' g → c = c') {d:Nat} {x r:RV} {v:Value} (h:Rel G s a w W) (hr:(Prg.layRV d x).run s = some (r,s')) (hv:ResRep w S' ψ x v) (hS:(∀ g,S' g → (ctx s w W).S g) ∨ x.free = true)
  (hl:∀ c g,ψ (c + 1) g → ∃ x y,W.ω g = some (.X x y)):∃ W',Rel G s' a w W' ∧ Ext (ctx s w W) (ctx s' w W') ∧ VRep (ctx s' w W') r v := by
 have hap':∀ c c' g,ψ (c + 1) g → ψ (c' + 1) g → c = c' := fun c c' g h1 h2 => by have := hap _ _ _ h1 h2; omega
 cases x with
 | val g cs =>
  obtain ⟨ys,s1,q1,q2⟩ := bind_run hr
  obtain ⟨rfl,rfl⟩ := pure_run q2
  obtain ⟨vs,e1,e2,e3⟩ := hv
  obtain ⟨W1,h1,h2,h3,_⟩ := lay_run d cs 0 0 s _ W ys vs (fun c => ψ (c + 1)) h q1 (LAll.of (X := ctx s w W) e1 hS) (fun c g hg _ => hl c g hg) hap'
  refine ⟨W1,h1,h2,vs,h3,e2,fun e => ?_⟩
  rw [h3.length,← e1.2.length]
  exact e3 e
 | tup us =>
  obtain ⟨ys,s1,q1,q2⟩ := bind_run hr
  obtain ⟨rfl,rfl⟩ := pure_run q2
  obtain ⟨vs,e1,e2⟩ := hv
  obtain ⟨W1,h1,h2,h3⟩ := layTup_run hap' d us 0 s _ W ys vs h q1 e2 hS (fun c g hg _ => hl c g hg)
  exact ⟨W1,h1,h2,vs,e1,h3⟩
end
section
variable {G:Beg} {s s' s1:St} {a:Act} {w w':World} {W W' W1:Wit} {P:Program} {E:Env}
theorem run_callFunc {f:Nat} {args:Array Value} {fn:Func} (hf:P.funcs[f]? = some fn) (hb:fn.body.isSome = true) (hn:(fn.name == "runtime.NumGoroutine") = false):(callFunc f args).run P w = .ok (.enter f args) w := by
 have hn':¬ fn.name = "runtime.NumGoroutine" := by simpa using hn
 have hb':¬ fn.body = none := by intro e; rw [e] at hb; cases hb
 simp [callFunc,hf,hn',hb']
def labOf (ms:List PM) (xs:List RV):Nat → Nat → Pl
 | j + 1,0 => match ms[j]?,xs[j]? with
  | some .bx,some (.val false [.ptr b _ _]) => .B b
  | _,_ => .X (j + 1) 0
 | j,c => .X j c
theorem gave_away {S:Nat → Prop} {Ψ:Nat → Nat → Nat → Prop} (hΨ:∀ j c g,Ψ j c g → AwayB s W g) (ms:List PM):∀ (i:Nat) (xs ys:List RV) (vs:List Value),GaveAll w S s W Ψ i ms xs ys vs → ∀ p:Nat,ms[p]? = some .bx → ∃ b ver v,xs[p]? = some (.val false [.ptr b ver 0]) ∧ vs[p]? = some v ∧ v = .pointer (some (W.ad b)) ∧ Away s (.B b) := by
 induction ms with
 | nil => intro i xs ys vs _ p hp; simp at hp
 | cons m ms ih =>
  intro i xs ys vs h p hp
  match xs,ys,vs,h with
  | x :: xs,y :: ys,v :: vs,h =>
   cases p with
   | succ p => simpa using ih (i + 1) xs ys vs h.2 p (by simpa using hp)
   | zero =>
    simp at hp
    subst hp
    obtain ⟨⟨h1,h2⟩,_⟩ := h
    obtain ⟨b,e1,⟨ver,e2⟩,e3⟩ := h2 rfl
    have h1 := h1 (.inr (.inr rfl))
    have:∃ g,Ψ i 0 g := by
     cases y with
     | tup us => exact h1.elim
     | val g cs => obtain ⟨_,_,ad,_,_,h5⟩ := h1; exact ⟨_,h5.1⟩
    obtain ⟨g,hg⟩ := this
    exact ⟨b,ver,v,by simp [e2],rfl,e1,(hΨ i 0 g hg).at (e3 g hg)⟩
theorem labOf_away (ms:List PM) (xs:List RV) (vs:List Value) (h:∀ p:Nat,ms[p]? = some .bx → ∃ b ver v,xs[p]? = some (.val false [.ptr b ver 0]) ∧ vs[p]? = some v ∧ v = .pointer (some (W.ad b)) ∧ Away s (.B b)) (j c:Nat):Away s (labOf ms xs j c) := by
 unfold labOf
 split
 ·split
  ·rename_i h1 h2
   obtain ⟨b,ver,v,e1,_,_,e4⟩ := h _ h1
   rw [h2] at e1
   injection e1 with e1
   injection e1 with _ e1
   injection e1 with e1 _
   injection e1 with e1
   subst e1
   exact e4
  ·exact .inl (.inl ⟨_,_,rfl⟩)
 ·exact .inl (.inl ⟨_,_,rfl⟩)
theorem backAll_of {ψ:Nat → Nat → Nat → Prop} (ms0:List PM) (xs0:List RV) (hW:∀ j g,ψ j 0 g → W'.ω g = some (labOf ms0 xs0 j 0)) (had:W'.ad = W.ad)
  (ms:List PM):∀ (i:Nat) (xs:List RV) (vs:List Value),(∀ p:Nat,ms[p]? = ms0[i + p]?) → (∀ p:Nat,xs[p]? = xs0[i + p]?) →
   (∀ p:Nat,ms[p]? = some .bx → ∃ b ver v,xs[p]? = some (.val false [.ptr b ver 0]) ∧ vs[p]? = some v ∧ v = .pointer (some (W.ad b)) ∧ Away s (.B b)) → BackAll W' ψ i ms xs vs := by
 induction ms with
 | nil => intro i xs vs _ _ _; unfold BackAll; trivial
 | cons m ms ih =>
  intro i xs vs hm hx h
  match xs,vs with
  | [],_ => unfold BackAll; trivial
  | _ :: _,[] => unfold BackAll; trivial
  | x :: xs,v :: vs =>
   refine ⟨fun e => ?_,ih (i + 1) xs vs (fun p => by have := hm (p + 1); rw [show i + 1 + p = i + (p + 1) by omega]; simpa using this) (fun p => by have := hx (p + 1); rw [show i + 1 + p = i + (p + 1) by omega]; simpa using this) (fun p hp => by simpa using h (p + 1) (by simpa using hp))⟩
   subst e
   obtain ⟨b,ver,v',e1,e2,e3,_⟩ := h 0 (by simp)
   simp at e1 e2
   subst e1 e2
   refine ⟨b,⟨ver,rfl⟩,by rw [had]; exact e3,fun g hg => ?_⟩
   rw [hW _ _ hg]
   have h1 := hm 0
   have h2 := hx 0
   simp at h1 h2
   unfold labOf
   simp only [← h1,← h2]
theorem rel_takeB (h:Rel G s a w W) {d ver:Nat} {fz0:Bool} {cs0 cs:List Cell} (hd:s (.B d) = .b ver fz0 cs0) {ad:Addr} (hsp:ad.spot = none) {x y:Nat} (hω:W.ω ad.block = some (.X x y)) (hblk:∃ cells el,w.heap[ad.block]? = some (.cells cells el (0,0)))
  {vs:List Value} (hv:All2 (CRep (ctx s w W)) cs vs) (hcell:∀ (j:Nat) (u:Value),vs[j]? = some u → w.cell? (ad.add j) = some u ∧ u.oneCell' = true) :
  ∃ W',Rel G (s.set (.B d) (.b (ver + 1) false cs)) a w W' ∧ Ext (ctx s w W) (ctx (s.set (.B d) (.b (ver + 1) false cs)) w W') ∧ CRep (ctx (s.set (.B d) (.b (ver + 1) false cs)) w W') (.ptr d (ver + 1) 0) (.pointer (some ad)) := by
 have hbv:bvOf s d = ver := by simp [bvOf,hd]
 let W':Wit := ⟨fun g => if g = ad.block then some (.B d) else if W.ω g = some (.B d) then none else W.ω g,fun b => if b = d then ad else W.ad b,W.sv⟩
 have hne:∀ g l,W.ω g = some l → (∀ x y,l ≠ .X x y) → g ≠ ad.block := by
  rintro g l e1 e2 rfl
  rw [hω] at e1
  injection e1 with e1
  exact e2 x y e1.symm
 have hnone:∀ g,W.ω g = none → g ≠ ad.block := by
  rintro g e rfl
  rw [hω] at e
  cases e
 have hX:Ext (ctx s w W) (ctx (s.set (.B d) (.b (ver + 1) false cs)) w W') := by
  refine ⟨?_,fun b => ?_,fun i c => ?_⟩
  ·rintro g ⟨g1,g2⟩
   refine ⟨⟨g1,?_⟩,rfl⟩
   show (if _ then _ else _) = _
   rw [if_neg (hnone g g2)]
   split
   ·rfl
   ·exact g2
  ·simp only [ctx,bvOf_setB]
   by_cases e:b = d
   ·subst e
    rw [if_pos rfl,hbv]
    exact ⟨by omega,fun e => by omega⟩
   ·rw [if_neg e]
    exact ⟨Nat.le_refl _,fun _ => by show (if _ then _ else _) = _; rw [if_neg e]⟩
  ·simp only [ctx,rvOf_setB]
   exact ⟨Nat.le_refl _,fun _ => rfl⟩
 refine ⟨W',?_,hX,?_⟩
 ·refine h.change (fun l => l = .B d ∨ ∃ x y,l = .X x y) (fun l hl => St.set_ne _ _ (fun e => hl (.inl e))) (fun _ => by simp) (by simp) (fun g l hg hl => ⟨?_,rfl⟩) (fun b hb => ?_) (fun _ _ _ => rfl) hX ?_ (fun _ _ e => by rcases e with e | ⟨_,_,e⟩ <;> cases e) (fun g hg => ?_) rfl rfl rfl (Nat.le_refl _) (fun g hg hn => ⟨?_,rfl⟩)
  ·show (if _ then _ else _) = _
   rw [if_neg (hne g l hg (fun x y e => hl (.inr ⟨x,y,e⟩))),if_neg (by rw [hg]; intro e; exact hl (.inl (Option.some.inj e)))]
   exact hg
  ·show (if _ then _ else _) = _
   rw [if_neg (by intro e; exact hb (.inl (by rw [e])))]
  ·intro b hb ver' fz' cs' hs' _
   rcases hb with hb | ⟨_,_,hb⟩
   ·injection hb with hb
    subst hb
    rw [St.set_same] at hs'
    injection hs' with _ e2 e3
    subst e2
    subst e3
    have had:W'.ad b = ad := by show (if _ then _ else _) = _; rw [if_pos rfl]
    rw [had]
    refine ⟨hsp,⟨?_,hblk⟩,fun j c hj => ?_⟩
    ·show (if _ then _ else _) = _
     rw [if_pos rfl]
    ·obtain ⟨v,hv1,hv2⟩ := All2.get hv hj
     exact ⟨v,(hcell j v hv1).1,(hcell j v hv1).2,CRep.ext hX _ _ hv2⟩
   ·cases hb
  ·by_cases e:g = ad.block
   ·subst e; exact h.lt _ (by rw [hω]; simp)
   ·refine h.lt g (fun e' => hg ?_)
    show (if _ then _ else _) = _
    rw [if_neg e]
    split
    ·rfl
    ·exact e'
  ·show (if _ then _ else _) = _
   rw [if_neg (hnone g hn)]
   split
   ·rfl
   ·exact hn
 ·refine ⟨by simp [ctx,bvOf_setB],rfl,fun _ => ?_⟩
  show _ = Value.pointer (some ((if _ then _ else _:Addr).add 0))
  rw [if_pos rfl]
  obtain ⟨g,o,sp⟩ := ad
  have hsp:sp = none := hsp
  subst hsp
  rfl
theorem layBox_run {S':Nat → Prop} {ψ:Nat → Nat → Prop} (hap:∀ c c' g,ψ c g → ψ c' g → c = c') {d:Nat} {cs:List Cell} {r:RV} {v:Value} (h:Rel G s a w W) (hr:(Prg.layBox d cs).run s = some (r,s')) (hv:BoxRes w S' ψ cs v) (hS:(∀ g,S' g → (ctx s w W).S g) ∨ cs.all Cell.free = true)
  (hl:∀ c g,ψ c g → ∃ x y,W.ω g = some (.X x y)):∃ W',Rel G s' a w W' ∧ Ext (ctx s w W) (ctx s' w W') ∧ VRep (ctx s' w W') r v := by
 obtain ⟨ad,rfl,⟨hsp,us,hus,hcell⟩,hown,hblk⟩ := hv
 obtain ⟨ys,s1,q1,q2⟩ := bind_run hr
 obtain ⟨ver,fz0,cs0,e1,e2⟩ := newB_run q2
 obtain ⟨rfl,rfl⟩ := pure_run e2
 obtain ⟨W1,h1,h2,h3,h4,h5⟩ := lay_run d cs 0 0 s s1 W ys us (fun c => ψ (c + 1)) h q1 (LAll.of (X := ctx s w W) hus hS) (fun c g hg _ => hl (c + 1) g hg) (fun c c' g e1 e2 => by have := hap _ _ _ e1 e2; omega)
 obtain ⟨x,y,hlab⟩ := hl 0 _ hown
 have hblab:W1.ω ad.block = some (.X x y) := h4.2 _ _ hlab (by simp) (by rintro ⟨c,_,_,hg⟩; have := hap _ _ _ hown hg; omega)
 obtain ⟨W2,k1,k2,k3⟩ := rel_takeB h1 e1 hsp hblab hblk h3 hcell
 exact ⟨W2,k1,h2.trans k2,VRep_one.2 k3⟩
theorem ok_callG {R:Type} {ms:List PM} {F:List RV → Option (Bool×R×List (List Cell))} {free:R → Bool} {layR:R → Prg RV} {rep:World → (Nat → Prop) → (Nat → Nat → Prop) → R → Value → Prop} {f:Nat}
  (hfnx:∃ fn,P.funcs[f]? = some fn ∧ fn.body.isSome = true ∧ (fn.name == "runtime.NumGoroutine") = false)
  (hcallx:∀ (w:World) (S:Nat → Prop) (ψ:Nat → Nat → Nat → Prop) (ys:List RV) (vs:List Value) (r:R) (outs:List (List Cell)),F ys = some (true,r,outs) → Hands w S ψ → GivenAll w S ψ 0 ms ys vs →
   Calls P f vs.toArray w fun
    | .returned v,w' => ∃ S' ψ',Trip w S ψ w' S' ψ' ∧ rep w' S' (ψ' 0) r v ∧ OutAll w' S' ψ' 0 ms vs outs
    | _,_ => False)
  (hlayx:∀ {s s':St} {w:World} {W:Wit} {S':Nat → Prop} {ψ:Nat → Nat → Prop} {x:R} {r:RV} {v:Value},(∀ c c' g,ψ c g → ψ c' g → c = c') → Rel G s a w W → (layR x).run s = some (r,s') → rep w S' ψ x v → ((∀ g,S' g → (ctx s w W).S g) ∨ free x = true) →
   (∀ c g,ψ c g → ∃ x y,W.ω g = some (.X x y)) → ∃ W',Rel G s' a w W' ∧ Ext (ctx s w W) (ctx s' w W') ∧ VRep (ctx s' w W') r v)
  {o:Oper} {g:Operand} {args:Array Operand} {ats:Array Nat} (ho:o.op = .call ⟨.value g,args,ats⟩) {s2:St} {X:List RV} {avs cvs:List Value} {r:RV} (h:Rel G s2 a w W) (hfv:a.eval g = .func (.func f) #[] cvs.toArray) (hargs:args.map a.eval = avs.toArray)
  (hall:All2 (VRep (ctx s2 w W)) X (avs ++ cvs)) (q4:(Prg.callG ms F free layR X).run s2 = some (r,s')) {K:Act → World → Prop} {Q:Exit → Act → World → Prop} (hK:∀ v w' W',Rel G s' a w' W' → VRep (ctx s' w' W') r v → K (a.put o.dst v) w'):o.wp P a w K Q := by
 obtain ⟨fn,hfn,hbody,hname⟩ := hfnx
 obtain ⟨y1,s3,p1,p2⟩ := bind_run q4
 obtain ⟨ys,s4,p3,p4⟩ := bind_run p2
 obtain ⟨W1,Ψ,h1,k1,k2,k3,k4,k5⟩ := gives1_run ms 0 s2 s3 W X y1 (avs ++ cvs) h p1 hall
 have hall1 := All2.imp (VRep.ext k5) _ _ hall
 have haway:∀ j c g,Ψ j c g → AwayB s3 W1 g := fun j c g hg => (k2 j c g hg).2.1
 split at p4
 ·cases p4
 ·rename_i pre x outs hFy
  obtain ⟨_,s5,p5,p6⟩ := bind_run p4
  obtain ⟨rfl,rfl⟩ := sure_run p5
  obtain ⟨_,s6,p7,p8⟩ := bind_run p6
  obtain ⟨hfree,rfl⟩ := chk_run p7
  obtain ⟨_,s7,p9,p10⟩ := bind_run p8
  -- what others may read
  let Sc:Nat → Prop := fun g => if ms.any PM.lends = true then g < w.heap.size ∧ ¬ AwayB s3 W1 g else (ctx s3 w W1).S g
  have hnone:∀ g,(ctx s3 w W1).S g → ¬ AwayB s3 W1 g := by
   rintro g ⟨_,hg⟩ ⟨l,e,_⟩
   rw [hg] at e
   cases e
  have hS:∀ g,(ctx s3 w W1).S g → Sc g := by
   intro g hg
   show if _ then _ else _
   split
   ·exact ⟨hg.1,hnone g hg⟩
   ·exact hg
  have hSc:∀ g,Sc g → g < w.heap.size ∧ ¬ AwayB s3 W1 g := by
   intro g hg
   have hg:if _ then _ else _ := hg
   split at hg
   ·exact hg
   ·exact ⟨hg.1,hnone g hg⟩
  obtain ⟨hs34,hgiven⟩ := gives2_run h1 hS ms 0 X y1 ys (avs ++ cvs) _ (fun e g g1 g2 => by show if _ then _ else _; rw [if_pos e]; exact ⟨g1,g2⟩) p3 hall1 k1
  subst hs34
  have hands:Hands w Sc Ψ := ⟨fun g hg => (hSc g hg).1,fun i c g hg => ⟨by obtain ⟨l,e,_⟩ := haway i c g hg; exact h1.lt g (by rw [e]; simp),fun hn => (hSc g hn).2 (haway i c g hg)⟩,k3⟩
  have hcalls := hcallx w Sc Ψ ys (avs ++ cvs) x outs hFy hands hgiven
  -- the operation
  unfold Oper.wp
  have hrun:(execOp a.eval o).run P w = .ok (.enter f (avs ++ cvs).toArray) w := by
   have:(execOp a.eval o).run P w = (callFunc f (args.map a.eval ++ cvs.toArray)).run P w := by
    simp only [execOp,ho,resolve,hfv,Deferred.ofValue,invoke,Sem.run_bind,Sem.run_pure,Result.andThen_ok]
    simp
   rw [this,hargs,run_callFunc hfn hbody hname]
   simp
  rw [hrun,Oper.upon_enter]
  refine Calls.mono hcalls ?_
  rintro e w' hR
  match e,hR with
  | .returned v,hR =>
  obtain ⟨S',ψ',T,hres,hout⟩ := hR
  have hbx := gave_away haway ms 0 X y1 (avs ++ cvs) k1
  obtain ⟨W2,h2,X2,had2,hlab,hSS⟩ := rel_called h1 (labOf ms X) haway T (fun j c g _ => labOf_away ms X (avs ++ cvs) hbx j c)
  have hSS':(∀ g,S' g → (g < w'.heap.size ∧ W2.ω g = none)) ∨ (free x = true ∧ outs.all (·.all Cell.free) = true) := by
   rcases hfree with hfree | hfree
   ·simp only [Bool.and_eq_true] at hfree; exact .inr hfree
   ·refine .inl (fun g hg => hSS g hg (fun hsc => ?_))
    have hsc:if _ then _ else _ := hsc
    rw [if_neg (by rw [hfree]; simp)] at hsc
    exact hsc.2
  have hXlab:∀ j c g,ψ' j (c + 1) g → W2.ω g = some (.X j (c + 1)) := fun j c g hg => by
   rw [hlab j (c + 1) g hg]
   unfold labOf
   split
   ·rename_i e1; cases e1
   ·rfl
  have hXlab0:∀ c g,ψ' 0 c g → W2.ω g = some (.X 0 c) := fun c g hg => by
   rw [hlab 0 c g hg]
   unfold labOf
   split
   ·rename_i e1; cases e1
   ·rfl
  have hall2 := All2.imp (VRep.ext X2) _ _ hall1
  obtain ⟨W3,h3,X3,K3⟩ := giveBack_run T.hands.apart ms 0 _ s7 W2 X (avs ++ cvs) outs _ h2 p9 hall2 hout
   (backAll_of ms X (fun j g hg => hlab j 0 g hg) had2 ms 0 X (avs ++ cvs) (fun p => by simp) (fun p => by simp) hbx)
   (hSS'.imp id And.right) (fun j c g _ hg => ⟨_,_,hXlab _ _ g hg⟩)
  obtain ⟨W4,h4,X4,hv⟩ := hlayx (ψ := ψ' 0) (fun c c' g e1 e2 => (T.hands.apart 0 c 0 c' g e1 e2).2) h3 p10 hres
   (by
    rcases hSS' with e1 | e1
    ·exact .inl (fun g hg => (X3.S g (e1 g hg)).1)
    ·exact .inr e1.1)
   (fun c g hg => by
    have hg:ψ' 0 c g := hg
    refine ⟨0,c,K3.2 g _ (hXlab0 c g hg) (by simp) ?_⟩
    rintro ⟨j,c',hc'⟩
    have := (T.hands.apart _ _ _ _ _ hg hc').1
    omega)
  exact hK v w' W4 h4 hv
theorem ok_call (hE:∀ f ms F,E.fn f = some (ms,F) → Sound P f ms F) (hB:∀ f ms F,E.bxf f = some (ms,F) → SoundB P f ms F) {o:Oper} {g:Operand} {args:Array Operand} {ats:Array Nat} (ho:o.op = .call ⟨.value g,args,ats⟩):OpOk P E G o := by
 intro s s' r a w W hr h K Q hK
 simp only [Prg.opP,ho] at hr
 obtain ⟨fc,s1,q1,q2⟩ := bind_run hr
 obtain ⟨rfl,hfc⟩ := evC_run h q1
 obtain ⟨xs,s2,q3,q4⟩ := bind_run q2
 obtain ⟨rfl,hxs⟩ := evs_run h _ _ _ _ q3
 split at q4
 ·rename_i f caps
  obtain ⟨cvs,hfv,hcap⟩ := hfc
  have hargs:args.map a.eval = (args.toList.map a.eval).toArray := by rw [← Array.toList_map]
  generalize args.toList.map a.eval = avs at hxs hargs
  -- all arguments
  have hall:All2 (VRep (ctx s2 w W)) (xs ++ caps.map one) (avs ++ cvs) := by
   refine hxs.append ?_
   clear q4 hr q2 hfv q1
   induction caps generalizing cvs with
   | nil => cases cvs with
    | nil => trivial
    | cons _ _ => exact hcap.elim
   | cons c caps ih =>
    cases cvs with
    | nil => exact hcap.elim
    | cons v cvs => exact ⟨VRep_one.2 (by have := hcap.1; cases c <;> first | exact this | exact this.elim),ih cvs hcap.2⟩
  generalize hX:xs ++ caps.map one = X at hall q4
  unfold Prg.callP at q4
  split at q4
  ·rename_i ms F hF
   have hs := hE f ms F hF
   exact ok_callG hs.fn hs.calls (fun hap h hr hv hS hl => layRV_run hap h hr hv hS (fun c g hg => hl (c + 1) g hg)) ho h hfv hargs hall q4 (fun v w' W' h' hv => hK v w' W' h' hv)
  ·split at q4
   ·rename_i ms F hF
    have hs := hB f ms F hF
    exact ok_callG (rep := BoxRes) hs.fn hs.calls (fun hap h hr hv hS hl => layBox_run hap h hr hv hS hl) ho h hfv hargs hall q4 (fun v w' W' h' hv => hK v w' W' h' hv)
   ·cases q4
 ·cases q4
end
section
variable {G:Beg} {s s' s1:St} {a:Act} {w w':World} {W W' W1:Wit} {P:Program} {E:Env}
structure Good (P:Program) (E:Env):Prop where
 tt:E.tt = mkTI P
 fn:∀ f ms F,E.fn f = some (ms,F) → Sound P f ms F
 bx:∀ f ms F,E.bxf f = some (ms,F) → SoundB P f ms F
theorem ok_op (hE:Good P E) (o:Oper):OpOk P E G o := by
 cases ho:o.op with
 | move x => exact ok_move (.inl ho)
 | assign x => exact ok_move (.inr ho)
 | pick c x y => exact ok_pick ho
 | alloc t => exact ok_alloc hE.tt ho
 | box t x => exact ok_box hE.tt ho
 | build t ps => exact ok_build hE.tt ho
 | buildSlice t l ps => exact ok_buildSlice hE.tt ho
 | load t x => exact ok_load hE.tt ho
 | store t x y => exact ok_store hE.tt ho
 | nilCheck x => exact ok_nilCheck ho
 | binOp op t x y yt => exact ok_binOp hE.tt ho
 | unOp op t x => exact ok_unOp ho
 | convert t u x => exact ok_convert hE.tt ho
 | makeFunc f first caps =>
  cases f with
  | func f => exact ok_makeFunc ho
  | _ => intro s s' r a w W hr; simp only [Prg.opP,ho] at hr; cases hr
 | makeSlice t x y => exact ok_makeSlice hE.tt ho
 | slice t x lo hi mx =>
  cases mx with
  | none => exact ok_slice hE.tt ho
  | some _ => exact ok_slice3 hE.tt ho
 | fieldAddr t x f => exact ok_fieldAddr hE.tt ho
 | indexAddr t x y => exact ok_indexAddr hE.tt ho
 | index t x y => exact ok_index hE.tt ho
 | extract x i => exact ok_extract ho
 | field t x f => exact ok_field hE.tt ho
 | call c =>
  obtain ⟨cl,args,ats⟩ := c
  cases cl with
  | builtin b =>
   by_cases hb:b = .append
   ·subst hb; exact ok_append hE.tt ho
   ·exact ok_builtin hE.tt ho hb
  | value g => exact ok_call hE.fn hE.bx ho
  | invoke _ _ => intro s s' r a w W hr; simp only [Prg.opP,ho] at hr; cases hr
 | _ => intro s s' r a w W hr; simp only [Prg.opP,ho] at hr; cases hr
theorem put_run {d:Option Nat} {r:RV} {u:Unit} {v:Value} (h:Rel G s a w W) (hd:∀ x,d = some x → G.may x) (hr:(Prg.put d r).run s = some (u,s')) (hv:VRep (ctx s w W) r v):Rel G s' (a.put d v) w W := by
 cases d with
 | none => obtain ⟨_,rfl⟩ := pure_run hr; exact h
 | some d =>
  simp only [Prg.put,Prg.run,Option.some.injEq,Prod.mk.injEq] at hr
  obtain ⟨_,rfl⟩ := hr
  exact h.put (hd d rfl) hv
theorem litX_run {x:Operand} {k:Option Bool} (hr:(Prg.litX x).run s = some (k,s')):s' = s := by
 unfold Prg.litX at hr
 split at hr
 ·exact (pure_run hr).2
 ·simp only [Prg.run] at hr
  split at hr
  ·exact (pure_run hr).2
  ·exact (pure_run hr).2
 ·exact (pure_run hr).2
theorem litP_run {x:Op} {k:Option Bool} (hr:(Prg.litP x).run s = some (k,s')):s' = s := by
 unfold Prg.litP at hr
 split at hr
 ·exact litX_run hr
 ·exact litX_run hr
 ·simp only [Prg.run] at hr
  split at hr
  ·exact litX_run hr
  ·exact litX_run hr
  ·exact (pure_run hr).2
 ·exact (pure_run hr).2
theorem litX_val (h:Rel G s a w W) {x:Operand} {b:Bool} (hr:(Prg.litX x).run s = some (some b,s')):a.eval x = .bool b := by
 unfold Prg.litX at hr
 split at hr
 ·obtain ⟨e,_⟩ := pure_run hr
  cases e
  rfl
 ·rename_i t
  simp only [Prg.run] at hr
  split at hr
  ·rename_i b' hb
   obtain ⟨e,_⟩ := pure_run hr
   cases e
   exact h.K t (some b) hb
  ·obtain ⟨e,_⟩ := pure_run hr
   cases e
 ·obtain ⟨e,_⟩ := pure_run hr
  cases e
theorem litP_val (h:Rel G s a w W) {o:Oper} {b:Bool} (hr:(Prg.litP o.op).run s = some (some b,s')):(execOp a.eval o).run P w = .ok (.value (.bool b)) w := by
 unfold Prg.litP at hr
 split at hr
 ·rename_i x ho
  have := litX_val h hr
  simp [execOp,ho,this]
 ·rename_i x ho
  have := litX_val h hr
  simp [execOp,ho,this]
 ·rename_i c x y ho
  simp only [Prg.run] at hr
  split at hr
  ·rename_i hc
   have e1:a.eval (.tmp c) = .bool true := h.K c (some true) hc
   have e2 := litX_val h hr
   simp only [execOp,ho,e1,e2,asBool,Sem.run_bind,Sem.run_pure,Result.andThen_ok]
   rfl
  ·rename_i hc
   have e1:a.eval (.tmp c) = .bool false := h.K c (some false) hc
   have e2 := litX_val h hr
   simp only [execOp,ho,e1,e2,asBool,Sem.run_bind,Sem.run_pure,Result.andThen_ok]
   rfl
  ·obtain ⟨e,_⟩ := pure_run hr
   cases e
 ·obtain ⟨e,_⟩ := pure_run hr
  cases e
theorem ok_opK (hE:Good P E) {o:Oper} {r:RV} (hr:(Prg.opK E o).run s = some (r,s')) (h:Rel G s a w W) {K:Act → World → Prop} {Q:Exit → Act → World → Prop} (hK:∀ v w' W',Rel G s' a w' W' → VRep (ctx s' w' W') r v → K (a.put o.dst v) w'):o.wp P a w K Q := by
 unfold Prg.opK at hr
 split at hr
 ·rename_i c x y ho
  simp only [Prg.run] at hr
  split at hr
  ·rename_i hc
   have e1:a.eval (.tmp c) = .bool true := h.K c (some true) hc
   obtain ⟨rfl,hv⟩ := ev_run h hr
   refine wp_value (v := a.eval x) (w' := w) ?_ (hK _ _ _ h hv)
   simp only [execOp,ho,e1,asBool,Sem.run_bind,Sem.run_pure,Result.andThen_ok]
   rfl
  ·rename_i hc
   have e1:a.eval (.tmp c) = .bool false := h.K c (some false) hc
   obtain ⟨rfl,hv⟩ := ev_run h hr
   refine wp_value (v := a.eval y) (w' := w) ?_ (hK _ _ _ h hv)
   simp only [execOp,ho,e1,asBool,Sem.run_bind,Sem.run_pure,Result.andThen_ok]
   rfl
  ·exact ok_op hE o _ _ r a w W hr h K Q hK
 ·exact ok_op hE o _ _ r a w W hr h K Q hK
theorem putB_run {d:Option Nat} {k:Option Bool} {u:Unit} (h:Rel G s a w W) (hd:∀ x,d = some x → G.may x) (hr:(Prg.putB d k).run s = some (u,s')):Rel G s' (a.put d (kval k)) w W := by
 unfold Prg.putB at hr
 split at hr
 ·obtain ⟨_,rfl⟩ := pure_run hr; exact h
 ·rename_i d
  simp only [Prg.run,Option.some.injEq,Prod.mk.injEq] at hr
  obtain ⟨_,rfl⟩ := hr
  have hv:VRep (ctx s w W) (one (Prg.cellB k)) (kval k) := by
   cases k with
   | none => exact VRep_one.2 trivial
   | some b => exact VRep_one.2 rfl
  have h1 := h.put (hd d rfl) hv
  have h2 := h1.setK (d := d) (r := some k) (fun b hb => by
   cases hb
   simp [Act.put,h.size,(hd d rfl).1])
  have e:((s.set (.T d) (.t (one (Prg.cellB k)))).set (.K d) (.k none)).set (.K d) (.k (some k)) = (s.set (.T d) (.t (one (Prg.cellB k)))).set (.K d) (.k (some k)) := by
   funext l
   simp only [St.set]
   split <;> rfl
  rwa [e] at h2
theorem putK_run {ops:Array Oper} {d:Option Nat} {r:RV} {u:Unit} {v:Value} (h:Rel G s a w W) (hd:∀ x,d = some x → G.may x) (hr:(Prg.putK ops d r).run s = some (u,s')) (hv:VRep (ctx s w W) r v):Rel G s' (a.put d v) w W := by
 obtain ⟨_,s1,q1,q2⟩ := bind_run hr
 have h1 := put_run h hd q1 hv
 split at q2
 ·rename_i d
  split at q2
  ·obtain ⟨rv,e1,e2⟩ := getT_run q2
   split at e2
   ·rename_i b
    have hb:(a.put (some d) v).tmps.getD d undef = .bool b := VRep_one.1 (h1.T d _ e1)
    cases b with
    | true =>
     simp only [Prg.run,cond_true,Option.some.injEq,Prod.mk.injEq] at e2
     obtain ⟨_,rfl⟩ := e2
     rw [Rel.known h1 (b := true) e1]
     exact h1.setK (fun b hb' => by cases hb'; exact hb)
    | false =>
     simp only [Prg.run,cond_false,Option.some.injEq,Prod.mk.injEq] at e2
     obtain ⟨_,rfl⟩ := e2
     rw [Rel.known h1 (b := false) e1]
     exact h1.setK (fun b hb' => by cases hb'; exact hb)
   ·obtain ⟨_,rfl⟩ := pure_run e2; exact h1
  ·obtain ⟨_,rfl⟩ := pure_run q2; exact h1
 ·obtain ⟨_,rfl⟩ := pure_run q2; exact h1
theorem stepOp_ok (hE:Good P E) {ops:Array Oper} {o:Oper} (hd:∀ x,o.dst = some x → G.may x) {u:Unit} (hr:(Prg.stepO E ops o).run s = some (u,s')) (h:Rel G s a w W)
  {K:Act → World → Prop} {Q:Exit → Act → World → Prop} (hK:∀ a' w' W',Rel G s' a' w' W' → K a' w'):o.wp P a w K Q := by
 obtain ⟨k,s0,q0,q⟩ := bind_run hr
 obtain rfl := litP_run q0
 split at q
 ·rename_i b
  exact wp_value (v := .bool b) (w' := w) (litP_val h q0) (hK _ _ _ (putB_run h hd q))
 ·obtain ⟨r,s1,q1,q2⟩ := bind_run q
  exact ok_opK hE q1 h (fun v w' W' h' hv => hK _ _ W' (putK_run h' hd q2 hv))
theorem step_ok (hE:Good P E) {ops:Array Oper} {o:Oper} (hd:∀ x,o.dst = some x → G.may x) {u:Unit} (hr:(Prg.stepP E ops o).run s = some (u,s')) (h:Rel G s a w W)
  {K:Act → World → Prop} {Q:Exit → Act → World → Prop} (hK:∀ a' w' W',Rel G s' a' w' W' → K a' w'):if Region.wanted o (yielded ops a.tmps) then o.wp P a w K Q ∨ (o.asks P a w ∧ LetsOut Q) else K (a.put o.dst undef) w := by
 unfold Prg.stepP at hr
 split at hr
 ·rename_i hg
  rw [show Region.wanted o (yielded ops a.tmps) = true by simp [Region.wanted,hg]]
  exact .inl (stepOp_ok hE hd hr h hK)
 ·rename_i j want hg
  split at hr
  ·cases hr
  ·rename_i g hj
   simp only [Prg.run] at hr
   split at hr
   ·rename_i b hgv
    have hv:a.tmps.getD g undef = .bool b := h.K g (some b) hgv
    have hy:yielded ops a.tmps j = some b := by
     unfold yielded
     rw [hj]
     have:a.tmps[g]? = some (.bool b) := by
      rw [Array.getD_eq_getD_getElem?] at hv
      cases h9:a.tmps[g]? with
      | none => rw [h9] at hv; simp [undef] at hv
      | some x => rw [h9] at hv; simp at hv; rw [hv]
     simp [this]
    have hw:Region.wanted o (yielded ops a.tmps) = (b == want) := by simp [Region.wanted,hg,hy]
    rw [hw]
    split at hr
    ·rename_i e
     rw [if_pos e]
     exact .inl (stepOp_ok hE hd hr h hK)
    ·rename_i e
     rw [if_neg e]
     exact hK _ _ W (putB_run h hd hr)
   ·rename_i hgv
    have hv:a.tmps.getD g undef = undef := h.K g none hgv
    have hy:yielded ops a.tmps j = none := by
     unfold yielded
     rw [hj]
     rw [Array.getD_eq_getD_getElem?] at hv
     cases h9:a.tmps[g]? with
     | none => simp [h9]
     | some x =>
      rw [h9] at hv
      have hv:x = undef := hv
      subst hv
      simp [h9,undef]
    have hw:Region.wanted o (yielded ops a.tmps) = false := by simp [Region.wanted,hg,hy]
    rw [hw,if_neg (by simp)]
    exact hK _ _ W (putB_run h hd hr)
   ·cases hr
end
section
variable {G:Beg} {s s' s1:St} {a:Act} {w w':World} {W W' W1:Wit} {P:Program} {E:Env} {LT:Nat → Code → List (Pl×LV) → Ex → List (Pl×LV) → Prop}
theorem tr_run {α β:Type} {p:Prg α} {k:α → St → Tr β} {r:β}:∀ {s:St},(p.tr s k).To E LT r → ∃ x s',p.run s = some (x,s') ∧ (k x s').To E LT r := by
 induction p with
 | pure x => intro s h; exact ⟨x,s,rfl,h⟩
 | get l f ih => intro s h; exact ih _ h
 | set l v p ih => intro s h; exact ih h
 | br b x y hx hy =>
  intro s h
  rcases h with ⟨hb,h⟩ | ⟨hb,h⟩
  ·obtain ⟨z,s',h1,h2⟩ := hx h
   exact ⟨z,s',by simp only [Prg.run,hb,cond_true]; exact h1,h2⟩
  ·obtain ⟨z,s',h1,h2⟩ := hy h
   exact ⟨z,s',by simp only [Prg.run,hb,cond_false]; exact h1,h2⟩
 | fail => intro s h; exact h.elim
theorem only_run {α:Type} {R Wr:List Pl} {p:Prg α} {x:α}:∀ {s s':St},(p.only R Wr).run s = some (x,s') → p.run s = some (x,s') := by
 induction p with
 | pure y => intro s s' h; exact h
 | get l f ih =>
  intro s s' h
  simp only [Prg.only] at h
  split at h
  ·exact ih _ h
  ·cases h
 | set l v p ih =>
  intro s s' h
  simp only [Prg.only] at h
  split at h
  ·exact ih h
  ·cases h
 | br b y z hy hz =>
  intro s s' h
  simp only [Prg.only,Prg.run] at h ⊢
  cases b
  ·exact hz h
  ·exact hy h
 | fail => intro s s' h; cases h
theorem only_frame {α:Type} {R Wr:List Pl} (hsub:∀ l,l ∈ Wr → l ∈ R) {p:Prg α} {x:α}:∀ {s s1 t:St},(p.only R Wr).run s = some (x,s1) → (∀ l,l ∈ R → t l = s l) →
  (∀ l,l ∉ Wr → s1 l = s l) ∧ (p.only R Wr).run t = some (x,fun l => if l ∈ R then s1 l else t l) := by
 induction p with
 | pure y =>
  intro s s1 t h ht
  obtain ⟨rfl,rfl⟩ := pure_run h
  refine ⟨fun _ _ => rfl,?_⟩
  simp only [Prg.only,Prg.run,Option.some.injEq,Prod.mk.injEq,true_and]
  funext l
  split
  ·rename_i hl; exact ht l hl
  ·rfl
 | get l f ih =>
  intro s s1 t h ht
  simp only [Prg.only] at h ⊢
  split at h
  ·rename_i hl
   rw [if_pos hl]
   simp only [Prg.run] at h ⊢
   rw [ht l hl]
   exact ih _ h ht
  ·cases h
 | set l v p ih =>
  intro s s1 t h ht
  simp only [Prg.only] at h ⊢
  split at h
  ·rename_i hl
   rw [if_pos hl]
   simp only [Prg.run] at h ⊢
   obtain ⟨h1,h2⟩ := ih (t := t.set l v) h (fun m hm => by simp only [St.set]; split; rfl; exact ht m hm)
   refine ⟨fun m hm => ?_,?_⟩
   ·rw [h1 m hm]
    exact St.set_ne _ _ (by rintro rfl; exact hm hl)
   ·rw [h2]
    congr 2
    funext m
    split
    ·rfl
    ·rename_i hm
     exact St.set_ne _ _ (by rintro rfl; exact hm (hsub _ hl))
  ·cases h
 | br b y z hy hz =>
  intro s s1 t h ht
  simp only [Prg.only,Prg.run] at h ⊢
  cases b
  ·exact hz h ht
  ·exact hy h ht
 | fail => intro s s1 t h ht; cases h
theorem apartL_spec {x y:List Pl} (h:apartL x y = true):∀ l,l ∈ x → l ∉ y := by
 intro l hl hy
 simp only [apartL,List.all_eq_true] at h
 have := h l hl
 simp [hy] at this
theorem only_swap {α β:Type} {f g:List Pl×List Pl} (h1:apartL f.1 (g.1 ++ g.2) = true) (h2:apartL g.1 (f.1 ++ f.2) = true) {p:Prg α} {q:Prg β} {x:α} {y:β} {s s1 s2:St}
  (hp:(p.only (f.1 ++ f.2) f.1).run s = some (x,s1)) (hq:(q.only (g.1 ++ g.2) g.1).run s1 = some (y,s2)) :
  ∃ t,(q.only (g.1 ++ g.2) g.1).run s = some (y,t) ∧ (p.only (f.1 ++ f.2) f.1).run t = some (x,s2) := by
 have a1 := apartL_spec h1
 have a2 := apartL_spec h2
 have subf:∀ l,l ∈ f.1 → l ∈ f.1 ++ f.2 := fun l hl => List.mem_append_left _ hl
 have subg:∀ l,l ∈ g.1 → l ∈ g.1 ++ g.2 := fun l hl => List.mem_append_left _ hl
 obtain ⟨p1,_⟩ := only_frame subf (t := s) hp (fun _ _ => rfl)
 obtain ⟨q1,q2⟩ := only_frame subg (t := s) hq (fun l hl => (p1 l (fun h => a1 l h hl)).symm)
 obtain ⟨_,p2⟩ := only_frame subf (t := fun l => if l ∈ g.1 ++ g.2 then s2 l else s l) hp (fun l hl => by
  show (if l ∈ g.1 ++ g.2 then s2 l else s l) = s l
  split
  ·rename_i hg
   rw [q1 l (fun h => a2 l h hl)]
   exact p1 l (fun h => a1 l h hg)
  ·rfl)
 refine ⟨_,q2,?_⟩
 rw [p2]
 congr 2
 funext l
 by_cases hf:l ∈ f.1 ++ f.2
 ·rw [if_pos hf]
  exact (q1 l (fun h => a2 l h hf)).symm
 ·rw [if_neg hf]
  split
  ·rfl
  ·rename_i hg
   rw [q1 l (fun h => hg (subg l h)),p1 l (fun h => hf (subf l h))]
def stepI (E:Env) (ops:Array Oper) (fps:List (List Pl×List Pl)) (i:Nat):Prg Unit := match ops[i]?,fps[i]? with
 | some o,some f => (Prg.stepP E ops o).only (f.1 ++ f.2) f.1
 | _,_ => .fail
def runsI (E:Env) (ops:Array Oper) (fps:List (List Pl×List Pl)):List Nat → St → Option St
 | [],s => some s
 | i :: r,s => ((stepI E ops fps i).run s).bind fun x => runsI E ops fps r x.2
def Swaps (fps:List (List Pl×List Pl)) (i j:Nat):Prop := ∃ f g,fps[i]? = some f ∧ fps[j]? = some g ∧ apartL f.1 (g.1 ++ g.2) = true ∧ apartL g.1 (f.1 ++ f.2) = true
theorem runs_front {ops:Array Oper} {fps:List (List Pl×List Pl)} {i:Nat} {post:List Nat} (pre:List Nat):∀ {s s':St},(∀ j,j ∈ pre → Swaps fps j i) → runsI E ops fps (pre ++ i :: post) s = some s' → runsI E ops fps (i :: (pre ++ post)) s = some s' := by
 induction pre with
 | nil => intro s s' _ h; exact h
 | cons j pre ih =>
  intro s s' hs h
  obtain ⟨⟨_,s1⟩,h1,h2⟩ := Option.bind_eq_some_iff.1 h
  have h3 := ih (fun j hj => hs j (List.mem_cons_of_mem _ hj)) h2
  obtain ⟨⟨_,s2⟩,h4,h5⟩ := Option.bind_eq_some_iff.1 h3
  obtain ⟨f,g,e1,e2,e3,e4⟩ := hs j (List.mem_cons_self ..)
  unfold stepI at h1 h4
  rw [e1] at h1
  rw [e2] at h4
  cases ho:ops[j]? with
  | none => rw [ho] at h1; cases h1
  | some o =>
   cases ho':ops[i]? with
   | none => rw [ho'] at h4; cases h4
   | some o' =>
    rw [ho] at h1
    rw [ho'] at h4
    obtain ⟨t,k1,k2⟩ := only_swap e3 e4 h1 h4
    show ((stepI E ops fps i).run s).bind _ = _
    have hi:(stepI E ops fps i).run s = some ((),t) := by unfold stepI; rw [ho',e2]; exact k1
    rw [hi]
    show ((stepI E ops fps j).run t).bind _ = _
    have hj:(stepI E ops fps j).run t = some ((),s2) := by unfold stepI; rw [ho,e1]; exact k2
    rw [hj]
    exact h5
end
section
variable {G:Beg} {s s' s1:St} {a:Act} {w w':World} {W W' W1:Wit} {P:Program} {E:Env} {LT:Nat → Code → List (Pl×LV) → Ex → List (Pl×LV) → Prop}
inductive Anc (ops:List Oper):Nat → Nat → Prop where
 | base {i j:Nat} {o:Oper}:ops[i]? = some o → j ∈ edgesOf o → Anc ops i j
 | step {i m j:Nat} {o:Oper}:ops[i]? = some o → m ∈ edgesOf o → Anc ops m j → Anc ops i j
theorem maskOf_spec (acc:List Nat) (j:Nat):∀ (es:List Nat),(maskOf acc es).testBit j = true → j ∈ es ∨ ∃ m,m ∈ es ∧ (acc.getD m 0).testBit j = true
 | [],h => by simp [maskOf] at h
 | e :: r,h => by
  simp only [maskOf,Nat.testBit_or,Bool.or_eq_true] at h
  rcases h with (h | h) | h
  ·rw [Nat.one_shiftLeft,Nat.testBit_two_pow] at h
   simp only [decide_eq_true_eq] at h
   exact .inl (by simp [h])
  ·exact .inr ⟨e,List.mem_cons_self ..,h⟩
  ·rcases maskOf_spec acc j r h with h | ⟨m,h1,h2⟩
   ·exact .inl (List.mem_cons_of_mem _ h)
   ·exact .inr ⟨m,List.mem_cons_of_mem _ h1,h2⟩
theorem masks_spec (all:List Oper):∀ (ops:List Oper) (acc:List Nat),(∀ k,ops[k]? = all[acc.length + k]?) → (∀ i j,(acc.getD i 0).testBit j = true → Anc all i j) → ∀ i j,((masks ops acc).getD i 0).testBit j = true → Anc all i j
 | [],acc,_,h => h
 | o :: r,acc,ho,h => by
  refine masks_spec all r (acc ++ [maskOf acc (edgesOf o)]) (fun k => ?_) ?_
  ·have := ho (k + 1)
   rw [List.length_append,List.length_singleton,Nat.add_assoc,Nat.add_comm 1 k]
   simpa using this
  ·intro i j hj
   by_cases hi:i < acc.length
   ·rw [List.getD_eq_getElem?_getD,List.getElem?_append_left hi,← List.getD_eq_getElem?_getD] at hj
    exact h i j hj
   ·rw [List.getD_eq_getElem?_getD,List.getElem?_append_right (by omega),← List.getD_eq_getElem?_getD] at hj
    by_cases e:i = acc.length
    ·subst e
     simp only [Nat.sub_self] at hj
     have ho0 := ho 0
     simp at ho0
     rcases maskOf_spec acc j _ (by simpa using hj) with h1 | ⟨m,h1,h2⟩
     ·exact .base ho0.symm h1
     ·exact .step ho0.symm h1 (h m j h2)
    ·rw [List.getD_eq_getElem?_getD,List.getElem?_eq_none (by simp; omega)] at hj
     simp at hj
structure Drawn (ops:List Oper) (fps:List (List Pl×List Pl)):Prop where
 len:fps.length = ops.length
 back:∀ (i:Nat) (o:Oper),ops[i]? = some o → ∀ e,e ∈ edgesOf o → e < i
 pair:∀ i j,j < i → i < ops.length → Anc ops i j ∨ Swaps fps j i
theorem drawOk_spec {ops:List Oper} {fps:List (List Pl×List Pl)} (h:drawOk ops fps = true):Drawn ops fps := by
 simp only [drawOk,Bool.and_eq_true,decide_eq_true_eq,List.all_eq_true,List.mem_range] at h
 obtain ⟨hlen,h⟩ := h
 refine ⟨hlen,fun i o ho e he => ?_,fun i j hji hi => ?_⟩
 ·have hi:i < ops.length := (List.getElem?_eq_some_iff.1 ho).1
  have := h i hi
  rw [ho] at this
  cases hf:fps[i]? with
  | none => rw [hf] at this; simp at this
  | some f =>
   rw [hf] at this
   simp only [Bool.and_eq_true,List.all_eq_true,decide_eq_true_eq] at this
   exact this.1 e he
 ·have := h i hi
  cases ho:ops[i]? with
  | none => rw [ho] at this; simp at this
  | some o =>
   cases hf:fps[i]? with
   | none => rw [ho,hf] at this; simp at this
   | some f =>
    rw [ho,hf] at this
    simp only [Bool.and_eq_true,List.all_eq_true,List.mem_range,Bool.or_eq_true] at this
    rcases this.2 j hji with h1 | h1
    ·exact .inl (masks_spec ops ops [] (fun k => by simp) (fun i j hj => by simp at hj) i j h1)
    ·cases hg:fps[j]? with
     | none => rw [hg] at h1; simp at h1
     | some g =>
      rw [hg] at h1
      simp only [Bool.and_eq_true] at h1
      exact .inr ⟨g,f,hg,hf,h1.1,h1.2⟩
def rest (n:Nat) (listed:Array Bool):List Nat := (List.range n).filter fun i => !listed.getD i true
theorem ready_spec {ops:Array Oper} {listed:Array Bool} {i:Nat} (h:i ∈ Region.ready .any ops listed):i < ops.size ∧ listed.getD i true = false ∧ ∃ o,ops.toList[i]? = some o ∧ ∀ e,e ∈ edgesOf o → listed.getD e false = true := by
 unfold Region.ready at h
 simp only [List.mem_filter,List.mem_range,Bool.and_eq_true,Bool.not_eq_true'] at h
 obtain ⟨h1,h2,h3⟩ := h
 refine ⟨h1,h2,?_⟩
 cases ho:ops[i]? with
 | none => rw [ho] at h3; simp at h3
 | some o =>
  rw [ho] at h3
  simp only [Option.map_some,Option.getD_some] at h3
  refine ⟨o,by simpa using ho,fun e he => ?_⟩
  simp only [edgesOf,List.mem_map,List.mem_filter,Array.mem_toList_iff] at he
  obtain ⟨ed,⟨e1,e2⟩,rfl⟩ := he
  rw [Array.all_eq_true'] at h3
  have := h3 ed e1
  simpa [e2] using this
theorem not_ready {ops:Array Oper} {fps:List (List Pl×List Pl)} (D:Drawn ops.toList fps) {listed:Array Bool} (hs:listed.size = ops.size) (h:Region.ready .any ops listed = []):rest ops.size listed = [] := by
 have key:∀ i,i < ops.size → listed.getD i true = true := by
  intro i
  induction i using Nat.strongRecOn with
  | _ i ih =>
   intro hi
   cases hl:listed.getD i true with
   | true => rfl
   | false =>
    exfalso
    have:i ∈ Region.ready .any ops listed := by
     unfold Region.ready
     simp only [List.mem_filter,List.mem_range,Bool.and_eq_true,Bool.not_eq_true']
     refine ⟨hi,hl,?_⟩
     rw [Array.getElem?_eq_getElem hi]
     simp only [Option.map_some,Option.getD_some]
     rw [Array.all_eq_true']
     intro e he
     cases hb:Region.binds .any e with
     | false => rfl
     | true =>
      have h1 := D.back i ops[i] (by simp [hi]) e.on (by
       simp only [edgesOf,List.mem_map,List.mem_filter,Array.mem_toList_iff]
       exact ⟨e,⟨he,hb⟩,rfl⟩)
      have h2 := ih e.on h1 (by omega)
      have h3:e.on < listed.size := by omega
      simp only [Bool.not_true,Bool.false_or]
      rw [Array.getD_eq_getD_getElem?,Array.getElem?_eq_getElem h3] at h2 ⊢
      exact h2
    rw [h] at this
    cases this
 unfold rest
 rw [List.filter_eq_nil_iff]
 intro i hi
 simp [key i (by simpa using hi)]
theorem rest_split {n i:Nat} {listed:Array Bool} (hs:listed.size = n) (hi:i < n) (hl:listed.getD i true = false):∃ pre post,rest n listed = pre ++ i :: post ∧ rest n (listed.setIfInBounds i true) = pre ++ post ∧ ∀ j,j ∈ pre → j < i ∧ listed.getD j true = false := by
 have hr:List.range n = List.range i ++ i :: List.range' (i + 1) (n - i - 1) := by
  rw [List.range_eq_range',List.range_eq_range']
  have e:n = i + (1 + (n - i - 1)) := by omega
  rw [e,← List.range'_append_1,← List.range'_append_1]
  simp
 have hset:∀ j,j ≠ i → (listed.setIfInBounds i true).getD j true = listed.getD j true := by
  intro j hj
  rw [Array.getD_eq_getD_getElem?,Array.getD_eq_getD_getElem?,Array.getElem?_setIfInBounds_ne (Ne.symm hj)]
 have hsi:(listed.setIfInBounds i true).getD i true = true := by
  rw [Array.getD_eq_getD_getElem?,Array.getElem?_setIfInBounds_self]
  split <;> rfl
 refine ⟨(List.range i).filter fun j => !listed.getD j true,(List.range' (i + 1) (n - i - 1)).filter fun j => !listed.getD j true,?_,?_,?_⟩
 ·unfold rest
  rw [hr,List.filter_append,List.filter_cons,if_pos (by simp [hl])]
 ·unfold rest
  rw [hr,List.filter_append,List.filter_cons,if_neg (by simp [hsi])]
  congr 1
  ·refine List.filter_congr (fun j hj => ?_)
   rw [hset j (by simp at hj; omega)]
  ·refine List.filter_congr (fun j hj => ?_)
   rw [hset j (by simp at hj; omega)]
 ·intro j hj
  simp only [List.mem_filter,List.mem_range,Bool.not_eq_true'] at hj
  exact hj
theorem any_ok (hE:Good P E) {ops:Array Oper} {fps:List (List Pl×List Pl)} (D:Drawn ops.toList fps) (hd:∀ o,o ∈ ops.toList → ∀ x,o.dst = some x → G.may x) {Q:Exit → Act → World → Prop} {sE:St} (hQ:∀ a w W,Rel G sE a w W → Q .normal a w) (fuel:Nat) :
  ∀ (listed:Array Bool) (s:St) (a:Act) (w:World) (W:Wit),listed.size = ops.size → (rest ops.size listed).length ≤ fuel → (∀ i o,ops.toList[i]? = some o → listed.getD i false = true → ∀ e,e ∈ edgesOf o → listed.getD e false = true) → runsI E ops fps (rest ops.size listed) s = some sE → Rel G s a w W →
   wpAny P .any ops Q fuel listed a w := by
 have fin:∀ (listed:Array Bool) (s:St) (a:Act) (w:World) (W:Wit),listed.size = ops.size → runsI E ops fps (rest ops.size listed) s = some sE → Rel G s a w W → Region.ready .any ops listed = [] → Q .normal a w := by
  intro listed s a w W hs hr h hn
  rw [not_ready D hs hn] at hr
  cases hr
  exact hQ _ _ _ h
 induction fuel with
 | zero =>
  intro listed s a w W hs hl hc hr h
  have hn:Region.ready .any ops listed = [] := by
   apply List.eq_nil_iff_forall_not_mem.2
   intro i hi
   obtain ⟨h1,h2,_⟩ := ready_spec hi
   have:i ∈ rest ops.size listed := by simp only [rest,List.mem_filter,List.mem_range,h2]; exact ⟨h1,rfl⟩
   rw [List.length_eq_zero_iff.1 (Nat.le_zero.1 hl)] at this
   cases this
  exact ⟨hn,fin listed s a w W hs hr h hn⟩
 | succ fuel ih =>
  intro listed s a w W hs hl hc hr h
  refine ⟨fin listed s a w W hs hr h,fun i hi => ?_⟩
  obtain ⟨h1,h2,o,ho,h3⟩ := ready_spec hi
  obtain ⟨pre,post,e1,e2,e3⟩ := rest_split hs h1 h2
  have hanc:∀ m j,Anc ops.toList m j → listed.getD m false = true → listed.getD j false = true := by
   intro m j hA
   induction hA with
   | base hm hj => intro hl; exact hc _ _ hm hl _ hj
   | step hm hj _ ih => intro hl; exact ih (hc _ _ hm hl _ hj)
  have hanci:∀ j,Anc ops.toList i j → listed.getD j false = true := by
   intro j hA
   cases hA with
   | base hm hj => rw [ho] at hm; cases hm; exact h3 _ hj
   | step hm hj hA => rw [ho] at hm; cases hm; exact hanc _ _ hA (h3 _ hj)
  have hsw:∀ j,j ∈ pre → Swaps fps j i := by
   intro j hj
   obtain ⟨j1,j2⟩ := e3 j hj
   rcases D.pair i j j1 (by simpa using h1) with hA | hA
   ·have := hanci j hA
    have hjs:j < listed.size := by omega
    rw [Array.getD_eq_getD_getElem?,Array.getElem?_eq_getElem hjs] at this j2
    simp at this j2
    rw [this] at j2
    cases j2
   ·exact hA
  rw [e1] at hr
  have hr' := runs_front pre hsw hr
  obtain ⟨⟨_,s2⟩,k1,k2⟩ := Option.bind_eq_some_iff.1 hr'
  have hops:ops[i]? = some o := by simpa using ho
  have hstep:(Prg.stepP E ops o).run s = some ((),s2) := by
   unfold stepI at k1
   rw [hops] at k1
   cases hf:fps[i]? with
   | none => rw [hf] at k1; cases k1
   | some f => rw [hf] at k1; exact only_run k1
  unfold wpOp
  rw [hops]
  refine step_ok hE (hd o (List.mem_of_getElem? ho)) hstep h (fun a' w' W' h' => ?_)
  refine ih (listed.setIfInBounds i true) s2 a' w' W' (by simp [hs]) ?_ ?_ (by rw [e2]; exact k2) h'
  ·rw [e2]
   rw [e1] at hl
   simp only [List.length_append,List.length_cons] at hl ⊢
   omega
  ·have hget:∀ j,(listed.setIfInBounds i true).getD j false = true ↔ (j = i ∨ listed.getD j false = true) := by
    intro j
    by_cases e:j = i
    ·subst e
     rw [Array.getD_eq_getD_getElem?,Array.getElem?_setIfInBounds_self,if_pos (by omega)]
     simp
    ·rw [Array.getD_eq_getD_getElem?,Array.getElem?_setIfInBounds_ne (Ne.symm e),← Array.getD_eq_getD_getElem?]
     simp [e]
   intro m om hm hlm e he
   rw [hget] at hlm ⊢
   rcases hlm with rfl | hlm
   ·rw [ho] at hm
    cases hm
    exact .inr (h3 e he)
   ·exact .inr (hc m om hm hlm e he)
end
section
variable {G:Beg} {s s' s1:St} {a:Act} {w w':World} {W W' W1:Wit} {P:Program} {E:Env} {LT:Nat → Code → List (Pl×LV) → Ex → List (Pl×LV) → Prop}
def valCells:Value → List Value
 | .agg cs => cs.toList
 | v => [v]
noncomputable def headω (W:Wit) (K:Tk) (kb:List Nat) (g:Nat):Option Pl := by
 classical
 exact match W.ω g with
 | some (.R a b) => match look K a b with
  | some (i,c,d) => if d = true ∨ (W.sv a b).ownBlock = some g then some (.R i c) else none
  | none => none
 | some (.B b) => if b ∈ kb then some (.B b) else none
 | some .F => some .F
 | _ => none
def headsv (a:Act) (w:World) (W:Wit) (i c:Nat):Value := if c % 2 = 0 then ((valCells (a.tmps.getD i undef))[c / 2]?).getD undef else (w.cell? ((W.ad i).add (c / 2))).getD undef
noncomputable def headW (a:Act) (w:World) (W:Wit) (K:Tk) (kb:List Nat):Wit := ⟨headω W K kb,W.ad,headsv a w W⟩
noncomputable def headX (a:Act) (w:World) (W:Wit) (K:Tk) (kb:List Nat):Ctx := ⟨w,fun g => g < w.heap.size ∧ headω W K kb g = none,W.ad,fun _ => 0,headsv a w W,fun _ _ => 0⟩
theorem headS (K:Tk) (kb:List Nat) {g:Nat} (h:(ctx s w W).S g):(headX a w W K kb).S g := by
 obtain ⟨h1,h2⟩ := h
 have h2:W.ω g = none := h2
 refine ⟨h1,?_⟩
 unfold headω
 rw [h2]
def RowFact (a:Act) (w:World) (W:Wit) (K:Tk) (kb:List Nat) (p:Pl×LV):Prop :=
 ∃ i c row,p = (.R i c,.r 0 (some row)) ∧ RowRep w (headX a w W K kb).S (fun g => headω W K kb g = some (.R i c)) row (headsv a w W i c)
theorem headRow (h:Rel G s a w W) {K:Tk} {kb:List Nat} {x b i c ver:Nat} {r:Row} {d:Bool} (hr:s (.R x b) = .r ver (some r)) (hd:d = true → r.d = true) (hK:look K x b = some (i,c,d)) :
  RowRep w (headX a w W K kb).S (fun g => headω W K kb g = some (.R i c)) { r with z := nzAny r.z,d := d } (W.sv x b) := by
 have hR := h.R x b ver r hr
 have hS:∀ g,(ctx s w W).S g → (headX a w W K kb).S g := fun g hg => headS K kb hg
 have hω:∀ g,W.ω g = some (.R x b) → (d = true ∨ (W.sv x b).ownBlock = some g) → headω W K kb g = some (.R i c) := by
  intro g h1 h2
  unfold headω
  rw [h1]
  simp only [hK]
  rw [if_pos h2]
 have hn:∀ g,W.ω g = some (.R x b) → d = false → (W.sv x b).ownBlock ≠ some g → (headX a w W K kb).S g := by
  intro g h1 h2 h3
  refine ⟨h.lt g (by rw [h1]; simp),?_⟩
  unfold headω
  rw [h1]
  simp only [hK]
  rw [if_neg (by rintro (e | e); rw [h2] at e; cases e; exact h3 e)]
 obtain ⟨hz,hR⟩ := hR
 refine ⟨?_,?_⟩
 ·cases hzz:r.z with
  | nil => trivial
  | any => trivial
  | may b => trivial
  | non => rw [hzz] at hz; exact hz
 ·show if r.fz = true then _ else _
  split at hR
  ·rename_i hf
   rw [if_pos hf]
   exact ROc.move (fun g hg => ⟨hS g hg,rfl⟩) _ _ _ hR
  ·rename_i hf
   rw [if_neg hf]
   obtain ⟨vals,o1,o2,o3⟩ := hR
   refine ⟨vals,o1,fun g hg => hω g (o2 g hg) (.inr hg),?_⟩
   cases hdd:d with
   | true =>
    have hrd := hd hdd
    rw [if_pos hrd] at o3
    obtain ⟨ψ,x1,x2,x3⟩ := o3
    exact ⟨ψ,fun j g hg => ⟨hω g (x1 j g hg).1 (.inl hdd),(x1 j g hg).2⟩,x2,x3⟩
   | false =>
    intro j y hy
    by_cases hrd:r.d = true
    ·rw [if_pos hrd] at o3
     obtain ⟨ψ,x1,x2,x3⟩ := o3
     exact OWc.ro (fun g hg => hn g (x1 j g hg).1 hdd (x1 j g hg).2) _ _ _ (x3 j y hy)
    ·rw [if_neg hrd] at o3
     exact ROc.move (fun g hg => ⟨hS g hg,rfl⟩) _ _ _ (o3 j y hy)
theorem look_cons {tk:Tk} {t:Nat×Nat} {d:Nat×Nat×Bool} (h:look tk t.1 t.2 = none) {x y:Nat} {e:Nat×Nat×Bool} (hl:look tk x y = some e):look ((t,d) :: tk) x y = some e := by
 unfold look
 rw [if_neg (by rintro ⟨rfl,rfl⟩; rw [h] at hl; cases hl)]
 exact hl
theorem canonC_ok (h:Rel G s a w W) (K:Tk) (kb:List Nat) {sh:Bool} {i c:Nat} {x y:Cell} {v:Value} {o:Option (Row×Option (Nat×Nat))} (hc:canonC s sh i c x = (y,o)) (hv:CRep (ctx s w W) x v) (hsv:v.oneCell' = true → headsv a w W i c = v) :
  CRep (headX a w W K kb) y v ∧ (∀ row,o = some (row,none) → RowFact a w W K kb (.R i c,.r 0 (some row))) ∧
   ∀ row x b,o = some (row,some (x,b)) → look K x b = some (i,c,row.d) → RowFact a w W K kb (.R i c,.r 0 (some row)) := by
 have und:(y,o) = (.undef,none) → CRep (headX a w W K kb) y v ∧ (∀ row,o = some (row,none) → RowFact a w W K kb (.R i c,.r 0 (some row))) ∧
   ∀ row x b,o = some (row,some (x,b)) → look K x b = some (i,c,row.d) → RowFact a w W K kb (.R i c,.r 0 (some row)) := by
  intro e
  injection e with e1 e2
  subst e1 e2
  exact ⟨trivial,by simp,by simp⟩
 cases x with
 | row x b ver =>
  simp only [canonC] at hc
  split at hc
  ·rename_i ver' r hr
   split at hc
   ·rename_i hvv
    subst hvv
    injection hc with e1 e2
    subst e1 e2
    obtain ⟨rfl,_⟩ := row_reads h hr hv
    have hs := hsv hv.2.1
    refine ⟨⟨Nat.le_refl _,hv.2.1,fun _ => hs.symm⟩,by simp,?_⟩
    intro row x' b' e hK
    simp only [Option.some.injEq,Prod.mk.injEq] at e
    obtain ⟨rfl,rfl,rfl⟩ := e
    refine ⟨i,c,_,rfl,?_⟩
    rw [hs]
    exact headRow h hr (fun e => by simp at e; exact e.1) hK
   ·exact und hc.symm
  ·exact und hc.symm
 | ptr b ver off =>
  simp only [canonC] at hc
  split at hc
  ·rename_i ver' fz cs hb
   split at hc
   ·rename_i hvv
    subst hvv
    injection hc with e1 e2
    subst e1 e2
    have hbv:bvOf s b = ver' := by simp [bvOf,hb]
    exact ⟨⟨Nat.le_refl _,hv.2.1,fun _ => hv.2.2 hbv.symm⟩,by simp,by simp⟩
   ·exact und hc.symm
  ·exact und hc.symm
 | eptr _ _ _ _ _ _ => exact und hc.symm
 | own _ _ _ _ _ => exact hv.elim
 | fn f caps =>
  simp only [canonC] at hc
  split at hc
  ·rename_i hcl
   injection hc with e1 e2
   subst e1 e2
   obtain ⟨vs,k1,k2⟩ := hv
   refine ⟨⟨vs,k1,?_⟩,by simp,by simp⟩
   simp only [List.all_eq_true] at hcl
   refine All2.of k2.length (fun i a b ha hb => ?_)
   obtain ⟨b',hb',hr⟩ := k2.get ha
   rw [hb] at hb'
   cases hb'
   exact CRep0.closed (fun g hg => ⟨headS K kb hg,rfl⟩) a b (hcl a (List.mem_of_getElem? ha)) hr
  ·exact und hc.symm
 | nil el e =>
  injection hc with e1 e2
  subst e1 e2
  have hv:v = .slice none 0 0 := hv
  subst hv
  have hs := hsv rfl
  refine ⟨⟨Nat.le_refl _,rfl,fun _ => hs.symm⟩,?_,by simp⟩
  intro row e9
  simp only [Option.some.injEq,Prod.mk.injEq,and_true] at e9
  subst e9
  refine ⟨i,c,_,rfl,trivial,?_⟩
  rw [hs]
  rw [if_neg (by simp)]
  refine ⟨[],ownR_nil _ _ _ _,fun g hg => by simp [Value.ownBlock] at hg,?_⟩
  split
  ·exact ⟨fun _ _ => False,fun _ _ hg => hg.elim,fun _ _ _ hg => hg.elim,fun i x hx => by simp at hx⟩
  ·intro i x hx
   simp at hx
 | sl z el e l =>
  injection hc with e1 e2
  subst e1 e2
  refine ⟨⟨?_,ROc.move (fun g hg => ⟨headS K kb hg,rfl⟩) _ _ _ hv.2⟩,by simp,by simp⟩
  cases z with
  | nil => trivial
  | any => trivial
  | may b => trivial
  | non => exact hv.1
 | undef => injection hc with e1 e2; subst e1 e2; exact ⟨trivial,by simp,by simp⟩
 | int k n => injection hc with e1 e2; subst e1 e2; exact ⟨hv,by simp,by simp⟩
 | bool b => injection hc with e1 e2; subst e1 e2; exact ⟨hv,by simp,by simp⟩
 | str t => injection hc with e1 e2; subst e1 e2; exact ⟨hv,by simp,by simp⟩
 | sptr e x off =>
  injection hc with e1 e2
  subst e1 e2
  obtain ⟨g,o,c,h1,h2,h3,h4,h5⟩ := hv
  exact ⟨⟨g,o,c,h1,headS K kb h2,h3,h4,ROc.move (fun g hg => ⟨headS K kb hg,rfl⟩) _ _ _ h5⟩,by simp,by simp⟩
 | fptr f e x =>
  injection hc with e1 e2
  subst e1 e2
  obtain ⟨g,o,p,h1,h2,h3,g2,o2,c,k1,k2,k3,k4,k5⟩ := hv
  exact ⟨⟨g,o,p,h1,headS K kb h2,h3,g2,o2,c,k1,headS K kb k2,k3,k4,ROc.move (fun g hg => ⟨headS K kb hg,rfl⟩) _ _ _ k5⟩,by simp,by simp⟩
theorem canonCs_ok (h:Rel G s a w W) (K:Tk) (kb:List Nat) {sh:Bool} {i:Nat} (cs:List Cell):∀ (c:Nat) (vs:List Value) (tk:Tk),All2 (CRep (ctx s w W)) cs vs → (∀ j v,vs[j]? = some v → v.oneCell' = true → headsv a w W i (c + 2 * j) = v) →
  (∀ x b d,look (canonCs s sh i c cs tk).2.2 x b = some d → look K x b = some d) →
  All2 (CRep (headX a w W K kb)) (canonCs s sh i c cs tk).1 vs ∧ (∀ p,p ∈ (canonCs s sh i c cs tk).2.1 → RowFact a w W K kb p) ∧ ∀ x b d,look tk x b = some d → look (canonCs s sh i c cs tk).2.2 x b = some d := by
 induction cs with
 | nil =>
  intro c vs tk hv _ _
  cases vs with
  | nil => exact ⟨trivial,by simp [canonCs],fun _ _ _ h => h⟩
  | cons _ _ => exact hv.elim
 | cons x cs ih =>
  intro c vs tk hv hsv hK
  cases vs with
  | nil => exact hv.elim
  | cons v vs =>
   have hsv0:v.oneCell' = true → headsv a w W i c = v := fun e => by have := hsv 0 v rfl e; simpa using this
   have hsv1:∀ (j:Nat) (u:Value),vs[j]? = some u → u.oneCell' = true → headsv a w W i (c + 2 + 2 * j) = u := fun j u hu e => by
    have := hsv (j + 1) u (by simpa using hu) e
    rwa [show c + 2 * (j + 1) = c + 2 + 2 * j by omega] at this
   generalize hcc:canonC s sh i c x = q at *
   obtain ⟨y,o⟩ := q
   obtain ⟨k1,k2,k3⟩ := canonC_ok h K kb hcc hv.1 hsv0
   unfold canonCs at hK ⊢
   rw [hcc] at hK ⊢
   cases o with
   | none =>
    obtain ⟨l1,l2,l3⟩ := ih (c + 2) vs tk hv.2 hsv1 hK
    exact ⟨⟨k1,l1⟩,l2,l3⟩
   | some o =>
    obtain ⟨row,t⟩ := o
    cases t with
    | none =>
     obtain ⟨l1,l2,l3⟩ := ih (c + 2) vs tk hv.2 hsv1 hK
     refine ⟨⟨k1,l1⟩,fun p hp => ?_,l3⟩
     rcases List.mem_cons.1 hp with rfl | hp
     ·exact k2 row rfl
     ·exact l2 p hp
    | some t =>
     simp only at hK ⊢
     cases hl:look tk t.1 t.2 with
     | some d =>
      rw [hl] at hK
      obtain ⟨l1,l2,l3⟩ := ih (c + 2) vs tk hv.2 hsv1 hK
      exact ⟨⟨trivial,l1⟩,l2,l3⟩
     | none =>
      rw [hl] at hK
      obtain ⟨l1,l2,l3⟩ := ih (c + 2) vs ((t,i,c,row.d) :: tk) hv.2 hsv1 hK
      refine ⟨⟨k1,l1⟩,fun p hp => ?_,fun x b d e => l3 x b d (look_cons hl e)⟩
      rcases List.mem_cons.1 hp with rfl | hp
      ·exact k3 row t.1 t.2 rfl (hK _ _ _ (l3 _ _ _ (by unfold look; rw [if_pos ⟨rfl,rfl⟩])))
      ·exact l2 p hp
theorem plain_rep {X Y:Ctx} {c:Cell} {v:Value} (hc:Prg.plainC c = true) (h:CRep X c v):CRep Y c v := by
 cases c <;> first | exact h | cases hc
theorem plain_closed {c:Cell} (hc:Prg.plainC c = true):c.closed = true := by cases c <;> first | rfl | cases hc
theorem plain_F {X Y:Ctx} {φ:Nat → Prop} {c:Cell} {v:Value} (hc:Prg.plainC c = true) (h:FRep X φ c v):CRep Y c v := by
 cases c <;> first | exact h | cases hc
theorem plainRV_is {x:RV} (h:Prg.plainRV x = true):∃ c,x = one c ∧ Prg.plainC c = true := by
 unfold Prg.plainRV at h
 split at h
 ·exact ⟨_,rfl,h⟩
 ·cases h
theorem cellsOwn_closed (e:Ty):∀ x:e.den,(cellsOwn e x).all Cell.closed = true := by
 induction e with
 | pair a b iha ihb => intro x; simp only [cellsOwn,List.all_append,iha,ihb,Bool.and_self]
 | _ => intro x; rfl
theorem own_block_of {w:World} {el sz n:Nat} {v:Value} {xs:List Value} (h:ownR w 0 el sz v n xs):v.cells = #[v] := by
 rcases h.2 with ⟨rfl,_⟩ | ⟨g,cap,cur,rfl,_⟩ <;> rfl
theorem splice_one {off:Nat} {cs:List Cell} {y x:Cell} (h:off < cs.length):splice off (splice off cs [x]) [y] = splice off cs [y] := by
 unfold splice
 apply List.ext_getElem?
 intro j
 simp only [List.length_cons,List.length_nil,List.getElem?_append,List.length_append,List.length_take,List.getElem?_take,List.getElem?_drop,List.length_drop]
 have e1:min off cs.length = off := by omega
 have e2:min off (off + (0 + 1) + (cs.length - (off + (0 + 1)))) = off := by omega
 simp only [e1,e2]
 by_cases h1:j < off
 ·simp [h1,show j < off + (0 + 1) by omega]
 ·by_cases h2:j < off + (0 + 1)
  ·simp [h1,h2]
  ·simp only [h1,h2,if_false]
   have e3:¬ (off + (0 + 1) + (j - (off + (0 + 1))) < off + (0 + 1)) := by omega
   simp only [e3,if_false]
   congr 1
   omega
theorem nestR_run (hE:Good P E) {f:Nat} {x res:RV} {i c ver k off:Nat} {r:Row} (h:Rel G s a w W) (g1:s (.R i c) = .r ver (some r)) (hf:r.fz = false) (hd:r.d = true) (hk:k < r.l.length) (hoff:off < r.e.size) {kv:Value} (hx:∃ cx,x = one cx ∧ Prg.plainC cx = true ∧ CRep (ctx s w W) cx kv)
  (hr:(Prg.nestR E f x i c ver k off r).run s = some (res,s')) :
  ∃ g n cap cv,W.sv i c = .slice (some ⟨g,0,none⟩) n cap ∧ Has w g (k * r.e.size + off) [cv] ∧ (∃ fn,P.funcs[f]? = some fn ∧ fn.body.isSome = true ∧ (fn.name == "runtime.NumGoroutine") = false) ∧
   Calls P f #[cv,kv] w fun
    | .returned v,w' => ∃ W',Rel G s' a w' W' ∧ (∃ cr,res = one cr ∧ Prg.plainC cr = true ∧ CRep (ctx s' w' W') cr v)
    | _,_ => False := by
 have hRR := h.R i c ver r g1
 obtain ⟨hz,hRR⟩ := hRR
 rw [if_neg (by simp [hf])] at hRR
 obtain ⟨vals,o1,o2,o3⟩ := hRR
 rw [if_pos hd] at o3
 obtain ⟨ψe,p1,p2,p3⟩ := o3
 have hel := p3 k (at_ r.e r.l k) (at_get hk)
 obtain ⟨ψc,q1,q2,q3⟩ := cellsOwn_rep (X := bare w (fun _ => False)) r.e (at_ r.e r.l k) _ (ψe k) hel
 obtain ⟨A,cap,e1,_,e3⟩ := ownR.has o1
 obtain ⟨g,rfl,e4,hh⟩ := e3 (by omega)
 unfold Prg.nestR at hr
 split at hr
 ·rename_i z d el e l F hcell hF
  split at hr
  ·rename_i pre cr y hFy
   obtain ⟨_,s1,t1,t2⟩ := bind_run hr
   obtain ⟨rfl,rfl⟩ := sure_run t1
   obtain ⟨_,s2,t3,t4⟩ := bind_run t2
   obtain ⟨hres,rfl⟩ := chk_run t3
   split at t4
   ·rename_i nx hpk
    have eU:updE r.e r.l k (Prg.nestU r off F x) = r.l.set k nx := by
     unfold updE Prg.nestU
     rw [hcell]
     simp only [hFy,hpk,updV]
    rw [eU] at t4
    simp only [Prg.run,Option.some.injEq,Prod.mk.injEq] at t4
    obtain ⟨rfl,rfl⟩ := t4
    obtain ⟨cv,hcv,hrep⟩ := q3.get hcell
    rw [Nat.zero_add] at hrep
    have hrep:RowRep w (fun _ => False) (ψc off) ⟨false,z,d,el,e,l⟩ cv := hrep
    have hcvals:r.e.size ≤ (vals.drop (k * r.e.size)).length := by
     have h1 := o1.1
     rw [List.length_drop,h1]
     have:(k + 1) * r.e.size ≤ r.l.length * r.e.size := Nat.mul_le_mul_right _ hk
     rw [Nat.add_mul] at this
     omega
    have hcv1:vals[k * r.e.size + off]? = some cv := by
     rw [List.getElem?_take,if_pos hoff,List.getElem?_drop] at hcv
     exact hcv
    have S := hE.fn f _ _ hF
    refine ⟨g,_,cap,cv,e1,?_,S.fn,?_⟩
    ·intro j v hj
     have hj0:j = 0 := by
      cases j with
      | zero => rfl
      | succ j => simp at hj
     subst hj0
     simp only [List.getElem?_cons_zero,Option.some.injEq] at hj
     subst hj
     have := hh _ _ hcv1
     rwa [Nat.zero_add] at this
    ·let Ψ:Nat → Nat → Nat → Prop := fun i' c' q => i' = 0 ∧ c' = 1 ∧ ψc off q
     have hω:∀ q,ψc off q → W.ω q = some (.R i c) := fun q hq => (p1 k q (q1 off q hq).1).1
     have hΨlt:∀ q,ψc off q → q < w.heap.size := fun q hq => h.lt q (by rw [hω q hq]; simp)
     have hands:Hands w (fun _ => False) Ψ := ⟨fun _ h => h.elim,fun i' c' q hq => ⟨hΨlt q hq.2.2,fun h => h⟩,fun i1 c1 i2 c2 q h1 h2 => ⟨h1.1.trans h2.1.symm,h1.2.1.trans h2.2.1.symm⟩⟩
     obtain ⟨cx,rfl,hpx,hcx⟩ := hx
     have hgiven:GivenAll w (fun _ => False) Ψ 0 [.mut,.own] [.val false [.own z d el e l],one cx] [cv,kv] := by
      refine ⟨⟨[cv],⟨rfl,?_,trivial⟩,rfl,fun _ => rfl⟩,⟨[kv],⟨?_,?_,trivial⟩,rfl,fun _ => rfl⟩,trivial⟩
      ·show RowRep w (fun _ => False) (Ψ 0 1) ⟨false,z,d,el,e,l⟩ cv
       exact RowRep.move (fun _ h => h.elim) (fun q hq => ⟨⟨rfl,rfl,hq⟩,rfl⟩) hrep
      ·simp [plain_closed hpx]
      ·exact FRep_of (plain_rep hpx hcx)
     refine Calls.mono (S.calls w _ Ψ _ [cv,kv] _ _ hFy hands hgiven) ?_
     rintro ex w' hR
     match ex,hR with
     | .returned v,hR =>
     obtain ⟨S',Ψ',T,hres2,hout⟩ := hR
     -- what came back
     obtain ⟨vs,⟨_,hb2⟩,hv,_⟩ := hres2
     have hvr:∃ u,vs = [u] ∧ FRep (bare w' S') (fun q => Ψ' 0 1 q) cr u := by
      match vs,hb2 with
      | [u],hb2 => exact ⟨u,rfl,hb2.1⟩
     obtain ⟨u,rfl,hu⟩ := hvr
     have hv:v = u := hv
     subst hv
     simp only [OutAll,PM.wr,if_true] at hout
     obtain ⟨yo,os',hyo,hy1,_⟩ := hout
     injection hyo with hyo _
     subst hyo
     have hcc:cv.cells = #[cv] := by
      obtain ⟨_,hr1⟩ := hrep
      rw [if_neg (by simp)] at hr1
      obtain ⟨_,hr2,_⟩ := hr1
      exact own_block_of hr2
     have hycl:y.closed = true := by
      have := hy1.1
      simpa using this
     have hy1:FAll (bare w' S') (fun j => Ψ' 1 (j + 1)) 0 [y] cv.cells.toList := hy1.2
     rw [hcc] at hy1
     have hyy:FRep (bare w' S') (Ψ' 1 1) y cv := hy1.1
     have hnΨ:∀ q,q < w.heap.size → ¬ ψc off q → w'.heap[q]? = w.heap[q]? ∧ ¬ ∃ i' c',Ψ' i' c' q := fun q hq hn => by
      have := T.keep q hq (by rintro ⟨i',c',h1⟩; exact hn h1.2.2)
      exact ⟨this.1,this.2.2⟩
     -- the element anew
     have hlenc:((vals.drop (k * r.e.size)).take r.e.size).length = r.e.size := by rw [List.length_take]; omega
     have hlco:(cellsOwn r.e (at_ r.e r.l k)).length = r.e.size := cellsOwn_len _ _
     have hbase:FAll (bare w' S') (fun j q => j ≠ off ∧ ψc j q) 0 (splice off (cellsOwn r.e (at_ r.e r.l k)) [.undef]) ((vals.drop (k * r.e.size)).take r.e.size) := by
      refine FAll.of _ _ 0 (by rw [splice_len (by simp; omega),hlco,hlenc]) (fun j cj hj => ?_)
      rw [Nat.zero_add]
      unfold splice at hj
      rw [splice_get (by simp; omega)] at hj
      by_cases hjo:off ≤ j ∧ j < off + [Cell.undef].length
      ·rw [if_pos hjo] at hj
       simp only [List.length_cons,List.length_nil] at hjo
       have hjo:j = off := by omega
       subst hjo
       rw [Nat.sub_self] at hj
       simp only [List.getElem?_cons_zero,Option.some.injEq] at hj
       subst hj
       exact ⟨cv,hcv,FRep_of (X := bare w' S') (c := .undef) trivial⟩
      ·rw [if_neg hjo] at hj
       simp only [List.length_cons,List.length_nil] at hjo
       obtain ⟨u,hu1,hu2⟩ := q3.get hj
       rw [Nat.zero_add] at hu2
       refine ⟨u,hu1,FRep.closed (X := bare w (fun _ => False)) (Y := bare w' S') (fun _ h => h.elim) (fun q hq => ?_) (List.all_eq_true.1 (cellsOwn_closed r.e _) _ (List.mem_of_getElem? hj)) hu2⟩
       have hjo:j ≠ off := by omega
       refine ⟨⟨hjo,hq⟩,(hnΨ q (h.lt q (by rw [(p1 k q (q1 j q hq).1).1]; simp)) (fun h2 => hjo (q2 _ _ _ hq h2))).1⟩
     have hpk2:pack r.e (splice off (splice off (cellsOwn r.e (at_ r.e r.l k)) [.undef]) [y]) = some (nx,true,[]) := by
      rw [splice_one (by omega)]
      exact packAll_some hpk
     have hyall:FAll (bare w' S') (fun j q => j = 0 ∧ Ψ' 1 1 q) 0 [y] [cv] := ⟨FRep.closed (X := bare w' S') (Y := bare w' S') (fun _ h => ⟨h,rfl⟩) (fun q hq => ⟨⟨rfl,hq⟩,rfl⟩) hycl hyy,trivial⟩
     have hnew := (new_elem hbase (fun i1 j1 q h1 h2 => q2 _ _ _ h1.2 h2.2) hyall (fun i1 j1 q h1 h2 => h1.1.trans h2.1.symm)
      (fun i1 j1 q h1 h2 => (hnΨ q (h.lt q (by rw [(p1 k q (q1 i1 q h1.2).1).1]; simp)) (fun h3 => h1.1 (q2 _ _ _ h1.2 h3))).2 ⟨1,1,h2.2⟩) (by rw [splice_len (by simp; omega),hlco]; simp; omega) hpk2).1 rfl
     have hcs:((vals.drop (k * r.e.size)).take r.e.size).take off ++ [cv] ++ ((vals.drop (k * r.e.size)).take r.e.size).drop (off + [cv].length) = (vals.drop (k * r.e.size)).take r.e.size := by
      generalize (vals.drop (k * r.e.size)).take r.e.size = L at hcv hlenc
      have hl:off < L.length := by omega
      have:L[off] = cv := by rw [List.getElem?_eq_getElem hl] at hcv; exact Option.some.inj hcv
      rw [← this]
      simp only [List.length_cons,List.length_nil]
      rw [List.append_assoc,List.singleton_append,Nat.zero_add,List.getElem_cons_drop,List.take_append_drop]
     rw [hcs] at hnew
     -- the row anew
     have hrow:∀ q,(W.sv i c).ownBlock = some q → q < w.heap.size ∧ ¬ ψc off q := fun q hq => ⟨h.lt q (by rw [o2 q hq]; simp),fun h2 => (p1 k q (q1 off q h2).1).2 hq⟩
     have hΨq:∀ q,Ψ' 1 1 q → (W.ω q = some (.R i c) ∨ (w.heap.size ≤ q ∧ q < w'.heap.size)) ∧ (W.sv i c).ownBlock ≠ some q := by
      intro q hq
      refine ⟨?_,fun h2 => (hnΨ q (hrow q h2).1 (hrow q h2).2).2 ⟨1,1,hq⟩⟩
      by_cases hlt:q < w.heap.size
      ·by_cases h2:ψc off q
       ·exact .inl (hω q h2)
       ·exact ((hnΨ q hlt h2).2 ⟨1,1,hq⟩).elim
      ·exact .inr ⟨by omega,(T.hands.own 1 1 q hq).1⟩
     have hset:(s2.set (.R i c) (.r ver none)) (.R i c) = .r ver none := St.set_same _ _ _
     obtain ⟨W',h',_⟩ := rel_layR (w' := w') (rel_takeR h g1).1 (d := i) (c := c) (ver := ver) (r0 := none) hset ver { r with l := r.l.set k nx } (W.sv i c) (.inr ⟨rfl,rfl⟩) (fun q => W.ω q = some (.R i c)) (fun _ => False)
      (fun q hq => ⟨_,hq,Dead.of_row hset⟩) (fun _ h => h.elim) (fun q hq hn => (hnΨ q hq (fun h2 => hn (hω q h2))).1) T.os T.tape T.output T.grow (by
       refine ⟨hz,?_⟩
       rw [if_neg (by simp [hf])]
       refine ⟨vals,?_,fun q hq => .inl (o2 q hq),?_⟩
       ·refine ⟨by simp only [List.length_set]; exact o1.1,?_⟩
        rcases o1.2 with hn | ⟨g',cap',cur,f1,f2,f3,f4,f5,f6,f7⟩
        ·exact .inl ⟨hn.1,by simp only [List.length_set]; exact hn.2⟩
        ·refine .inr ⟨g',cap',cur,by simp only [List.length_set]; exact f1,f2,?_,by simp only [List.length_set]; exact f4,f5,f6,by simp only [List.length_set]; exact f7⟩
         have := hrow g' (by rw [f1]; rfl)
         rw [(hnΨ g' this.1 this.2).1]
         exact f3
       ·rw [if_pos hd]
        refine ⟨fun i' q => if i' = k then ((∃ j,j ≠ off ∧ ψc j q) ∨ ∃ j,j = 0 ∧ Ψ' 1 1 q) else ψe i' q,fun i' q hq => ?_,fun i1 j1 q h1 h2 => ?_,fun i' x hx => ?_⟩
        ·by_cases hik:i' = k
         ·subst hik
          simp only [if_true] at hq
          rcases hq with ⟨j,_,hj⟩ | ⟨_,_,hq⟩
          ·have := p1 _ q (q1 j q hj).1
           exact ⟨.inl this.1,this.2⟩
          ·exact hΨq q hq
         ·simp only [if_neg hik] at hq
          have := p1 i' q hq
          exact ⟨.inl this.1,this.2⟩
        ·have key:∀ i' q,i' ≠ k → ψe i' q → ((∃ j,j ≠ off ∧ ψc j q) ∨ ∃ j,j = 0 ∧ Ψ' 1 1 q) → False := by
          rintro i' q hik hq (⟨j,_,hj⟩ | ⟨_,_,hq2⟩)
          ·exact hik (p2 _ _ q hq (q1 j q hj).1)
          ·exact (hnΨ q (h.lt q (by rw [(p1 i' q hq).1]; simp)) (fun h3 => hik (p2 _ _ q hq (q1 off q h3).1))).2 ⟨1,1,hq2⟩
         by_cases e5:i1 = k <;> by_cases e6:j1 = k
         ·rw [e5,e6]
         ·simp only [if_pos e5] at h1
          simp only [if_neg e6] at h2
          exact (key _ _ e6 h2 h1).elim
         ·simp only [if_neg e5] at h1
          simp only [if_pos e6] at h2
          exact (key _ _ e5 h1 h2).elim
         ·simp only [if_neg e5] at h1
          simp only [if_neg e6] at h2
          exact p2 _ _ q h1 h2
        ·by_cases hik:i' = k
         ·subst hik
          rw [List.getElem?_set_self hk] at hx
          injection hx with hx
          subst hx
          simp only [if_true]
          exact hnew
         ·rw [List.getElem?_set_ne (fun e => hik e.symm)] at hx
          simp only [if_neg hik]
          exact OWc.move (fun q hq => ⟨hq,(hnΨ q (h.lt q (by rw [(p1 i' q hq).1]; simp)) (fun h3 => hik (p2 _ _ q hq (q1 off q h3).1))).1⟩) _ _ _ (p3 i' x hx))
     have hss:(s2.set (.R i c) (.r ver none)).set (.R i c) (.r ver (some { r with l := r.l.set k nx })) = s2.set (.R i c) (.r ver (some { r with l := r.l.set k nx })) := by
      funext l
      simp only [St.set]
      split <;> rfl
     rw [hss] at h'
     exact ⟨W',h',cr,rfl,hres,plain_F hres hu⟩
   ·cases t4
  ·cases hr
 ·cases hr
theorem run_clear_row1 (w:World) (t e ty:TypeId) (z:Value) (ht:P.underlying t = some (.slice e)) (hv:∀ w,(zeroValue e).run P w = .ok z w) (zv:Value) (hz:z.cells = #[zv]) (h1:zv.oneCell' = true) (g o n c:Nat) (hn:0 < n) (cur:Array Value) (te:TypeId)
  (hg:w.heap[g]? = some (.cells cur te (0,0))) (hfit:o + n ≤ cur.size) :
  (Builtin.clear_ #[t] ty #[.slice (some ⟨g,o,none⟩) n c]).run P w = .ok (.tuple #[]) (w.setRow g (cur.toList.take o ++ List.replicate n zv ++ cur.toList.drop (o + n)).toArray) := by
 have hzc:(Builtin.zeroCells z.cells n).toList = List.replicate n zv := by
  rw [hz]
  simp [Builtin.zeroCells]
  apply List.ext_getElem
  ·simp
  ·intro i h1 h2
   simp [Nat.mod_one]
 have hst := run_storeCells_at P g o te (List.replicate n zv) 0 cur w hg (by simp; omega) (fun u hu => by rw [List.eq_of_mem_replicate hu]; exact h1)
 simp only [Nat.add_zero,List.length_replicate] at hst
 obtain ⟨m,rfl⟩:∃ m,n = m + 1 := ⟨n - 1,by omega⟩
 simp only [Builtin.clear_,run_underlying ht,hv,Sem.run_bind,Result.andThen_ok,hzc,hst]
 simp [run_underlying ht,hv,hzc,hst]
theorem ok_nest (hE:Good P E) {o om o2:Oper} (hd:∀ x,o.dst = some x → G.may x) (hdm:∀ x,om.dst = some x → G.may x) (hd2:∀ x,o2.dst = some x → G.may x) {u:Unit} (hr:(Prg.nestP E o om o2).run s = some (u,s')) (h:Rel G s a w W)
  {ops:Array Oper} {rest:List Oper} {Q:Exit → Act → World → Prop} (hK:∀ a' w' W',Rel G s' a' w' W' → wpList P ops Q rest a' w'):wpList P ops Q (o :: om :: o2 :: rest) a w := by
 unfold Prg.nestP at hr
 split at hr
 ·rename_i t x d y dm f args ats d2 e1 e2 e3 e4 e5 e6
  split at hr
  ·rename_i a0 a1 hargs
   obtain ⟨_,s1,t1,t2⟩ := bind_run hr
   obtain ⟨⟨g1,g2,g3⟩,rfl⟩ := chk_run t1
   obtain ⟨_,s2,t3,t4⟩ := bind_run t2
   obtain ⟨⟨rfl,rfl⟩,rfl⟩ := chk_run t3
   unfold Prg.nest3 at t4
   obtain ⟨_,s3,t5,t6⟩ := bind_run t4
   obtain ⟨⟨hyd,hdd⟩,rfl⟩ := chk_run t5
   obtain ⟨c,s4,t7,t8⟩ := bind_run t6
   obtain ⟨rfl,hc⟩ := evC_run h t7
   obtain ⟨kx,s5,t9,t10⟩ := bind_run t8
   obtain ⟨rv,hrv,hrv2⟩ := getT_run t9
   obtain ⟨rfl,rfl⟩ := pure_run hrv2
   obtain ⟨_,s6,t11,t12⟩ := bind_run t10
   obtain ⟨hpl,rfl⟩ := chk_run t11
   obtain ⟨ti,s7,t13,t14⟩ := bind_run t12
   obtain ⟨rfl,hti⟩ := tt_ti hE.tt t13
   obtain ⟨_,s8,t15,t16⟩ := bind_run t14
   obtain ⟨⟨hsz,hagg⟩,rfl⟩ := chk_run t15
   split at t16
   ·rename_i i c ver k sz off
    obtain ⟨r,k1,k2⟩ := getR_run t16
    obtain ⟨_,s9,k3,k4⟩ := bind_run k2
    obtain ⟨⟨hrs,hrf,hrd,hro⟩,rfl⟩ := chk_run k3
    obtain ⟨_,s10,k5,k6⟩ := bind_run k4
    obtain ⟨hk,rfl⟩ := sure_run k5
    have hk:k < r.l.length := by simpa using hk
    obtain ⟨res,s11,k7,k8⟩ := bind_run k6
    obtain ⟨_,s12,k9,k10⟩ := bind_run k8
    obtain ⟨_,s13,k11,k12⟩ := bind_run k10
    obtain ⟨cx,rfl,hpx⟩ := plainRV_is hpl
    have hkv:CRep (ctx s10 w W) cx (a.tmps.getD y undef) := VRep_one.1 (h.T y _ hrv)
    obtain ⟨g,n,cap,cv,m1,m2,⟨fn,m3,m4,m5⟩,m6⟩ := nestR_run hE h k1 hrf hrd hk (by rw [hrs]; exact hro) ⟨cx,rfl,hpx,hkv⟩ k7
    obtain ⟨g',n',cap',hsv,hxv⟩ := hc.2.2 (by simp [ctx,rvOf,k1])
    have hsv:W.sv i c = .slice (some ⟨g',0,none⟩) n' cap' := hsv
    rw [m1] at hsv
    injection hsv with hsv
    injection hsv with hsv
    injection hsv with hsv
    subst hsv
    -- the load
    unfold wpList
    rw [if_pos (by simp [Region.wanted,g1])]
    refine .inl (wp_load (vs := [cv]) e1 hti hxv (by rw [hsz]; rfl) (by rw [← hrs]; exact m2) ?_)
    rw [hagg,if_neg (by simp),e2]
    show wpList P ops Q (om :: o2 :: rest) (a.put (some a0) cv) w
    -- the move
    unfold wpList
    rw [if_pos (by simp [Region.wanted,g2])]
    have hyv:(a.put (some a0) cv).eval (.tmp y) = a.tmps.getD y undef := by
     simp only [Act.eval,Act.put,Array.getD_eq_getD_getElem?,Array.getElem?_setIfInBounds]
     rw [if_neg (fun e => hyd e.symm)]
    refine .inl (wp_value (v := a.tmps.getD y undef) (w' := w) ?_ ?_)
    ·simp only [execOp,e3,hyv,Sem.run_pure]
    rw [e4]
    -- the call
    unfold wpList
    rw [if_pos (by simp [Region.wanted,g3])]
    left
    have ha0:a0 < a.tmps.size := by rw [h.size]; exact (hd a0 e2).1
    have ha1:a1 < a.tmps.size := by rw [h.size]; exact (hdm a1 e4).1
    have hv0:((a.put (some a0) cv).put (some a1) (a.tmps.getD y undef)).eval (.tmp a0) = cv := by
     simp [Act.eval,Act.put,Array.getD_eq_getD_getElem?,Array.getElem?_setIfInBounds,hdd,ha0]
    have hv1:((a.put (some a0) cv).put (some a1) (a.tmps.getD y undef)).eval (.tmp a1) = a.tmps.getD y undef := by
     simp [Act.eval,Act.put,Array.getD_eq_getD_getElem?,Array.getElem?_setIfInBounds,ha1]
    generalize hkk:a.tmps.getD y undef = kv at m6 hkv hv0 hv1
    have hargs':args = #[.tmp a0,.tmp a1] := by cases args; simp_all
    unfold Oper.wp
    have hrun:(execOp ((a.put (some a0) cv).put (some a1) kv).eval o2).run P w = .ok (.enter f #[cv,kv]) w := by
     have:(execOp ((a.put (some a0) cv).put (some a1) kv).eval o2).run P w = (callFunc f #[cv,kv]).run P w := by
      have hf0:((a.put (some a0) cv).put (some a1) kv).eval (.func f) = .func (.func f) #[] #[] := rfl
      simp only [execOp,e5,resolve,hf0,hargs',Deferred.ofValue,invoke,Sem.run_bind,Sem.run_pure,Result.andThen_ok]
      simp [hv0,hv1]
     rw [this,run_callFunc m3 m4 m5]
    rw [hrun,Oper.upon_enter]
    refine Calls.mono m6 ?_
    rintro ex w' hR
    match ex,hR with
    | .returned v,hR =>
    obtain ⟨W',h',cr,rfl,hpc,hcr⟩ := hR
    have r1 := put_run (r := one .undef) h' hd (by rw [e2]; exact k9) (v := cv) (VRep_one.2 trivial)
    have r2 := put_run (r := one cx) r1 hdm (by rw [e4]; exact k11) (v := kv) (VRep_one.2 (plain_rep hpx hkv))
    have r3 := put_run (r := one cr) r2 hd2 (by rw [e6]; exact k12) (v := v) (VRep_one.2 (plain_rep hpc hcr))
    rw [e2,e4] at r3
    exact hK _ _ _ r3
   ·cases t16
  ·cases hr
 ·rename_i y d t xr d' dm args ats e1 e2 e3 e4 e5 e6
  split at hr
  ·rename_i a0 t' hargs hats
   obtain ⟨_,s1,t1,t2⟩ := bind_run hr
   obtain ⟨⟨g1,g2,g3⟩,rfl⟩ := chk_run t1
   obtain ⟨_,s2,t3,t4⟩ := bind_run t2
   obtain ⟨⟨rfl,rfl,rfl⟩,rfl⟩ := chk_run t3
   unfold Prg.clear3 at t4
   obtain ⟨_,s3,t5,t6⟩ := bind_run t4
   obtain ⟨⟨hxd,hdd⟩,rfl⟩ := chk_run t5
   obtain ⟨ky,s4,t7,t8⟩ := bind_run t6
   obtain ⟨rv,hrv,hrv2⟩ := getT_run t7
   obtain ⟨rfl,rfl⟩ := pure_run hrv2
   obtain ⟨cx,s5,t9,t10⟩ := bind_run t8
   obtain ⟨rv2,hrx,hrx2⟩ := getT_run t9
   obtain ⟨rfl,rfl⟩ := pure_run hrx2
   split at t10
   ·rename_i k n i c ver
    obtain ⟨te,s6,t11,t12⟩ := bind_run t10
    obtain ⟨rfl,hte,ei,z,hei,hes,_,hpos,hez,hzok⟩ := tt_elem hE.tt t11
    obtain ⟨r,k1,k2⟩ := getR_run t12
    obtain ⟨_,s7,k3,k4⟩ := bind_run k2
    obtain ⟨⟨hel,hee,hei64,hrf⟩,rfl⟩ := chk_run k3
    obtain ⟨_,s8,k5,k6⟩ := bind_run k4
    obtain ⟨hn,rfl⟩ := sure_run k5
    have hn := of_decide_eq_true hn
    have k7:((do Prg.put (some d') (.val false [.int k n]); Prg.put (some a0) (one .undef)):Prg Unit).run (s8.set (.R i c) (.r ver (some { r with l := r.l.take n.toNat ++ List.replicate (r.l.length - n.toNat) r.e.zero }))) = some (u,s') := k6
    obtain ⟨_,s9,k8,k9⟩ := bind_run k7
    obtain ⟨fz,zz,d0,el,e,l⟩ := r
    dsimp only at hel hee hei64 hrf hn k8
    subst hei64 hrf
    have hky:a.tmps.getD y undef = .int k n := VRep_one.1 (h.T y _ hrv)
    have hxv:CRep (ctx s8 w W) (.row i c ver) (a.tmps.getD xr undef) := VRep_one.1 (h.T xr _ hrx)
    obtain ⟨hsv,_⟩ := row_reads h k1 hxv
    obtain ⟨hz,hRR⟩ := h.R i c ver _ k1
    rw [if_neg (by simp)] at hRR
    obtain ⟨vals,b1,b2,b3⟩ := hRR
    have hs1:(Ty.int .i64).size = 1 := rfl
    rcases b1.2 with ⟨_,hl0⟩ | ⟨g,cap,cur,f1,f2,f3,f4,f5,f6,f7⟩
    ·exfalso
     have hl0:l.length = 0 := hl0
     omega
    have f4:l.length ≤ cap := f4
    have f6:cap * 1 ≤ cur.size := f6
    have f7:cur.toList.take (l.length * 1) = vals := f7
    have f1:W.sv i c = .slice (some ⟨g,0,none⟩) l.length cap := f1
    obtain ⟨m,rfl⟩:∃ m:Nat,n = (m:Int) := ⟨n.toNat,by omega⟩
    have hm:m < l.length := by omega
    have hzv:z.cells = #[.int .i64 0] := by
     rw [← hee] at hzok
     unfold zeroOk at hzok
     generalize hzl:z.cells.toList = zl at hzok
     match zl,hzok with
     | .int k' n' :: r,hzok =>
      simp only [isZero] at hzok
      split at hzok
      ·rename_i hq
       split at hq
       ·rename_i hkn
        injection hq with hq
        obtain ⟨rfl,rfl⟩ := hkn
        rw [hq] at hzl
        apply Array.ext'
        rw [hzl]
       ·cases hq
      ·cases hzok
    have hcl := run_clear_row1 w t' te.1 o2.type z hte (fun w => run_zeroValue hei hez) (.int .i64 0) hzv rfl g m (l.length - m) (cap - m) (by omega) cur el f3 (by omega)
    have hes1:ei.size = 1 := by rw [hes,← hee]; rfl
    obtain ⟨cur',hcur'⟩:∃ c:Array Value,c = (cur.toList.take m ++ List.replicate (l.length - m) (Value.int .i64 0) ++ cur.toList.drop (m + (l.length - m))).toArray := ⟨_,rfl⟩
    rw [← hcur'] at hcl
    have hvl:vals.length = l.length := by have := b1.1; rw [hs1,Nat.mul_one] at this; exact this
    have hcell:∀ (j:Nat) (x:Int),l[j]? = some x → (vals.drop j).take 1 = [.int .i64 x] := by
     intro j x hx
     split at b3
     ·obtain ⟨ψ,_,_,p3⟩ := b3
      have:(vals.drop (j * 1)).take 1 = [.int .i64 x] := p3 j x hx
      rwa [Nat.mul_one] at this
     ·have:(vals.drop (j * 1)).take 1 = [.int .i64 x] := b3 j x hx
      rwa [Nat.mul_one] at this
    have hvals:vals = (show List Int from l).map (Value.int .i64 ·) := by
     apply List.ext_getElem
     ·rw [hvl,List.length_map]
     ·intro j h1 h2
      rw [List.length_map] at h2
      have h3:(show List Int from l)[j]? = some ((show List Int from l)[j]) := List.getElem?_eq_getElem h2
      have := hcell j _ h3
      rw [List.drop_eq_getElem_cons h1] at this
      simp only [List.take_succ_cons,List.take_zero,List.cons.injEq,and_true] at this
      rw [this,List.getElem_map]
    have hsetrow := setRow_heap w g cur cur' el _ f3
    have hωg:W.ω g = some (.R i c) := b2 g (by rw [f1]; rfl)
    have hset:(s8.set (.R i c) (.r ver none)) (.R i c) = .r ver none := St.set_same _ _ _
    have hclen:cur.toList.length = cur.size := Array.length_toList
    obtain ⟨W',h',_⟩ := rel_layR (w' := w.setRow g cur') (rel_takeR h k1).1 (d := i) (c := c) (ver := ver) (r0 := none) hset ver (⟨false,zz,d0,el,.int .i64,l.take (m:Int).toNat ++ List.replicate (l.length - (m:Int).toNat) (Ty.int .i64).zero⟩:Row) (W.sv i c) (.inr ⟨rfl,rfl⟩) (fun q => W.ω q = some (.R i c)) (fun _ => False)
      (fun q hq => ⟨_,hq,Dead.of_row hset⟩) (fun _ h => h.elim) (fun q hq hn => setRow_other w g q cur' (fun e => hn (by rw [e]; exact hωg))) rfl rfl rfl (by simp) (by
       refine ⟨hz,?_⟩
       rw [if_neg (by simp)]
       have hnl:(show List Int from l.take (m:Int).toNat ++ List.replicate (l.length - (m:Int).toNat) (Ty.int .i64).zero) = (show List Int from l).take m ++ List.replicate (l.length - m) 0 := by rw [Int.toNat_natCast]; rfl
       dsimp only
       have hnll:(l.take (m:Int).toNat ++ List.replicate (l.length - (m:Int).toNat) (Ty.int .i64).zero).length = l.length := by rw [Int.toNat_natCast,List.length_append,List.length_take,List.length_replicate]; omega
       have hcm:∀ nl:List Int,∀ (j:Nat) (x:Int),nl[j]? = some x → ((nl.map (Value.int .i64 ·)).drop (j * 1)).take 1 = [.int .i64 x] := by
        intro nl j x hx
        obtain ⟨hj,rfl⟩ := List.getElem?_eq_some_iff.1 hx
        rw [Nat.mul_one,List.drop_eq_getElem_cons (by rw [List.length_map]; exact hj)]
        simp only [List.take_succ_cons,List.take_zero,List.getElem_map]
       refine ⟨((show List Int from l).take m ++ List.replicate (l.length - m) 0).map (Value.int .i64 ·),⟨by rw [hnll,List.length_map,List.length_append,List.length_take,List.length_replicate]; show _ = l.length * 1; have:(show List Int from l).length = l.length := rfl; omega,.inr ⟨g,cap,cur',by rw [hnll]; exact f1,f2,hsetrow,by rw [hnll]; exact f4,f5,?_,?_⟩⟩,fun q hq => .inl (b2 q hq),?_⟩
       ·show cap * 1 ≤ cur'.size
        rw [hcur',List.size_toArray,List.length_append,List.length_append,List.length_take,List.length_replicate,List.length_drop,hclen]
        omega
       ·rw [hnll,hcur',List.map_append,List.map_take,List.map_replicate,← hvals,← f7,hs1,Nat.mul_one]
        show (cur.toList.take m ++ List.replicate (l.length - m) (Value.int .i64 0) ++ cur.toList.drop (m + (l.length - m))).take l.length = _
        rw [List.take_take,Nat.min_eq_left (by omega),List.take_left' (by rw [List.length_append,List.length_take,List.length_replicate,hclen]; omega)]
       ·split
        ·exact ⟨fun _ _ => False,fun _ _ h => h.elim,fun _ _ _ h => h.elim,fun j x hx => hcm _ j x (by rw [← hnl]; exact hx)⟩
        ·exact fun j x hx => hcm _ j x (by rw [← hnl]; exact hx))
    have hss:(s8.set (.R i c) (.r ver none)).set (.R i c) (.r ver (some (⟨false,zz,d0,el,.int .i64,l.take (m:Int).toNat ++ List.replicate (l.length - (m:Int).toNat) (Ty.int .i64).zero⟩:Row))) = s8.set (.R i c) (.r ver (some (⟨false,zz,d0,el,.int .i64,l.take (m:Int).toNat ++ List.replicate (l.length - (m:Int).toNat) (Ty.int .i64).zero⟩:Row))) := by
     funext l
     simp only [St.set]
     split <;> rfl
    rw [hss] at h'
    -- the move
    unfold wpList
    rw [if_pos (by simp [Region.wanted,g1])]
    refine .inl (wp_value (v := .int k (m:Int)) (w' := w) (by simp only [execOp,e1,Act.eval,hky,Sem.run_pure]) ?_)
    rw [e2]
    show wpList P ops Q (om :: o2 :: rest) (a.put (some d') (.int k (m:Int))) w
    -- the slice
    unfold wpList
    rw [if_pos (by simp [Region.wanted,g2])]
    have hd0:d' < a.tmps.size := by rw [h.size]; exact (hd d' e2).1
    have ha0:a0 < a.tmps.size := by rw [h.size]; exact (hdm a0 e4).1
    have hx1:(a.put (some d') (.int k (m:Int))).eval (.tmp xr) = .slice (some ⟨g,0,none⟩) l.length cap := by
     rw [← f1,← hsv]
     simp only [Act.eval,Act.put,Array.getD_eq_getD_getElem?,Array.getElem?_setIfInBounds]
     rw [if_neg (fun e => hxd e.symm)]
    have hd1:(a.put (some d') (.int k (m:Int))).eval (.tmp d') = .int k (m:Int) := by simp [Act.eval,Act.put,Array.getD_eq_getD_getElem?,Array.getElem?_setIfInBounds,hd0]
    have hrun:(execOp (a.put (some d') (.int k (m:Int))).eval om).run P w = .ok (.value (.slice (some ⟨g,m,none⟩) (l.length - m) (cap - m))) w := by
     have hb:∀ isS,_ := fun isS => run_sliceBounds (P := P) (w := w) (a := a.put (some d') (.int k (m:Int))) (isS := isS) (len := l.length) (cap := cap) (hn := l.length) (ln := m) (lo := some (.tmp d')) (hi := none) f4 (.inl ⟨rfl,rfl⟩) (.inr ⟨_,k,m,rfl,hd1,by omega,by omega,by simp⟩)
     simp only [Option.map_none,Option.map_some] at hb
     simp only [execOp,e3,hx1,Option.map_none,Option.map_some,Instr.sliceAt,Instr.slice,Sem.run_bind,run_underlying hte,Result.andThen_ok,hb,run_sizeOf hei,Sem.run_pure]
     rw [if_neg (by omega:¬ cap = m),hes1]
     simp [Addr.add]
     exact fun e => e.symm
    refine .inl (wp_value hrun ?_)
    rw [e4]
    show wpList P ops Q (o2 :: rest) ((a.put (some d') (.int k (m:Int))).put (some a0) (.slice (some ⟨g,m,none⟩) (l.length - m) (cap - m))) w
    -- the call
    unfold wpList
    rw [if_pos (by simp [Region.wanted,g3])]
    have hv0:((a.put (some d') (.int k (m:Int))).put (some a0) (.slice (some ⟨g,m,none⟩) (l.length - m) (cap - m))).eval (.tmp a0) = .slice (some ⟨g,m,none⟩) (l.length - m) (cap - m) := by
     simp [Act.eval,Act.put,Array.getD_eq_getD_getElem?,Array.getElem?_setIfInBounds,ha0]
    generalize hsl:(Value.slice (some ⟨g,m,none⟩) (l.length - m) (cap - m)) = sl at hcl hv0
    have hargs':args = #[.tmp a0] := by cases args; simp_all
    have hats':ats = #[t'] := by cases ats; simp_all
    refine .inl (wp_value (v := .tuple #[]) (w' := w.setRow g cur') ?_ ?_)
    ·simp only [execOp,e5,resolve,Sem.run_bind,Sem.run_pure,Result.andThen_ok,invoke,builtin,hargs',hats']
     simp [hv0,hcl]
    rw [e6]
    have r1 := put_run (r := .val false [.int k (m:Int)]) h' hd (by rw [e2]; exact k8) (v := .int k (m:Int)) (VRep_one.2 rfl)
    have r2 := put_run (r := one .undef) r1 hdm (by rw [e4]; exact k9) (v := sl) (VRep_one.2 trivial)
    rw [e2,e4] at r2
    exact hK _ _ _ r2
   ·cases t10
  ·cases hr
 ·cases hr
end
section
variable {G:Beg} {s s' s1:St} {a:Act} {w w':World} {W W' W1:Wit} {P:Program} {E:Env}
def TFact (a:Act) (w:World) (W:Wit) (K:Tk) (kb:List Nat) (p:Pl×LV):Prop := ∃ i g cs,p = (.T i,.t (.val g cs)) ∧ VRep (headX a w W K kb) (.val g cs) (a.tmps.getD i undef)
def BFact (a:Act) (w:World) (W:Wit) (K:Tk) (kb:List Nat) (p:Pl×LV):Prop := ∃ i fz cs,p = (.B i,.b 0 fz cs) ∧ (cs ≠ [] → (W.ad i).spot = none ∧
  (if fz then (headX a w W K kb).S (W.ad i).block else headω W K kb (W.ad i).block = some (.B i) ∧ ∃ cells el,w.heap[(W.ad i).block]? = some (.cells cells el (0,0))) ∧
  ∀ (j:Nat) (c:Cell),cs[j]? = some c → ∃ v,w.cell? ((W.ad i).add j) = some v ∧ v.oneCell' = true ∧ CRep (headX a w W K kb) c v)
def Fact (a:Act) (w:World) (W:Wit) (K:Tk) (kb:List Nat) (p:Pl×LV):Prop := TFact a w W K kb p ∨ BFact a w W K kb p ∨ RowFact a w W K kb p
theorem canonT_ok (h:Rel G s a w W) (K:Tk) (kb:List Nat) (l:List (Nat×Bool)):∀ (tk:Tk),(∀ x b d,look (canonT s l tk).2 x b = some d → look K x b = some d) →
  (∀ p,p ∈ (canonT s l tk).1 → Fact a w W K kb p) ∧ ∀ x b d,look tk x b = some d → look (canonT s l tk).2 x b = some d := by
 induction l with
 | nil => intro tk _; exact ⟨by simp [canonT],fun _ _ _ h => h⟩
 | cons e l ih =>
  obtain ⟨i,sh⟩ := e
  intro tk hK
  unfold canonT at hK ⊢
  split at hK
  ·rename_i g cs hi
   dsimp only at hK ⊢
   obtain ⟨vs,h1,h2,h3⟩ := h.T i _ hi
   obtain ⟨k1,k2⟩ := ih (canonCs s sh i 0 cs tk).2.2 hK
   obtain ⟨l1,l2,l3⟩ := canonCs_ok h K kb (sh := sh) (i := i) cs 0 vs tk h1 (fun j u hu ho => by
    unfold headsv
    rw [if_pos (by omega),show (0 + 2 * j) / 2 = j by omega,h2]
    cases g with
    | true => simp [valCells,hu]
    | false =>
     have:vs.length = 1 := by rw [← h1.length]; exact h3 rfl
     obtain ⟨u',rfl⟩ := List.length_eq_one_iff.1 this
     cases j with
     | succ j => simp at hu
     | zero =>
      simp at hu
      subst hu
      cases u' <;> first | rfl | cases ho) (fun x b d e => hK x b d (k2 x b d e))
   refine ⟨fun p hp => ?_,fun x b d e => k2 x b d (l3 x b d e)⟩
   rcases List.mem_cons.1 hp with rfl | hp
   ·refine .inl ⟨i,g,_,rfl,vs,l1,h2,fun e => ?_⟩
    rw [l1.length,← h1.length]
    exact h3 e
   ·rcases List.mem_append.1 hp with hp | hp
    ·exact .inr (.inr (l2 p hp))
    ·exact k1 p hp
  ·exact ih tk hK
theorem canonB_ok (h:Rel G s a w W) (K:Tk) (kb:List Nat) (l:List (Nat×Bool)):∀ (tk:Tk),(∀ e,e ∈ l → e.1 ∈ kb) → (∀ x b d,look (canonB s l tk).2 x b = some d → look K x b = some d) →
  (∀ p,p ∈ (canonB s l tk).1 → Fact a w W K kb p) ∧ ∀ x b d,look tk x b = some d → look (canonB s l tk).2 x b = some d := by
 induction l with
 | nil => intro tk _ _; exact ⟨by simp [canonB],fun _ _ _ h => h⟩
 | cons e l ih =>
  obtain ⟨i,sh⟩ := e
  intro tk hkb hK
  unfold canonB at hK ⊢
  split at hK
  ·rename_i ver fz cs hi
   dsimp only at hK ⊢
   obtain ⟨k1,k2⟩ := ih (canonCs s sh i 1 cs tk).2.2 (fun e he => hkb e (List.mem_cons_of_mem _ he)) hK
   by_cases hne:cs = []
   ·subst hne
    refine ⟨fun p hp => ?_,fun x b d e => k2 x b d (by simpa [canonCs] using e)⟩
    rcases List.mem_cons.1 hp with rfl | hp
    ·exact .inr (.inl ⟨i,fz,_,rfl,fun e => absurd rfl e⟩)
    ·rcases List.mem_append.1 hp with hp | hp
     ·simp [canonCs] at hp
     ·exact k1 p hp
   ·obtain ⟨g,o,vs,hg,hl,hr,ho,hx⟩ := box_vals h hi hne
    obtain ⟨b1,b2,_⟩ := h.B i ver fz cs hi hne
    obtain ⟨l1,l2,l3⟩ := canonCs_ok h K kb (sh := sh) (i := i) cs 1 vs tk hr (fun j u hu _ => by
     unfold headsv
     rw [if_neg (by omega),show (1 + 2 * j) / 2 = j by omega,hg,Addr.add_mid,hx j u hu]
     rfl) (fun x b d e => hK x b d (k2 x b d e))
    refine ⟨fun p hp => ?_,fun x b d e => k2 x b d (l3 x b d e)⟩
    rcases List.mem_cons.1 hp with rfl | hp
    ·refine .inr (.inl ⟨i,fz,_,rfl,fun _ => ⟨b1,?_,fun j c hj => ?_⟩⟩)
     ·cases fz with
      | true => exact headS K kb b2
      | false =>
       obtain ⟨b3,b4⟩ := b2
       refine ⟨?_,b4⟩
       unfold headω
       rw [b3]
       simp only
       rw [if_pos (hkb (i,sh) (List.mem_cons_self ..))]
     ·obtain ⟨v,e1,e2⟩ := l1.get hj
      exact ⟨v,by rw [hg,Addr.add_mid]; exact hx j v e1,ho v (List.mem_of_getElem? e1),e2⟩
    ·rcases List.mem_append.1 hp with hp | hp
     ·exact .inr (.inr (l2 p hp))
     ·exact k1 p hp
  ·exact ih tk (fun e he => hkb e (List.mem_cons_of_mem _ he)) hK
theorem of_spec:∀ (L:List (Pl×LV)) (p:Pl),(p,St.of L p) ∈ L ∨ St.of L p = St.zero p
 | [],p => .inr rfl
 | (l,v) :: r,p => by
  show (p,((St.of r).set l v) p) ∈ _ ∨ ((St.of r).set l v) p = _
  by_cases e:p = l
  ·subst e; rw [St.set_same]; exact .inl (List.mem_cons_self ..)
  ·rw [St.set_ne _ _ e]
   rcases of_spec r p with h | h
   ·exact .inl (List.mem_cons_of_mem _ h)
   ·exact .inr h
theorem of_rel (h:Rel G s a w W) (K:Tk) (kb:List Nat) {L:List (Pl×LV)} (hL:∀ p,p ∈ L → Fact a w W K kb p):Rel G (St.of L) a w (headW a w W K kb) := by
 have hb:bvOf (St.of L) = fun _ => 0 := by
  funext b
  unfold bvOf
  rcases of_spec L (.B b) with h1 | h1
  ·rcases hL _ h1 with ⟨i,g,cs,e,_⟩ | ⟨i,fz,cs,e,_⟩ | ⟨i,c,row,e,_⟩
   ·injection e with e _; cases e
   ·injection e with _ e; rw [e]
   ·injection e with e _; cases e
  ·rw [h1]; rfl
 have hrv:rvOf (St.of L) = fun _ _ => 0 := by
  funext i c
  unfold rvOf
  rcases of_spec L (.R i c) with h1 | h1
  ·rcases hL _ h1 with ⟨i,g,cs,e,_⟩ | ⟨i,fz,cs,e,_⟩ | ⟨i,c,row,e,_⟩
   ·injection e with e _; cases e
   ·injection e with e _; cases e
   ·injection e with _ e; rw [e]
  ·rw [h1]; rfl
 have hX:ctx (St.of L) w (headW a w W K kb) = headX a w W K kb := by
  unfold ctx headX headW
  rw [hb,hrv]
 refine ⟨h.size,h.defers,h.fix,fun i b hi => ?_,?_,?_,?_,?_,h.os,h.tape,h.output,h.grow,?_⟩
 ·rcases of_spec L (.K i) with h1 | h1
  ·rw [hi] at h1
   rcases hL _ h1 with ⟨i,g,cs,e,_⟩ | ⟨i,fz,cs,e,_⟩ | ⟨i,c,row,e,_⟩ <;> (injection e with e _; cases e)
  ·rw [hi] at h1
   injection h1 with h1
   cases h1
 ·intro i rv hi
  rw [hX]
  rcases of_spec L (.T i) with h1 | h1
  ·rw [hi] at h1
   rcases hL _ h1 with ⟨i,g,cs,e,hf⟩ | ⟨i,fz,cs,e,_⟩ | ⟨i,c,row,e,_⟩
   ·injection e with e1 e2
    injection e1 with e1
    injection e2 with e2
    subst e1 e2
    exact hf
   ·injection e with e _; cases e
   ·injection e with e _; cases e
  ·rw [hi] at h1
   injection h1 with h1
   subst h1
   exact VRep_one.2 trivial
 ·intro b ver fz cs hi hne
  rw [hX]
  rcases of_spec L (.B b) with h1 | h1
  ·rw [hi] at h1
   rcases hL _ h1 with ⟨i,g,cs,e,hf⟩ | ⟨i,fz,cs,e,hf⟩ | ⟨i,c,row,e,_⟩
   ·injection e with e _; cases e
   ·injection e with e1 e2
    injection e1 with e1
    injection e2 with e2 e3 e4
    subst e1 e3 e4
    exact hf hne
   ·injection e with e _; cases e
  ·rw [hi] at h1
   injection h1 with _ _ h1
   exact absurd h1 hne
 ·intro i c ver r hi
  rw [hX]
  rcases of_spec L (.R i c) with h1 | h1
  ·rw [hi] at h1
   rcases hL _ h1 with ⟨i,g,cs,e,hf⟩ | ⟨i,fz,cs,e,hf⟩ | ⟨i,c,row,e,hf⟩
   ·injection e with e _; cases e
   ·injection e with e _; cases e
   ·injection e with e1 e2
    injection e1 with e1 e3
    injection e2 with e2 e4
    injection e4 with e4
    subst e1 e3 e4
    exact hf
  ·rw [hi] at h1
   injection h1 with _ h1
   cases h1
 ·intro g hg
  apply h.lt g
  intro e
  apply hg
  show headω W K kb g = none
  unfold headω
  rw [e]
 ·intro g hg hO
  obtain ⟨h1,h2⟩ := h.old g hg hO
  refine ⟨?_,h2⟩
  rcases h1 with ⟨k1,k2⟩ | ⟨k1,k2⟩
  ·left; refine ⟨k1,?_⟩; show headω W K kb g = none; unfold headω; rw [k2]
  ·right; refine ⟨k1,?_⟩; show headω W K kb g = some .F; unfold headω; rw [k2]
theorem canonOf_ok (h:Rel G s a w W) (kt kb0:List (Nat×Bool)):∃ W',Rel G (St.of (canonOf kt kb0 s)) a w W' := by
 let kb := kb0.map (·.1)
 let K := (canonB s kb0 (canonT s kt []).2).2
 obtain ⟨b1,b2⟩ := canonB_ok h K kb kb0 (canonT s kt []).2 (fun e he => List.mem_map.2 ⟨e,he,rfl⟩) (fun _ _ _ h => h)
 obtain ⟨t1,_⟩ := canonT_ok h K kb kt [] (fun x b d e => b2 x b d e)
 refine ⟨_,of_rel h K kb (fun p hp => ?_)⟩
 rcases List.mem_append.1 hp with hp | hp
 ·exact t1 p hp
 ·exact b1 p hp
theorem canon_ok (h:Rel G s a w W) (E:Env) (id:Nat):∃ W',Rel G (St.of (canon E id s)) a w W' := canonOf_ok h _ _
def exOf:Ex → Exit
 | .normal => .normal
 | .exit id => .exit id
 | .ret => .ret
def regionsOf:Code → List (Array Oper)
 | .region _ ops _ => [ops]
 | .seq x y => regionsOf x ++ regionsOf y
 | .cond _ x y => regionsOf x ++ regionsOf y
 | .block _ c => regionsOf c
 | .loop c => regionsOf c
 | _ => []
def DstOk (G:Beg) (c:Code):Prop := ∀ ops,ops ∈ regionsOf c → ∀ o,o ∈ ops.toList → ∀ x,o.dst = some x → G.may x
theorem ops_ok (hE:Good P E) {LT:Nat → Code → List (Pl×LV) → Ex → List (Pl×LV) → Prop} {α:Type} {r:α} {ops:Array Oper} {k:St → Tr α} {Q:Exit → Act → World → Prop} (l:List Oper):∀ (s:St) (a:Act) (w:World) (W:Wit),(∀ o,o ∈ l → ∀ x,o.dst = some x → G.may x) → (runOps E ops l s k).To E LT r → Rel G s a w W →
  (∀ s' a' w' W',Rel G s' a' w' W' → (k s').To E LT r → Q .normal a' w') → wpList P ops Q l a w := by
 induction l with
 | nil => intro s a w W _ hr h hQ; exact hQ _ _ _ _ h hr
 | cons o l ih =>
  intro s a w W hd hr h hQ
  obtain ⟨_,s1,h1,h2⟩ := tr_run hr
  unfold wpList
  exact step_ok hE (hd o (List.mem_cons_self ..)) h1 h (fun a' w' W' h' => ih s1 a' w' W' (fun o ho => hd o (List.mem_cons_of_mem _ ho)) h2 h' hQ)
theorem opsN_ok (hE:Good P E) {LT:Nat → Code → List (Pl×LV) → Ex → List (Pl×LV) → Prop} {α:Type} {r:α} {ops:Array Oper} {k:St → Tr α} {Q:Exit → Act → World → Prop}:∀ (n:Nat) (l:List Oper),l.length ≤ n → ∀ (s:St) (a:Act) (w:World) (W:Wit),(∀ o,o ∈ l → ∀ x,o.dst = some x → G.may x) → (runOpsN E ops l s k).To E LT r → Rel G s a w W →
  (∀ s' a' w' W',Rel G s' a' w' W' → (k s').To E LT r → Q .normal a' w') → wpList P ops Q l a w := by
 intro n
 induction n with
 | zero =>
  intro l hl s a w W hd hr h hQ
  have:l = [] := List.length_eq_zero_iff.1 (by omega)
  subst this
  exact hQ _ _ _ _ h hr
 | succ n ih =>
  intro l hl s a w W hd hr h hQ
  match l,hl,hd,hr with
  | [],_,_,hr => exact hQ _ _ _ _ h hr
  | [o],_,hd,hr =>
   obtain ⟨_,s1,h1,h2⟩ := tr_run hr
   unfold wpList
   exact step_ok hE (hd o (by simp)) h1 h (fun a' w' W' h' => hQ _ _ _ _ h' h2)
  | [o,o2],_,hd,hr =>
   obtain ⟨_,s1,h1,h2⟩ := tr_run hr
   unfold wpList
   refine step_ok hE (hd o (by simp)) h1 h (fun a' w' W' h' => ?_)
   obtain ⟨_,s2,h3,h4⟩ := tr_run h2
   unfold wpList
   exact step_ok hE (hd o2 (by simp)) h3 h' (fun a' w' W' h' => hQ _ _ _ _ h' h4)
  | o :: om :: o2 :: l,hl,hd,hr =>
   have hr:(bif o.dst.any E.nest.contains then (Prg.nestP E o om o2).tr s fun _ s => runOpsN E ops l s k else (Prg.stepP E ops o).tr s fun _ s => runOpsN E ops (om :: o2 :: l) s k).To E LT r := hr
   cases hb:o.dst.any E.nest.contains
   ·rw [hb,cond_false] at hr
    obtain ⟨_,s1,h1,h2⟩ := tr_run hr
    unfold wpList
    exact step_ok hE (hd o (by simp)) h1 h (fun a' w' W' h' => ih (om :: o2 :: l) (by simp only [List.length_cons] at hl ⊢; omega) s1 a' w' W' (fun o ho => hd o (List.mem_cons_of_mem _ ho)) h2 h' hQ)
   ·rw [hb,cond_true] at hr
    obtain ⟨_,s1,h1,h2⟩ := tr_run hr
    exact ok_nest hE (hd o (by simp)) (hd om (by simp)) (hd o2 (by simp)) h1 h (fun a' w' W' h' => ih l (by simp only [List.length_cons] at hl; omega) s1 a' w' W' (fun o ho => hd o (by simp [ho])) h2 h' hQ)
theorem opsA_runs {LT:Nat → Code → List (Pl×LV) → Ex → List (Pl×LV) → Prop} {α:Type} {r:α} {ops:Array Oper} {fps:List (List Pl×List Pl)} {k:St → Tr α} (l:List Oper):∀ (fs:List (List Pl×List Pl)) (m:Nat) (s:St),(∀ j,l[j]? = ops[m + j]?) → (∀ j,fs[j]? = fps[m + j]?) → (runOpsA E ops l fs s k).To E LT r →
  ∃ s',runsI E ops fps (List.range' m l.length) s = some s' ∧ (k s').To E LT r := by
 induction l with
 | nil => intro fs m s _ _ hr; exact ⟨s,rfl,by cases fs <;> exact hr⟩
 | cons o l ih =>
  intro fs m s hl hf hr
  cases fs with
  | nil => exact hr.elim
  | cons f fs =>
   obtain ⟨_,s1,h1,h2⟩ := tr_run hr
   obtain ⟨s',h3,h4⟩ := ih fs (m + 1) s1 (fun j => by have := hl (j + 1); rw [show m + 1 + j = m + (j + 1) by omega]; simpa using this) (fun j => by have := hf (j + 1); rw [show m + 1 + j = m + (j + 1) by omega]; simpa using this) h2
   refine ⟨s',?_,h4⟩
   rw [List.length_cons,List.range'_succ]
   show ((stepI E ops fps m).run s).bind _ = _
   have e1:ops[m]? = some o := by simpa using (hl 0).symm
   have e2:fps[m]? = some f := by simpa using (hf 0).symm
   unfold stepI
   rw [e1,e2]
   simp only
   rw [h1]
   exact h3
theorem least {p:Nat → Prop} (h:∃ m,p m):∃ m,p m ∧ ∀ k,p k → m ≤ k := by
 obtain ⟨m,hm⟩ := h
 induction m using Nat.strongRecOn with
 | _ m ih =>
  by_cases hk:∃ k,k < m ∧ p k
  ·obtain ⟨k,k1,k2⟩ := hk; exact ih k k1 k2
  ·exact ⟨m,hm,fun k hp => Nat.le_of_not_lt (fun e => hk ⟨k,e,hp⟩)⟩
def LoopOk (P:Program) (G:Beg) (LT:Nat → Code → List (Pl×LV) → Ex → List (Pl×LV) → Prop):Prop := ∀ (b:Nat) (c:Code) (h:List (Pl×LV)) (ex:Ex) (h':List (Pl×LV)) (a:Act) (w:World) (W:Wit),DstOk G c → LT b c h ex h' → Rel G (St.of h) a w W →
 ∀ Q:Exit → Act → World → Prop,(∀ a' w' W',Rel G (St.of h') a' w' W' → Q (exOf ex) a' w') → (Code.loop c).wp P Q a w
theorem exec_core (hE:Good P E) (hm:P.follows .mixedOrders = true) {LT:Nat → Code → List (Pl×LV) → Ex → List (Pl×LV) → Prop} (hL:LoopOk P G LT) {α:Type} {r:α} (c:Code):∀ (b:Nat) (s:St) (a:Act) (w:World) (W:Wit) (k:Ex → St → Tr α) (Q:Exit → Act → World → Prop),DstOk G c → (exec E b c s k).To E LT r → Rel G s a w W →
  (∀ ex s' a' w' W',Rel G s' a' w' W' → (k ex s').To E LT r → Q (exOf ex) a' w') → c.wp P Q a w := by
 induction c with
 | skip => intro b s a w W k Q _ hr h hQ; exact wp_skip (hQ .normal s a w W h hr)
 | region id ops draw =>
  intro b s a w W k Q hd hr h hQ
  have hd':∀ o,o ∈ ops.toList → ∀ x,o.dst = some x → G.may x := hd ops (by simp [regionsOf])
  cases draw with
  | false =>
   have hr:(bif nests E ops then runOpsN E ops ops.toList s (k .normal) else runOps E ops ops.toList s (k .normal):Tr α).To E LT r := hr
   cases hn:nests E ops
   ·rw [hn,cond_false] at hr
    exact wp_region_list (ops_ok hE ops.toList s a w W hd' hr h (fun s' a' w' W' h' hk => hQ .normal s' a' w' W' h' hk))
   ·rw [hn,cond_true] at hr
    exact wp_region_list (opsN_ok hE _ ops.toList (Nat.le_refl _) s a w W hd' hr h (fun s' a' w' W' h' hk => hQ .normal s' a' w' W' h' hk))
  | true =>
   have hr:(if drawOk ops.toList (logOps E ops ops.toList s) then runOpsA E ops ops.toList (logOps E ops ops.toList s) s (k .normal) else .fail:Tr α).To E LT r := hr
   split at hr
   ·rename_i hdr
    have D := drawOk_spec hdr
    obtain ⟨s',h1,h2⟩ := opsA_runs (ops := ops) (fps := logOps E ops ops.toList s) ops.toList (logOps E ops ops.toList s) 0 s (fun j => by simp) (fun j => by simp) hr
    refine wp_region_any hm (any_ok hE D hd' (sE := s') (fun a' w' W' h' => hQ .normal s' a' w' W' h' h2) ops.size _ s a _ W (by simp) ?_ ?_ ?_ h.drew)
    ·exact Nat.le_trans (List.length_filter_le _ _) (by simp)
    ·intro i o ho hl
     rw [Array.getD_eq_getD_getElem?,Array.getElem?_replicate] at hl
     split at hl <;> simp at hl
    ·have:rest ops.size (Array.replicate ops.size false) = List.range' 0 ops.toList.length := by
      unfold rest
      rw [List.filter_eq_self.2 (fun i hi => by
       simp only [List.mem_range] at hi
       rw [Array.getD_eq_getD_getElem?,Array.getElem?_replicate,if_pos hi]
       rfl),List.range_eq_range',Array.length_toList]
     rw [this]
     exact h1
   ·exact hr.elim
 | seq x y ihx ihy =>
  intro b s a w W k Q hd hr h hQ
  refine wp_seq (ihx b s a w W _ _ (fun ops ho => hd ops (List.mem_append_left _ ho)) hr h (fun ex s' a' w' W' h' hk => ?_))
  cases ex with
  | normal => exact ihy b s' a' w' W' k Q (fun ops ho => hd ops (List.mem_append_right _ ho)) hk h' hQ
  | exit id => exact hQ (.exit id) s' a' w' W' h' hk
  | ret => exact hQ .ret s' a' w' W' h' hk
 | cond c x y ihx ihy =>
  intro b s a w W k Q hd hr h hQ
  cases c with
  | tmp c =>
   have hr:(match s (.K c) with
    | .k (some (some true)) => exec E b x s k
    | .k (some (some false)) => exec E b y s k
    | _ => match s (.T c) with
     | .t (.val false [.bool t]) => .br t (exec E b x s k) (exec E b y s k)
     | _ => .fail:Tr α).To E LT r := hr
   split at hr
   ·rename_i hs
    exact wp_cond (t := true) (h.K c (some true) hs) (ihx b s a w W k Q (fun ops ho => hd ops (List.mem_append_left _ ho)) hr h hQ)
   ·rename_i hs
    exact wp_cond (t := false) (h.K c (some false) hs) (ihy b s a w W k Q (fun ops ho => hd ops (List.mem_append_right _ ho)) hr h hQ)
   split at hr
   ·rename_i t hs
    have hv:a.eval (.tmp c) = .bool t := VRep_one.1 (h.T c _ hs)
    refine wp_cond hv ?_
    rcases hr with ⟨ht,hr⟩ | ⟨ht,hr⟩
    ·subst ht
     exact ihx b s a w W k Q (fun ops ho => hd ops (List.mem_append_left _ ho)) hr h hQ
    ·subst ht
     exact ihy b s a w W k Q (fun ops ho => hd ops (List.mem_append_right _ ho)) hr h hQ
   ·exact hr.elim
  | const v => exact hr.elim
  | func f => exact hr.elim
  | global g => exact hr.elim
 | block id c ih =>
  intro b s a w W k Q hd hr h hQ
  refine wp_block (ih id s a w W _ _ hd hr h (fun ex s' a' w' W' h' hk => ?_))
  cases ex with
  | normal => exact hQ .normal s' a' w' W' h' hk
  | ret => exact hQ .ret s' a' w' W' h' hk
  | exit id' =>
   show if id' = id then Q .normal a' w' else Q (.exit id') a' w'
   have hk:(if id' = id then k .normal s' else k (.exit id') s':Tr α).To E LT r := hk
   split at hk
   ·rename_i e; rw [if_pos e]; exact hQ .normal s' a' w' W' h' hk
   ·rename_i e; rw [if_neg e]; exact hQ (.exit id') s' a' w' W' h' hk
 | loop c ih =>
  intro b s a w W k Q hd hr h hQ
  obtain ⟨ex,h2,hl,hk⟩ := hr
  obtain ⟨W',h'⟩ := canon_ok h E b
  exact hL b c _ ex h2 a w W' hd hl h' Q (fun a' w' W' h' => hQ ex (St.of h2) a' w' W' h' hk)
 | exit id => intro b s a w W k Q _ hr h hQ; exact wp_exit (hQ (.exit id) s a w W h hr)
 | ret => intro b s a w W k Q _ hr h hQ; exact wp_ret (hQ .ret s a w W h hr)
 | _ => intro b s a w W k Q _ hr; exact hr.elim
theorem loops_ok (hE:Good P E) (hm:P.follows .mixedOrders = true) (n:Nat):LoopOk P G (LT E n) := by
 induction n with
 | zero => intro b c h ex s' a w W _ hl; exact hl.elim
 | succ n ihn =>
  intro b c h ex s' a w W hd hl hR Q hQ
  let J:Act → World → Nat → Prop := fun a w m => ∃ h W,Rounds E (LT E n) m b c h ex s' ∧ Rel G (St.of h) a w W
  classical
  let μ:Act → World → Nat := fun a w => if hx:∃ m,J a w m then (least hx).choose else 0
  have hμ:∀ a w,(∃ m,J a w m) → J a w (μ a w) ∧ ∀ k,J a w k → μ a w ≤ k := by
   intro a w hx
   have := (least hx).choose_spec
   have e:μ a w = (least hx).choose := by show (if hx:_ then _ else _) = _; rw [dif_pos hx]
   rw [e]
   exact this
  obtain ⟨m,hl⟩ := hl
  refine wp_loop (fun a w => ∃ m,J a w m) μ ⟨m,h,W,hl,hR⟩ (fun a w hx => ?_)
  obtain ⟨⟨h,W,hl,hR⟩,_⟩ := hμ a w hx
  generalize hmm:μ a w = m at *
  cases m with
  | zero => exact hl.elim
  | succ m =>
   rcases hl with hl | ⟨h',hl,hrest⟩
   ·refine exec_core hE hm ihn c b (St.of h) a w W _ _ hd hl hR (fun ex1 s1 a1 w1 W1 h1 hk => ?_)
    cases ex1 with
    | normal => cases hk
    | exit id =>
     injection hk with e1 e2
     subst e1
     obtain ⟨W2,h2⟩ := canonOf_ok h1 (E.keepX b) (E.keepXB b)
     exact hQ a1 w1 W2 (by rw [← e2]; exact h2)
    | ret =>
     injection hk with e1 e2
     subst e1
     obtain ⟨W2,h2⟩ := canonOf_ok h1 (E.keepX b) (E.keepXB b)
     exact hQ a1 w1 W2 (by rw [← e2]; exact h2)
   ·refine exec_core hE hm ihn c b (St.of h) a w W _ _ hd hl hR (fun ex1 s1 a1 w1 W1 h1 hk => ?_)
    cases ex1 with
    | normal =>
     injection hk with e1
     obtain ⟨W2,h2⟩ := canon_ok h1 E b
     rw [e1] at h2
     have hJ:J a1 w1 m := ⟨h',W2,hrest,h2⟩
     exact ⟨⟨m,hJ⟩,by have := (hμ a1 w1 ⟨m,hJ⟩).2 m hJ; omega⟩
    | exit id => cases hk
    | ret => cases hk
theorem exec_ok (hE:Good P E) (hm:P.follows .mixedOrders = true) (n:Nat) {α:Type} {r:α} (c:Code) (b:Nat) {s:St} {a:Act} {w:World} {W:Wit} {k:Ex → St → Tr α} {Q:Exit → Act → World → Prop} (hd:DstOk G c) (hr:(exec E b c s k).To E (LT E n) r) (h:Rel G s a w W)
  (hQ:∀ ex s' a' w' W',Rel G s' a' w' W' → (k ex s').To E (LT E n) r → Q (exOf ex) a' w'):c.wp P Q a w :=
 exec_core hE hm (loops_ok hE hm n) c b s a w W k Q hd hr h hQ
end
section
variable {G:Beg} {s s' s1:St} {a:Act} {w w':World} {W W' W1:Wit} {P:Program} {E:Env}
def resF (tmps:Array Value):ResultVar → Sem Value
 | .tmp t => pure (tmps.getD t undef)
 | .cell a t => do loadVar t (← asAddr (tmps.getD a undef))
def oneOf (vs:List Value):Value := match vs with
 | [v] => v
 | vs => .tuple vs.toArray
theorem results_run {fn:Func} {tmps:Array Value} {vs:List Value} (h:(fn.results.toList.mapM (resF tmps)).run P w = .ok vs w):(results fn tmps).run P w = .ok (oneOf vs) w := by
 have e:results fn tmps = (do let vs ← fn.results.mapM (resF tmps); pure (if h:vs.size = 1 then vs[0] else .tuple vs)) := by
  unfold results
  have:(fun x:ResultVar => (match x with
   | .tmp t => pure (tmps.getD t undef)
   | .cell a t => do loadVar t (← asAddr (tmps.getD a undef)):Sem Value)) = resF tmps := by funext x; cases x <;> rfl
  rw [← this]
  rfl
 rw [e,Array.mapM_eq_mapM_toList]
 simp only [Sem.run_bind,Sem.run_map,h,Result.andThen_ok,Sem.run_pure]
 congr 1
 match vs with
 | [] => rfl
 | [v] => rfl
 | _ :: _ :: _ => simp [oneOf]
structure Outed (s s':St) (w:World) (W:Wit) (χ:Nat → Nat → Prop):Prop where
 away:∀ c g,χ c g → Loose s' W g ∧ ¬ Loose s W g
 apart:∀ c c' g,χ c g → χ c' g → c = c'
 mono:∀ g,Loose s W g → Loose s' W g
 ext:Ext (ctx s w W) (ctx s' w W)
theorem out_take (h:Rel G s a w W) {cs ys zs:List Cell} {us:List Value} {s2:St} (q1:(Prg.mapC Prg.take cs).run s = some (ys,s1)) (q2:(Prg.closedP ys).run s1 = some (zs,s2)) (hv:All2 (CRep (ctx s w W)) cs us) :
  s2 = s1 ∧ Rel G s1 a w W ∧ ∃ χ,BAll w (fun g => g < w.heap.size ∧ W.ω g = none) χ 0 zs us ∧ Outed s s1 w W χ := by
 obtain ⟨rfl,rfl,hc⟩ := closedP_run q2
 obtain ⟨h1,χ,T⟩ := mapC_take cs s _ _ us h q1 hv
 exact ⟨rfl,h1,χ,took_closed T hc,⟨T.loose,T.apart,T.mono,T.ext⟩⟩
theorem resP_run (hE:Good P E) (h:Rel G s a w W) {x:ResultVar} {g:Bool} {cs:List Cell} (hr:(Prg.resP E x).run s = some ((g,cs),s')) :
  ∃ v,(resF a.tmps x).run P w = .ok v w ∧ Rel G s' a w W ∧ ∃ χ us,BAll w (fun g => g < w.heap.size ∧ W.ω g = none) χ 0 cs us ∧ v = valOf g us ∧ (g = false → cs.length = 1) ∧ Outed s s' w W χ := by
 cases x with
 | tmp t =>
  obtain ⟨rv,e1,e2⟩ := getT_run hr
  cases rv with
  | tup us => cases e2
  | val g0 cs0 =>
   obtain ⟨ys,s1,q1,q2⟩ := bind_run e2
   obtain ⟨zs,s2,q3,q4⟩ := bind_run q2
   obtain ⟨e3,rfl⟩ := pure_run q4
   injection e3 with e3 e4
   subst e3 e4
   obtain ⟨us,h1,h2,h3⟩ := h.T t _ e1
   obtain ⟨rfl,k1,χ,k2,k3⟩ := out_take h q1 q3 h1
   refine ⟨_,rfl,k1,χ,us,k2,h2,fun e => ?_,k3⟩
   rw [k2.2.length,← h1.length]
   exact h3 e
 | cell b t =>
  obtain ⟨c,s1,q1,q2⟩ := bind_run hr
  obtain ⟨rfl,hc⟩ := evC_run h q1
  obtain ⟨ti,s2,q3,q4⟩ := bind_run q2
  obtain ⟨rfl,hti⟩ := tt_ti hE.tt q3
  have hpos:0 < ti.size := hti.pos
  split at q4
  ·rename_i b' ver off
   obtain ⟨fz,cs0,g1,g2⟩ := getB_run q4
   obtain ⟨sc,s3,q5,q6⟩ := bind_run g2
   obtain ⟨rfl,hl,rfl⟩ := sub_run q5
   obtain ⟨ys,s4,q7,q8⟩ := bind_run q6
   obtain ⟨zs,s5,q9,q10⟩ := bind_run q8
   obtain ⟨e3,rfl⟩ := pure_run q10
   injection e3 with e3 e4
   subst e3 e4
   obtain ⟨g0,ob,vs,had,hvl,hv,_,hrange⟩ := box_vals h g1 (by rintro rfl; simp at hl; omega)
   obtain ⟨l1,l2⟩ := load_rep hti hv hl
   have hx := hc.2.2 (by simp [ctx,bvOf,g1])
   rw [show (ctx _ w W).ad b' = _ from had,Addr.add_mid] at hx
   obtain ⟨us,h1,h2,h3⟩ := l2
   obtain ⟨rfl,k1,χ,k2,k3⟩ := out_take h q7 q9 h1
   refine ⟨_,?_,k1,χ,us,k2,h2,fun e => ?_,k3⟩
   ·have hx:a.tmps.getD b undef = .pointer (some ⟨g0,ob + off,none⟩) := hx
    simp only [resF,hx,asAddr,Sem.run_bind,Sem.run_pure,Result.andThen_ok]
    exact run_loadVar hti l1 (rangeAt_part hrange)
   ·rw [k2.2.length,← h1.length]
    exact h3 e
  ·cases q4
end
section
variable {G:Beg} {s s' s1 s2:St} {a:Act} {w w':World} {W W' W1:Wit} {P:Program} {E:Env}
def SN (w:World) (W:Wit):Nat → Prop := fun g => g < w.heap.size ∧ W.ω g = none
theorem TupRep.mono {S:Nat → Prop} {χ χ':Nat → Nat → Prop}:∀ {us:List (Bool×List Cell)} {vs:List Value} {k:Nat},(∀ c,k ≤ c → χ c = χ' c) → TupRep w S χ k us vs → TupRep w S χ' k us vs
 | [],[],_,_,_ => trivial
 | [],_ :: _,_,_,h => h.elim
 | _ :: _,[],_,_,h => h.elim
 | u :: us,v :: vs,k,he,h => by
  obtain ⟨⟨ws,⟨h1,h2⟩,h3⟩,h4⟩ := h
  exact ⟨⟨ws,⟨h1,FAll.closed (X := bare w S) (fun g hg => ⟨hg,rfl⟩) _ _ _ _ (fun j g _ hg => ⟨by rw [← he (k + j) (by omega)]; exact hg,rfl⟩) h1 h2⟩,h3⟩,TupRep.mono (fun c hc => he c (by omega)) h4⟩
theorem Outed.refl:Outed s s w W (fun _ _ => False) := ⟨fun _ _ h => h.elim,fun _ _ _ h => h.elim,fun _ h => h,Ext.refl _⟩
theorem resPs_run (hE:Good P E) (rs:List ResultVar):∀ (k:Nat) (s s':St) (us:List (Bool×List Cell)),Rel G s a w W → (Prg.resPs E rs).run s = some (us,s') →
  ∃ vs,(rs.mapM (resF a.tmps)).run P w = .ok vs w ∧ Rel G s' a w W ∧ ∃ χ,TupRep w (SN w W) χ k us vs ∧ (∀ c g,χ c g → k ≤ c) ∧ Outed s s' w W χ := by
 induction rs with
 | nil =>
  intro k s s' us h hr
  obtain ⟨rfl,rfl⟩ := pure_run hr
  exact ⟨[],by simp,h,fun _ _ => False,trivial,fun _ _ h => h.elim,Outed.refl⟩
 | cons x rs ih =>
  intro k s s' us h hr
  obtain ⟨⟨g,cs⟩,s1,q1,q2⟩ := bind_run hr
  obtain ⟨us',s2,q3,q4⟩ := bind_run q2
  obtain ⟨rfl,rfl⟩ := pure_run q4
  obtain ⟨v,h1,h2,χ0,ws,h3,h4,h5,O⟩ := resP_run hE h q1
  obtain ⟨vs,k1,k2,χ1,k3,k4,O1⟩ := ih (k + cs.length) s1 _ us' h2 q3
  refine ⟨v :: vs,?_,k2,fun c => if c < k + cs.length then (fun g => k ≤ c ∧ χ0 (c - k) g) else χ1 c,⟨⟨ws,⟨h3.1,?_⟩,h4,h5⟩,?_⟩,?_,?_,?_,fun g hg => O1.mono g (O.mono g hg),O.ext.trans O1.ext⟩
  ·simp only [List.mapM_cons,Sem.run_bind,h1,Result.andThen_ok,k1,Sem.run_pure]
  ·refine FAll.closed (X := bare w (SN w W)) (fun g hg => ⟨hg,rfl⟩) _ _ _ _ (fun j g hj hg => ⟨?_,rfl⟩) h3.1 h3.2
   have hj:j < cs.length := hj
   show (if _ then _ else _:Nat → Prop) g
   rw [if_pos (by omega)]
   exact ⟨by omega,by rw [show k + j - k = j by omega]; rwa [Nat.zero_add] at hg⟩
  ·exact TupRep.mono (fun c hc => by have hc:k + cs.length ≤ c := hc; rw [if_neg (by omega)]) k3
  ·intro c g hg
   have hg:(if _ then _ else _:Nat → Prop) g := hg
   split at hg
   ·exact hg.1
   ·have := k4 c g hg; omega
  ·intro c g hg
   have hg:(if _ then _ else _:Nat → Prop) g := hg
   split at hg
   ·exact ⟨O1.mono g (O.away _ g hg.2).1,(O.away _ g hg.2).2⟩
   ·exact ⟨(O1.away _ g hg).1,fun hn => (O1.away _ g hg).2 (O.mono g hn)⟩
  ·intro c c' g hg hg'
   have hg:(if _ then _ else _:Nat → Prop) g := hg
   have hg':(if _ then _ else _:Nat → Prop) g := hg'
   split at hg
   ·split at hg'
    ·have := O.apart _ _ g hg.2 hg'.2
     have := hg.1
     have := hg'.1
     omega
    ·exact absurd (O.away _ g hg.2).1 (O1.away _ g hg').2
   ·split at hg'
    ·exact absurd (O.away _ g hg'.2).1 (O1.away _ g hg).2
    ·exact O1.apart _ _ g hg hg'
theorem closed_defd {cs:List Cell} (h:cs.all Cell.closed = true):cs.all Cell.defd = true := by
 simp only [List.all_eq_true] at h ⊢
 intro c hc
 have := h c hc
 cases c <;> first | rfl | cases this
theorem outP_run (h:Rel G s a w W) {i:Nat} {m:PM} (hm:m.wr = true) {o:List Cell} (hr:(Prg.outP i m).run s = some (o,s')) :
  Rel G s' a w W ∧ ∃ χ,Outed s s' w W χ ∧ (∀ ψ:Nat → Nat → Prop,(∀ c,ψ (c + 1) = χ c) → (∀ ad,m = .bx → a.tmps.getD i undef = .pointer (some ad) → ψ 0 ad.block) → Out1 w (SN w W) ψ m (a.tmps.getD i undef) o) ∧
   (m = .bx → ∃ ad b,a.tmps.getD i undef = .pointer (some ad) ∧ W.ω ad.block = some (.B b)) := by
 have gen:m ≠ .bx → (Prg.getT i fun
  | .val _ cs => do let s ← Prg.mapC Prg.take cs; let s ← Prg.closedP s; Prg.pure s
  | .tup _ => Prg.fail:Prg (List Cell)).run s = some (o,s') → Rel G s' a w W ∧ ∃ χ,Outed s s' w W χ ∧ (∀ ψ:Nat → Nat → Prop,(∀ c,ψ (c + 1) = χ c) → (∀ ad,m = .bx → a.tmps.getD i undef = .pointer (some ad) → ψ 0 ad.block) → Out1 w (SN w W) ψ m (a.tmps.getD i undef) o) ∧
   (m = .bx → ∃ ad b,a.tmps.getD i undef = .pointer (some ad) ∧ W.ω ad.block = some (.B b)) := by
  intro hmb hr
  obtain ⟨rv,e1,e2⟩ := getT_run hr
  cases rv with
  | tup us => cases e2
  | val g cs =>
   obtain ⟨ys,s1,q1,q2⟩ := bind_run e2
   obtain ⟨zs,s2,q3,q4⟩ := bind_run q2
   obtain ⟨rfl,rfl⟩ := pure_run q4
   obtain ⟨us,h1,h2,h3⟩ := h.T i _ e1
   obtain ⟨rfl,k1,χ,k2,k3⟩ := out_take h q1 q3 h1
   refine ⟨k1,χ,k3,fun ψ hψ _ => ?_,fun e => absurd e hmb⟩
   have hcells:(a.tmps.getD i undef).cells.toList = us := cells_of h2 (fun e => by rw [← h1.length]; exact h3 e) (k2.2.one (closed_defd k2.1))
   have hB:BAll w (SN w W) (fun c => ψ (c + 1)) 0 o (a.tmps.getD i undef).cells.toList := by
    rw [hcells]
    have:(fun c => ψ (c + 1)) = χ := funext hψ
    rw [this]
    exact k2
   cases m <;> first | exact absurd rfl hmb | exact hB
 cases m with
 | bx =>
  obtain ⟨rv,e1,e2⟩ := getT_run hr
  split at e2
  ·rename_i b ver off
   split at e2
   ·rename_i hoff
    subst hoff
    obtain ⟨fz,cs,g1,g2⟩ := getB_run e2
    split at g2
    ·rename_i hc
     obtain ⟨rfl,hne⟩ := hc
     have hne:cs ≠ [] := by rintro rfl; cases hne
     obtain ⟨ys,s1,q1,q2⟩ := bind_run g2
     obtain ⟨zs,s2,q3,q4⟩ := bind_run q2
     obtain ⟨rfl,rfl⟩ := pure_run q4
     obtain ⟨g0,ob,us,hg,hul,hur,huo,hux⟩ := box_vals h g1 hne
     obtain ⟨hsp,⟨hlab,hblk⟩,_⟩ := h.B b ver false cs g1 hne
     obtain ⟨rfl,k1,χ,k2,k3⟩ := out_take h q1 q3 hur
     have hc:CRep (ctx s w W) (.ptr b ver 0) (a.tmps.getD i undef) := GRep_one.1 (h.T i _ e1)
     have hv:a.tmps.getD i undef = .pointer (some (W.ad b)) := by
      have := hc.2.2 (by simp [ctx,bvOf,g1])
      rw [this]
      show Value.pointer (some ((W.ad b).add 0)) = _
      rw [hg,Addr.add_mid]; rfl
     refine ⟨k1,χ,k3,fun ψ hψ h0 => ⟨W.ad b,hv,⟨hsp,us,?_,fun j u hj => ⟨?_,huo u (List.mem_of_getElem? hj)⟩⟩,h0 _ rfl hv,hblk⟩,fun _ => ⟨W.ad b,b,hv,hlab⟩⟩
     ·have:(fun c => ψ (c + 1)) = χ := funext hψ
      rw [this]
      exact k2
     ·rw [hg,Addr.add_mid]; exact hux j u hj
    ·cases g2
   ·cases e2
  ·cases e2
 | «mut» => exact gen (by simp) hr
 | rd => cases hm
 | fz => cases hm
 | own => cases hm
 | bxr => cases hm
theorem OutAll.mono {S:Nat → Prop} {Ψ Ψ':Nat → Nat → Nat → Prop} (ms:List PM):∀ (i:Nat) (vs:List Value) (os:List (List Cell)),(∀ j,i < j → Ψ j = Ψ' j) → OutAll w S Ψ i ms vs os → OutAll w S Ψ' i ms vs os := by
 induction ms with
 | nil => intro i vs os _ h; cases vs <;> exact h
 | cons m ms ih =>
  intro i vs os he h
  cases vs with
  | nil => exact h.elim
  | cons v vs =>
   unfold OutAll at h ⊢
   split
   ·rename_i hm
    rw [if_pos hm] at h
    obtain ⟨o,os',e1,e2,e3⟩ := h
    exact ⟨o,os',e1,by rw [← he (i + 1) (by omega)]; exact e2,ih (i + 1) vs os' (fun j hj => he j (by omega)) e3⟩
   ·rename_i hm
    rw [if_neg hm] at h
    exact ih (i + 1) vs os (fun j hj => he j (by omega)) h
theorem outsP_run (ms:List PM):∀ (i:Nat) (s s':St) (vs:List Value) (os:List (List Cell)),Rel G s a w W → (Prg.outsP i ms).run s = some (os,s') → vs.length = ms.length →
  (∀ (p:Nat) (m:PM) (v:Value),ms[p]? = some m → m.wr = true → vs[p]? = some v → a.tmps.getD (i + p) undef = v) →
  (∀ (p p':Nat) (ad ad':Addr),ms[p]? = some .bx → ms[p']? = some .bx → vs[p]? = some (.pointer (some ad)) → vs[p']? = some (.pointer (some ad')) → ad.block = ad'.block → p = p') →
  ∃ Ψ:Nat → Nat → Nat → Prop,OutAll w (SN w W) Ψ i ms vs os ∧ Rel G s' a w W ∧ Ext (ctx s w W) (ctx s' w W) ∧ (∀ g,Loose s W g → Loose s' W g) ∧ (∀ j c g,Ψ j c g → i < j) ∧
   (∀ j c g,Ψ j (c + 1) g → Loose s' W g ∧ ¬ Loose s W g) ∧ (∀ j g,Ψ j 0 g → ∃ p ad b,j = i + p + 1 ∧ ms[p]? = some .bx ∧ vs[p]? = some (.pointer (some ad)) ∧ g = ad.block ∧ W.ω g = some (.B b)) ∧
   ∀ j c j' c' g,Ψ j c g → Ψ j' c' g → j = j' ∧ c = c' := by
 induction ms with
 | nil =>
  intro i s s' vs os h hr hl _ _
  obtain ⟨rfl,rfl⟩ := pure_run hr
  have:vs = [] := List.length_eq_zero_iff.1 hl
  subst this
  exact ⟨fun _ _ _ => False,rfl,h,Ext.refl _,fun _ h => h,fun _ _ _ h => h.elim,fun _ _ _ h => h.elim,fun _ _ h => h.elim,fun _ _ _ _ _ h => h.elim⟩
 | cons m ms ih =>
  intro i s s' vs os h hr hl hf hb
  cases vs with
  | nil => simp at hl
  | cons v vs =>
   have hl':vs.length = ms.length := by simpa using hl
   have hf':∀ (p:Nat) (m:PM) (v:Value),ms[p]? = some m → m.wr = true → vs[p]? = some v → a.tmps.getD (i + 1 + p) undef = v := fun p m v h1 h2 h3 => by
    rw [show i + 1 + p = i + (p + 1) by omega]
    exact hf (p + 1) m v (by simpa using h1) h2 (by simpa using h3)
   have hb':∀ (p p':Nat) (ad ad':Addr),ms[p]? = some .bx → ms[p']? = some .bx → vs[p]? = some (.pointer (some ad)) → vs[p']? = some (.pointer (some ad')) → ad.block = ad'.block → p = p' := fun p p' ad ad' h1 h2 h3 h4 h5 => by
    have := hb (p + 1) (p' + 1) ad ad' (by simpa using h1) (by simpa using h2) (by simpa using h3) (by simpa using h4) h5
    omega
   unfold Prg.outsP at hr
   split at hr
   ·rename_i hm
    obtain ⟨o,s1,q1,q2⟩ := bind_run hr
    obtain ⟨os',s2,q3,q4⟩ := bind_run q2
    obtain ⟨rfl,rfl⟩ := pure_run q4
    obtain ⟨h1,χ,O,ho,hbox⟩ := outP_run h hm q1
    obtain ⟨Ψ,k1,k2,k3,k4,k5,k6,k7,k8⟩ := ih (i + 1) s1 _ vs os' h1 q3 hl' hf' hb'
    have hv:a.tmps.getD i undef = v := by simpa using hf 0 m v (by simp) hm (by simp)
    rw [hv] at ho hbox
    let ψ:Nat → Nat → Prop := fun c g => match c with
     | 0 => m = .bx ∧ ∃ ad,v = .pointer (some ad) ∧ g = ad.block
     | c + 1 => χ c g
    let Φ:Nat → Nat → Nat → Prop := fun j => if j = i + 1 then ψ else Ψ j
    have hΦi:Φ (i + 1) = ψ := by show (if _ then _ else _) = _; rw [if_pos rfl]
    have hΦn:∀ j,j ≠ i + 1 → Φ j = Ψ j := fun j hj => by show (if _ then _ else _) = _; rw [if_neg hj]
    have hψ0:∀ g,ψ 0 g → ∃ ad b,m = .bx ∧ v = .pointer (some ad) ∧ g = ad.block ∧ W.ω g = some (.B b) := by
     rintro g ⟨hmb,ad,e1,e2⟩
     obtain ⟨ad',b,e3,e4⟩ := hbox hmb
     rw [e1] at e3
     injection e3 with e3
     injection e3 with e3
     subst e3
     exact ⟨ad,b,hmb,e1,e2,by rw [e2]; exact e4⟩
    have nb:∀ {g b} {s:St},W.ω g = some (.B b) → ¬ Loose s W g := fun e hn => Dead.not_B (hn.dead e)
    refine ⟨Φ,?_,k2,O.ext.trans k3,fun g hg => k4 g (O.mono g hg),?_,?_,?_,?_⟩
    ·unfold OutAll
     rw [if_pos hm]
     refine ⟨o,os',rfl,?_,OutAll.mono ms (i + 1) vs os' (fun j hj => (hΦn j (by omega)).symm) k1⟩
     rw [hΦi]
     exact ho ψ (fun _ => rfl) (fun ad e1 e2 => ⟨e1,ad,e2,rfl⟩)
    ·intro j c g hg
     by_cases e:j = i + 1
     ·omega
     ·rw [hΦn j e] at hg; have := k5 j c g hg; omega
    ·intro j c g hg
     by_cases e:j = i + 1
     ·rw [e,hΦi] at hg
      exact ⟨k4 g (O.away c g hg).1,(O.away c g hg).2⟩
     ·rw [hΦn j e] at hg
      exact ⟨(k6 j c g hg).1,fun hn => (k6 j c g hg).2 (O.mono g hn)⟩
    ·intro j g hg
     by_cases e:j = i + 1
     ·rw [e,hΦi] at hg
      obtain ⟨ad,b,e1,e2,e3,e4⟩ := hψ0 g hg
      exact ⟨0,ad,b,by omega,by simp [e1],by simp [e2],e3,e4⟩
     ·rw [hΦn j e] at hg
      obtain ⟨p,ad,b,e1,e2,e3,e4,e5⟩ := k7 j g hg
      exact ⟨p + 1,ad,b,by omega,by simpa using e2,by simpa using e3,e4,e5⟩
    ·-- the blocks are apart
     have cross:∀ c j' c' g,ψ c g → j' ≠ i + 1 → Ψ j' c' g → False := by
      intro c j' c' g h1 hj h2
      cases c with
      | zero =>
       obtain ⟨ad,b,e1,e2,e3,e4⟩ := hψ0 g h1
       cases c' with
       | zero =>
        obtain ⟨p,ad',b',f1,f2,f3,f4,f5⟩ := k7 j' g h2
        have := hb 0 (p + 1) ad ad' (by simp [e1]) (by simpa using f2) (by simp [e2]) (by simpa using f3) (by rw [← e3,← f4])
        omega
       | succ c' => exact nb e4 (k6 j' c' g h2).1
      | succ c =>
       cases c' with
       | zero =>
        obtain ⟨p,ad',b',f1,f2,f3,f4,f5⟩ := k7 j' g h2
        exact nb f5 (O.away c g h1).1
       | succ c' => exact (k6 j' c' g h2).2 (O.away c g h1).1
     intro j c j' c' g hg hg'
     by_cases e:j = i + 1
     ·rw [e,hΦi] at hg
      by_cases e':j' = i + 1
      ·rw [e',hΦi] at hg'
       refine ⟨by omega,?_⟩
       cases c with
       | zero =>
        cases c' with
        | zero => rfl
        | succ c' => obtain ⟨ad,b,e1,e2,e3,e4⟩ := hψ0 g hg; exact absurd (O.away c' g hg').1 (nb e4)
       | succ c =>
        cases c' with
        | zero => obtain ⟨ad,b,e1,e2,e3,e4⟩ := hψ0 g hg'; exact absurd (O.away c g hg).1 (nb e4)
        | succ c' => rw [O.apart c c' g hg hg']
      ·rw [hΦn j' e'] at hg'
       exact (cross c j' c' g hg e' hg').elim
     ·rw [hΦn j e] at hg
      by_cases e':j' = i + 1
      ·rw [e',hΦi] at hg'
       exact (cross c' j c g hg' e hg).elim
      ·rw [hΦn j' e'] at hg'
       exact k8 j c j' c' g hg hg'
   ·rename_i hm
    obtain ⟨Ψ,k1,k2,k3,k4,k5,k6,k7,k8⟩ := ih (i + 1) s s' vs os h hr hl' hf' hb'
    refine ⟨Ψ,?_,k2,k3,k4,fun j c g hg => by have := k5 j c g hg; omega,k6,fun j g hg => ?_,k8⟩
    ·unfold OutAll
     rw [if_neg hm]
     exact k1
    ·obtain ⟨p,ad,b,e1,e2,e3,e4,e5⟩ := k7 j g hg
     exact ⟨p + 1,ad,b,by omega,by simpa using e2,by simpa using e3,e4,e5⟩
end
section
variable {G:Beg} {s s' s1 s2:St} {a:Act} {w w':World} {W W' W1:Wit} {P:Program} {E:Env}
def X0 (w:World) (W:Wit):Ctx := ⟨w,fun g => g < w.heap.size ∧ W.ω g = none,W.ad,fun _ => 0,W.sv,fun _ _ => 0⟩
def Fact0 (a:Act) (w:World) (W:Wit) (p:Pl×LV):Prop :=
 (∃ i g cs,p = (.T i,.t (.val g cs)) ∧ VRep (X0 w W) (.val g cs) (a.tmps.getD i undef)) ∨
 (∃ i fz cs,p = (.B i,.b 0 fz cs) ∧ (cs ≠ [] → (W.ad i).spot = none ∧
  (if fz then (X0 w W).S (W.ad i).block else W.ω (W.ad i).block = some (.B i) ∧ ∃ cells el,w.heap[(W.ad i).block]? = some (.cells cells el (0,0))) ∧
  ∀ (j:Nat) (c:Cell),cs[j]? = some c → ∃ v,w.cell? ((W.ad i).add j) = some v ∧ v.oneCell' = true ∧ CRep (X0 w W) c v)) ∨
 ∃ i c row,p = (.R i c,.r 0 (some row)) ∧ RowRep w (X0 w W).S (fun g => W.ω g = some (.R i c)) row (W.sv i c)
structure Base (G:Beg) (a:Act) (w:World) (W:Wit):Prop where
 size:a.tmps.size = G.n
 defers:a.defers = []
 fix:∀ i v,G.fix i = some v → a.tmps.getD i undef = v
 lt:∀ g,W.ω g ≠ none → g < w.heap.size
 os:w.os = G.w0.os
 tape:w.tape = G.w0.tape
 output:w.output = G.w0.output
 grow:G.w0.heap.size ≤ w.heap.size
 old:∀ g,g < G.w0.heap.size → ¬ G.O g → (G.S g ∧ W.ω g = none ∨ ¬ G.S g ∧ W.ω g = some .F) ∧ w.heap[g]? = G.w0.heap[g]?
theorem of_rel0 (h:Base G a w W) {L:List (Pl×LV)} (hL:∀ p,p ∈ L → Fact0 a w W p):Rel G (St.of L) a w W := by
 have hb:bvOf (St.of L) = fun _ => 0 := by
  funext b
  unfold bvOf
  rcases of_spec L (.B b) with h1 | h1
  ·rcases hL _ h1 with ⟨i,g,cs,e,_⟩ | ⟨i,fz,cs,e,_⟩ | ⟨i,c,row,e,_⟩
   ·injection e with e _; cases e
   ·injection e with _ e; rw [e]
   ·injection e with e _; cases e
  ·rw [h1]; rfl
 have hrv:rvOf (St.of L) = fun _ _ => 0 := by
  funext i c
  unfold rvOf
  rcases of_spec L (.R i c) with h1 | h1
  ·rcases hL _ h1 with ⟨i,g,cs,e,_⟩ | ⟨i,fz,cs,e,_⟩ | ⟨i,c,row,e,_⟩
   ·injection e with e _; cases e
   ·injection e with e _; cases e
   ·injection e with _ e; rw [e]
  ·rw [h1]; rfl
 have hX:ctx (St.of L) w W = X0 w W := by
  unfold ctx X0
  rw [hb,hrv]
 refine ⟨h.size,h.defers,h.fix,fun i b hi => ?_,?_,?_,?_,h.lt,h.os,h.tape,h.output,h.grow,h.old⟩
 ·rcases of_spec L (.K i) with h1 | h1
  ·rw [hi] at h1
   rcases hL _ h1 with ⟨i,g,cs,e,_⟩ | ⟨i,fz,cs,e,_⟩ | ⟨i,c,row,e,_⟩ <;> (injection e with e _; cases e)
  ·rw [hi] at h1
   injection h1 with h1
   cases h1
 ·intro i rv hi
  rw [hX]
  rcases of_spec L (.T i) with h1 | h1
  ·rw [hi] at h1
   rcases hL _ h1 with ⟨i,g,cs,e,hf⟩ | ⟨i,fz,cs,e,_⟩ | ⟨i,c,row,e,_⟩
   ·injection e with e1 e2
    injection e1 with e1
    injection e2 with e2
    subst e1 e2
    exact hf
   ·injection e with e _; cases e
   ·injection e with e _; cases e
  ·rw [hi] at h1
   injection h1 with h1
   subst h1
   exact VRep_one.2 trivial
 ·intro b ver fz cs hi hne
  rw [hX]
  rcases of_spec L (.B b) with h1 | h1
  ·rw [hi] at h1
   rcases hL _ h1 with ⟨i,g,cs,e,hf⟩ | ⟨i,fz,cs,e,hf⟩ | ⟨i,c,row,e,_⟩
   ·injection e with e _; cases e
   ·injection e with e1 e2
    injection e1 with e1
    injection e2 with e2 e3 e4
    subst e1 e3 e4
    exact hf hne
   ·injection e with e _; cases e
  ·rw [hi] at h1
   injection h1 with _ _ h1
   exact absurd h1 hne
 ·intro i c ver r hi
  rw [hX]
  rcases of_spec L (.R i c) with h1 | h1
  ·rw [hi] at h1
   rcases hL _ h1 with ⟨i,g,cs,e,hf⟩ | ⟨i,fz,cs,e,hf⟩ | ⟨i,c,row,e,hf⟩
   ·injection e with e _; cases e
   ·injection e with e _; cases e
   ·injection e with e1 e2
    injection e1 with e1 e3
    injection e2 with e2 e4
    injection e4 with e4
    subst e1 e3 e4
    exact hf
  ·rw [hi] at h1
   injection h1 with _ h1
   cases h1
theorem enterC_ok {φ:Nat → Nat → Prop} (i:Nat) (hφ:∀ c g,φ c g → W.ω g = some (.R i c)) (cs:List Cell):∀ (c:Nat) (vs:List Value),cs.all Cell.closed = true → LAll (X0 w W) φ c cs vs → (∀ (j:Nat) (u:Value),vs[j]? = some u → u.oneCell' = true → W.sv i (c + j) = u) →
  All2 (CRep (X0 w W)) (enterC i c cs).1 vs ∧ ∀ p,p ∈ (enterC i c cs).2 → Fact0 a w W p := by
 induction cs with
 | nil =>
  intro c vs _ hv _
  cases vs with
  | nil => exact ⟨trivial,by simp [enterC]⟩
  | cons _ _ => exact hv.elim
 | cons x cs ih =>
  intro c vs hc hv hs
  cases vs with
  | nil => exact hv.elim
  | cons v vs =>
   simp only [List.all_cons,Bool.and_eq_true] at hc
   obtain ⟨k1,k2⟩ := ih (c + 1) vs hc.2 hv.2 (fun j u hu ho => by
    have := hs (j + 1) u (by simpa using hu) ho
    rwa [show c + (j + 1) = c + 1 + j by omega] at this)
   have other:(enterC i c (x :: cs)) = (x :: (enterC i (c + 1) cs).1,(enterC i (c + 1) cs).2) → CRep (X0 w W) x v → All2 (CRep (X0 w W)) (enterC i c (x :: cs)).1 (v :: vs) ∧ ∀ p,p ∈ (enterC i c (x :: cs)).2 → Fact0 a w W p := by
    intro e hx
    rw [e]
    exact ⟨⟨hx,k1⟩,k2⟩
   cases x with
   | own z d el e l =>
    have hrow:RowRep w (X0 w W).S (φ c) ⟨false,z,d || e.flat,el,e,l⟩ v := hv.1
    have hsv:W.sv i c = v := hs 0 v rfl hrow.one
    refine ⟨⟨⟨Nat.le_refl _,hrow.one,fun _ => hsv.symm⟩,k1⟩,fun p hp => ?_⟩
    rcases List.mem_cons.1 hp with rfl | hp
    ·refine .inr (.inr ⟨i,c,_,rfl,?_⟩)
     rw [hsv]
     exact RowRep.move (fun g hg => ⟨hg,rfl⟩) (fun g hg => ⟨hφ c g hg,rfl⟩) hrow
    ·exact k2 p hp
   | undef => exact other rfl hv.1
   | int k n => exact other rfl hv.1
   | bool b => exact other rfl hv.1
   | str t => exact other rfl hv.1
   | nil el e => exact other rfl hv.1
   | sl z el e l => exact other rfl hv.1
   | row i c ver => exact other rfl hv.1
   | ptr b ver off => exact other rfl hv.1
   | eptr i c ver k sz off => exact other rfl hv.1
   | sptr e x off => exact other rfl hv.1
   | fptr f e x => exact other rfl hv.1
   | fn f caps => exact other rfl hv.1
def labBeg (i:Nat):Nat → Pl
 | 0 => .B i
 | c + 1 => .R i c
noncomputable def begω (w:World) (S:Nat → Prop) (ψ:Nat → Nat → Nat → Prop) (g:Nat):Option Pl := by
 classical
 exact if hx:∃ p:Nat×Nat,ψ p.1 p.2 g then some (labBeg hx.choose.1 hx.choose.2) else if S g then none else if g < w.heap.size then some .F else none
def begad (vs:List Value) (i:Nat):Addr := match vs[i]? with
 | some (.pointer (some ad)) => ad
 | _ => ⟨0,0,none⟩
def PM.boxed:PM → Bool
 | .bx | .bxr => true
 | _ => false
def begsv (w:World) (ms:List PM) (vs:List Value) (i c:Nat):Value := if ((ms[i]?).any PM.boxed) = true then (w.cell? ((begad vs i).add c)).getD undef else ((valCells ((vs[i]?).getD undef))[c]?).getD undef
noncomputable def begW (w:World) (S:Nat → Prop) (ψ:Nat → Nat → Nat → Prop) (ms:List PM) (vs:List Value):Wit := ⟨begω w S ψ,begad vs,begsv w ms vs⟩
theorem begω_own {S:Nat → Prop} {ψ:Nat → Nat → Nat → Prop} (hh:Hands w S ψ) {i c g:Nat} (h:ψ i c g):begω w S ψ g = some (labBeg i c) := by
 have hx:∃ p:Nat×Nat,ψ p.1 p.2 g := ⟨(i,c),h⟩
 unfold begω
 rw [dif_pos hx]
 obtain ⟨e1,e2⟩ := hh.apart _ _ _ _ _ hx.choose_spec h
 rw [e1,e2]
theorem begω_S {S:Nat → Prop} {ψ:Nat → Nat → Nat → Prop} (hh:Hands w S ψ) {g:Nat} (h:S g):begω w S ψ g = none := by
 unfold begω
 rw [dif_neg (by rintro ⟨p,hp⟩; exact (hh.own _ _ _ hp).2 h),if_pos h]
theorem enter_ok {S:Nat → Prop} {ψ:Nat → Nat → Nat → Prop} (hh:Hands w S ψ) (ms0:List PM) (vs0:List Value) (ha:∀ i v,vs0[i]? = some v → a.tmps.getD i undef = v) (ms:List PM):∀ (i:Nat) (ys:List RV) (vs:List Value),(∀ p:Nat,ms[p]? = ms0[i + p]?) → (∀ p:Nat,vs[p]? = vs0[i + p]?) →
  GivenAll w S ψ i ms ys vs → ∀ p,p ∈ enter i ms ys → Fact0 a w (begW w S ψ ms0 vs0) p := by
 induction ms with
 | nil =>
  intro i ys vs _ _ hg p hp
  unfold enter at hp
  simp at hp
 | cons m ms ih =>
  intro i ys vs hm hv hg p hp
  match ys,vs,hg with
  | y :: ys,v :: vs,hg =>
  obtain ⟨hg1,hg2⟩ := hg
  have ih' := ih (i + 1) ys vs (fun p => by have := hm (p + 1); rw [show i + 1 + p = i + (p + 1) by omega]; simpa using this) (fun p => by have := hv (p + 1); rw [show i + 1 + p = i + (p + 1) by omega]; simpa using this) hg2
  have hv0:vs0[i]? = some v := by simpa using (hv 0).symm
  have hm0:ms0[i]? = some m := by simpa using (hm 0).symm
  have hai := ha i v hv0
  have hSX:∀ g,S g → (X0 w (begW w S ψ ms0 vs0)).S g := fun g hg => ⟨hh.lt g hg,begω_S hh hg⟩
  have hφ:∀ c g,ψ i (c + 1) g → (begW w S ψ ms0 vs0).ω g = some (.R i c) := fun c g hg => begω_own hh hg
  cases y with
  | tup us => cases m <;> exact hg1.elim
  | val g cs =>
   -- a value
   have plain:m.boxed = false → enter i (m :: ms) (.val g cs :: ys) = (.T i,.t (.val g (enterC i 0 cs).1)) :: ((enterC i 0 cs).2 ++ enter (i + 1) ms ys) → (∃ us,BAll w S (fun c => ψ i (c + 1)) 0 cs us ∧ v = valOf g us ∧ (g = false → cs.length = 1)) → Fact0 a w (begW w S ψ ms0 vs0) p := by
    rintro hmb he ⟨us,h1,h2,h3⟩
    rw [he] at hp
    obtain ⟨k1,k2⟩ := enterC_ok (a := a) i hφ cs 0 us h1.1 (LAll.of (X := X0 w (begW w S ψ ms0 vs0)) h1 (.inl hSX)) (fun j u hj ho => by
     show begsv w ms0 vs0 i (0 + j) = u
     unfold begsv
     rw [if_neg (by rw [hm0]; simp [hmb]),hv0,Nat.zero_add,Option.getD_some,h2]
     cases g with
     | true => simp [valOf,valCells,hj]
     | false =>
      have hl:us.length = 1 := by rw [← h1.2.length]; exact h3 rfl
      obtain ⟨u',rfl⟩ := List.length_eq_one_iff.1 hl
      cases j with
      | succ j => simp at hj
      | zero =>
       simp at hj
       subst hj
       cases u' <;> first | rfl | cases ho)
    rcases List.mem_cons.1 hp with rfl | hp
    ·refine .inl ⟨i,g,_,rfl,us,k1,by rw [hai]; exact h2,fun e => ?_⟩
     rw [k1.length,← h1.2.length]
     exact h3 e
    ·rcases List.mem_append.1 hp with hp | hp
     ·exact k2 p hp
     ·exact ih' p hp
   have boxed:∀ fz:Bool,m.boxed = true → enter i (m :: ms) (.val g cs :: ys) = (.T i,.t (one (.ptr i 0 0))) :: (.B i,.b 0 fz (enterC i 0 cs).1) :: ((enterC i 0 cs).2 ++ enter (i + 1) ms ys) → (∃ ad,v = .pointer (some ad) ∧ BoxAt w S (ψ i) cs ad ∧ (if fz then S ad.block else OwnBox w (ψ i) ad)) → Fact0 a w (begW w S ψ ms0 vs0) p := by
    rintro fz hmb he ⟨ad,h1,⟨h2,us,h3,h4⟩,h5⟩
    rw [he] at hp
    have had:(begW w S ψ ms0 vs0).ad i = ad := by show begad vs0 i = ad; unfold begad; rw [hv0,h1]
    obtain ⟨k1,k2⟩ := enterC_ok (a := a) i hφ cs 0 us h3.1 (LAll.of (X := X0 w (begW w S ψ ms0 vs0)) h3 (.inl hSX)) (fun j u hj ho => by
     show begsv w ms0 vs0 i (0 + j) = u
     unfold begsv
     rw [if_pos (by rw [hm0]; simp [hmb]),show begad vs0 i = ad from had,Nat.zero_add,(h4 j u hj).1]
     rfl)
    rcases List.mem_cons.1 hp with rfl | hp
    ·refine .inl ⟨i,false,_,rfl,VRep_one.2 ⟨Nat.le_refl _,?_,fun _ => ?_⟩⟩
     ·rw [hai,h1]; rfl
     ·rw [hai,h1]
      show _ = Value.pointer (some (((begW w S ψ ms0 vs0).ad i).add 0))
      rw [had]
      obtain ⟨g0,o,sp⟩ := ad
      cases h2
      rw [Addr.add_mid]; rfl
    ·rcases List.mem_cons.1 hp with rfl | hp
     ·refine .inr (.inl ⟨i,fz,_,rfl,fun _ => ⟨by rw [had]; exact h2,?_,fun j c hj => ?_⟩⟩)
      ·rw [had]
       cases fz with
       | true => exact hSX _ h5
       | false => exact ⟨begω_own hh h5.1,h5.2⟩
      ·obtain ⟨u,e1,e2⟩ := k1.get hj
       exact ⟨u,by rw [had]; exact (h4 j u e1).1,(h4 j u e1).2,e2⟩
     ·rcases List.mem_append.1 hp with hp | hp
      ·exact k2 p hp
      ·exact ih' p hp
   cases m with
   | bx => obtain ⟨_,_,ad,e1,e2,e3⟩ := hg1; exact boxed false rfl rfl ⟨ad,e1,e2,e3⟩
   | bxr => obtain ⟨_,_,ad,e1,e2,e3⟩ := hg1; exact boxed true rfl rfl ⟨ad,e1,e2,e3⟩
   | rd => exact plain rfl rfl hg1
   | fz => exact plain rfl rfl hg1
   | own => exact plain rfl rfl hg1
   | «mut» => exact plain rfl rfl hg1
end
section
variable {G:Beg} {s s' s1 s2:St} {a:Act} {w w':World} {W W' W1:Wit} {P:Program} {E:Env}
def dstB (n:Nat) (ms:List PM) (c:Code):Bool := (regionsOf c).all fun ops => ops.toList.all fun o => match o.dst with
 | none => true
 | some x => decide (x < n)&&!((ms[x]?).any PM.wr)
theorem GivenAll.len {S:Nat → Prop} {ψ:Nat → Nat → Nat → Prop}:∀ {i:Nat} {ms:List PM} {ys:List RV} {vs:List Value},GivenAll w S ψ i ms ys vs → vs.length = ms.length
 | _,[],[],[],_ => rfl
 | _,_ :: _,_ :: _,_ :: _,h => by simp [GivenAll.len h.2]
theorem given_box {S:Nat → Prop} {ψ:Nat → Nat → Nat → Prop} (ms:List PM):∀ (i:Nat) (ys:List RV) (vs:List Value),GivenAll w S ψ i ms ys vs → ∀ (p:Nat) (ad:Addr),ms[p]? = some .bx → vs[p]? = some (.pointer (some ad)) → ψ (i + p) 0 ad.block := by
 induction ms with
 | nil => intro i ys vs _ p ad hp; simp at hp
 | cons m ms ih =>
  intro i ys vs h p ad hp hv
  match ys,vs,h with
  | y :: ys,v :: vs,h =>
  cases p with
  | succ p =>
   have := ih (i + 1) ys vs h.2 p ad (by simpa using hp) (by simpa using hv)
   rwa [show i + 1 + p = i + (p + 1) by omega] at this
  | zero =>
   simp at hp hv
   subst hp hv
   have h1 := h.1
   cases y with
   | tup us => exact h1.elim
   | val g cs =>
    obtain ⟨_,_,ad',e1,_,e3⟩ := h1
    injection e1 with e1
    injection e1 with e1
    subst e1
    exact e3.1
theorem ret_run (hE:Good P E) (h:Rel G s a w W) {fn:Func} {ms:List PM} {r:RV} {outs:List (List Cell)} (hr:(Prg.retP E fn ms).run s = some ((r,outs),s')) {vs:List Value} (hl:vs.length = ms.length)
  (hf:∀ (p:Nat) (m:PM) (v:Value),ms[p]? = some m → m.wr = true → vs[p]? = some v → a.tmps.getD p undef = v)
  (hb:∀ (p p':Nat) (ad ad':Addr),ms[p]? = some .bx → ms[p']? = some .bx → vs[p]? = some (.pointer (some ad)) → vs[p']? = some (.pointer (some ad')) → ad.block = ad'.block → p = p') :
  ∃ v,(results fn a.tmps).run P w = .ok v w ∧ ∃ ψ':Nat → Nat → Nat → Prop,ResRep w (SN w W) (ψ' 0) r v ∧ OutAll w (SN w W) ψ' 0 ms vs outs ∧ Hands w (SN w W) ψ' ∧ ∀ j c g,ψ' j c g → W.ω g ≠ none ∧ W.ω g ≠ some .F := by
 obtain ⟨us,s1,q1,q2⟩ := bind_run hr
 obtain ⟨os,s2,q3,q4⟩ := bind_run q2
 obtain ⟨e1,rfl⟩ := pure_run q4
 injection e1 with e1 e2
 subst e2
 obtain ⟨rv,k1,k2,χ,k3,k4,O⟩ := resPs_run hE fn.results.toList 0 s s1 us h q1
 obtain ⟨Ψ,l1,l2,l3,l4,l5,l6,l7,l8⟩ := outsP_run ms 0 s1 _ vs outs k2 q3 hl (fun p m v h1 h2 h3 => by rw [Nat.zero_add]; exact hf p m v h1 h2 h3) hb
 let ψ0:Nat → Nat → Prop := fun c g => match c with
  | 0 => False
  | c + 1 => χ c g
 let ψ':Nat → Nat → Nat → Prop := fun j => if j = 0 then ψ0 else Ψ j
 have hψ0:ψ' 0 = ψ0 := rfl
 have hψn:∀ j,j ≠ 0 → ψ' j = Ψ j := fun j hj => by show (if _ then _ else _) = _; rw [if_neg hj]
 have nb:∀ {g b} {s:St},W.ω g = some (.B b) → ¬ Loose s W g := fun e hn => Dead.not_B (hn.dead e)
 have lab:∀ j c g,ψ' j c g → (∃ s:St,Loose s W g) ∨ ∃ b,W.ω g = some (.B b) := by
  intro j c g hg
  by_cases e:j = 0
  ·subst e
   cases c with
   | zero => exact hg.elim
   | succ c => exact .inl ⟨_,(O.away c g hg).1⟩
  ·rw [hψn j e] at hg
   cases c with
   | zero => obtain ⟨p,ad,b,_,_,_,_,e5⟩ := l7 j g hg; exact .inr ⟨b,e5⟩
   | succ c => exact .inl ⟨_,(l6 j c g hg).1⟩
 have hlab:∀ j c g,ψ' j c g → W.ω g ≠ none ∧ W.ω g ≠ some .F := by
  intro j c g hg
  rcases lab j c g hg with ⟨s,h1⟩ | ⟨b,h1⟩
  ·exact ⟨h1.ne,fun e => Dead.not_F (h1.dead e)⟩
  ·rw [h1]; exact ⟨by simp,by simp⟩
 have cross:∀ c j c' g,ψ0 c g → Ψ j c' g → False := by
  intro c j c' g h1 h2
  cases c with
  | zero => exact h1
  | succ c =>
   cases c' with
   | zero => obtain ⟨p,ad,b,_,_,_,_,e5⟩ := l7 j g h2; exact nb e5 (O.away c g h1).1
   | succ c' => exact (l6 j c' g h2).2 (O.away c g h1).1
 refine ⟨oneOf rv,results_run k1,ψ',?_,OutAll.mono ms 0 vs outs (fun j hj => (hψn j (by omega)).symm) l1,⟨fun g hg => hg.1,fun j c g hg => ⟨h.lt g (hlab j c g hg).1,fun hn => (hlab j c g hg).1 hn.2⟩,?_⟩,hlab⟩
 ·rw [e1,hψ0]
  match us,rv,k3 with
  | [],[],_ => exact ⟨[],rfl,trivial⟩
  | [(g,cs)],[v],k3 => obtain ⟨⟨ws,e1,e2,e3⟩,_⟩ := k3; exact ⟨ws,e1,e2,e3⟩
  | x :: y :: us,u :: v :: rv,k3 => exact ⟨u :: v :: rv,rfl,k3⟩
 ·intro j c j' c' g hg hg'
  by_cases e:j = 0
  ·subst e
   by_cases e':j' = 0
   ·subst e'
    cases c with
    | zero => exact hg.elim
    | succ c =>
     cases c' with
     | zero => exact hg'.elim
     | succ c' => exact ⟨rfl,by rw [O.apart c c' g hg hg']⟩
   ·rw [hψn j' e'] at hg'
    exact (cross c j' c' g hg hg').elim
  ·rw [hψn j e] at hg
   by_cases e':j' = 0
   ·subst e'
    exact (cross c' j c g hg' hg).elim
   ·rw [hψn j' e'] at hg'
    exact l8 j c j' c' g hg hg'
theorem fn_ok (hE:Good P E) (hm:P.follows .mixedOrders = true) {f:Nat} {fn:Func} {c:Code} {ms:List PM} {F:FSem} (hf:P.funcs[f]? = some fn) (hb:fn.body = some c) (hname:(fn.name == "runtime.NumGoroutine") = false) (hd:dstB fn.ntmps ms c = true) (hn:ms.length ≤ fn.ntmps)
  (hF:∀ ys r outs,F ys = some (true,r,outs) → ∃ n,(execFn E fn ms ys).To E (LT E n) (r,outs)):Sound P f ms F := by
 refine ⟨⟨fn,hf,by rw [hb]; rfl,hname⟩,fun w S ψ ys vs r outs hFy hands hgiven => ?_⟩
 obtain ⟨n,hex⟩ := hF ys r outs hFy
 have hlen := hgiven.len
 unfold execFn at hex
 rw [hb] at hex
 let G:Beg := ⟨w,S,fun g => ∃ i c,ψ i c g,fn.ntmps,fun i => match ms[i]? with
  | some m => if m.wr then vs[i]? else none
  | none => none⟩
 let a0:Act := { tmps := vs.toArray ++ Array.replicate (fn.ntmps - vs.toArray.size) undef,defers := [] }
 have ha:∀ i v,vs[i]? = some v → a0.tmps.getD i undef = v := by
  intro i v hi
  have hlt:i < vs.length := (List.getElem?_eq_some_iff.1 hi).1
  show (vs.toArray ++ _).getD i undef = v
  rw [Array.getD_eq_getD_getElem?,Array.getElem?_append_left (by simpa using hlt)]
  simp [hi]
 have hfix:∀ i v,G.fix i = some v → ∃ m,ms[i]? = some m ∧ m.wr = true ∧ vs[i]? = some v := by
  intro i v hi
  have hi:(match ms[i]? with
   | some m => if m.wr then vs[i]? else none
   | none => none) = some v := hi
  split at hi
  ·rename_i m hmi
   split at hi
   ·rename_i hw; exact ⟨m,hmi,hw,hi⟩
   ·cases hi
  ·cases hi
 have hW:∀ g,begω w S ψ g ≠ none → g < w.heap.size := by
  intro g hg
  by_cases hx:∃ p:Nat×Nat,ψ p.1 p.2 g
  ·obtain ⟨p,hp⟩ := hx; exact (hands.own _ _ _ hp).1
  ·unfold begω at hg
   rw [dif_neg hx] at hg
   split at hg
   ·exact absurd rfl hg
   ·split at hg
    ·assumption
    ·exact absurd rfl hg
 have hbase:Base G a0 w (begW w S ψ ms vs) := by
  refine ⟨?_,rfl,fun i v hi => ?_,hW,rfl,rfl,rfl,Nat.le_refl _,fun g hg hO => ⟨?_,rfl⟩⟩
  ·show (vs.toArray ++ Array.replicate (fn.ntmps - vs.toArray.size) undef).size = fn.ntmps
   simp
   omega
  ·obtain ⟨m,_,_,h3⟩ := hfix i v hi
   exact ha i v h3
  ·have hx:¬ ∃ p:Nat×Nat,ψ p.1 p.2 g := fun ⟨p,hp⟩ => hO ⟨p.1,p.2,hp⟩
   by_cases hS:S g
   ·exact .inl ⟨hS,begω_S hands hS⟩
   ·refine .inr ⟨hS,?_⟩
    show begω w S ψ g = _
    unfold begω
    rw [dif_neg hx,if_neg hS,if_pos hg]
 have hRel:Rel G (St.of (enter 0 ms ys)) a0 w (begW w S ψ ms vs) := of_rel0 hbase (enter_ok (a := a0) hands ms vs ha ms 0 ys vs (fun p => by simp) (fun p => by simp) hgiven)
 have hdst:DstOk G c := by
  intro ops ho o hoo x hx
  simp only [dstB,List.all_eq_true] at hd
  have := hd ops ho o hoo
  rw [hx] at this
  simp only [Bool.and_eq_true,decide_eq_true_eq,Bool.not_eq_true'] at this
  refine ⟨this.1,?_⟩
  show (match ms[x]? with
   | some m => if m.wr then vs[x]? else none
   | none => none) = none
  cases hmx:ms[x]? with
  | none => rfl
  | some m =>
   have h2 := this.2
   rw [hmx] at h2
   simp at h2
   simp [h2]
 refine calls_of_wp hf hb (exec_ok hE hm n c 0 hdst hex hRel (fun ex s' a' w' W' h' hk => ?_))
 have key:((Prg.retP E fn ms).tr s' fun r _ => .done r:Tr (RV×List (List Cell))).To E (LT E n) (r,outs) → a'.defers = [] ∧ ∃ v,(results fn a'.tmps).run P w' = .ok v w' ∧ ∃ S' ψ',Trip w S ψ w' S' ψ' ∧ ResRep w' S' (ψ' 0) r v ∧ OutAll w' S' ψ' 0 ms vs outs := by
  intro hk
  obtain ⟨x,s2,h1,h2⟩ := tr_run hk
  have h2:x = (r,outs) := h2
  subst h2
  obtain ⟨v,k1,ψ',k2,k3,k4,k5⟩ := ret_run hE h' h1 hlen (fun p m v h1 h2 h3 => h'.fix p v (by
    show (match ms[p]? with
     | some m => if m.wr then vs[p]? else none
     | none => none) = some v
    rw [h1]
    simp only
    rw [if_pos h2]
    exact h3))
   (fun p p' ad ad' h1 h2 h3 h4 h5 => by
    have e1 := given_box ms 0 ys vs hgiven p ad h1 h3
    have e2 := given_box ms 0 ys vs hgiven p' ad' h2 h4
    rw [← h5] at e2
    have := (hands.apart _ _ _ _ _ e1 e2).1
    omega)
  refine ⟨h'.defers,v,k1,SN w' W',ψ',⟨h'.os,h'.tape,h'.output,h'.grow,fun g hg hno => ?_,k4⟩,k2,k3⟩
  obtain ⟨e1,e2⟩ := h'.old g hg hno
  refine ⟨e2,?_,?_⟩
  ·rcases e1 with ⟨e3,e4⟩ | ⟨e3,e4⟩
   ·exact ⟨fun _ => e3,fun _ => ⟨Nat.lt_of_lt_of_le hg h'.grow,e4⟩⟩
   ·exact ⟨fun hs => (by have := hs.2; rw [e4] at this; cases this),fun hs => absurd hs e3⟩
  ·rintro ⟨j,c,hj⟩
   obtain ⟨f1,f2⟩ := k5 j c g hj
   rcases e1 with ⟨_,e4⟩ | ⟨_,e4⟩
   ·exact f1 e4
   ·exact f2 e4
 cases ex with
 | exit id => exact hk.elim
 | normal => obtain ⟨h1,v,h2,h3⟩ := key hk; exact ⟨h1,v,h2,h3⟩
 | ret => obtain ⟨h1,v,h2,h3⟩ := key hk; exact ⟨h1,v,h2,h3⟩
end
inductive XT where
 | leaf (ex:Ex) (h:List (Pl×LV))
 | br (b:Bool) (x y:XT)
def XT.sel:XT → Ex×List (Pl×LV)
 | .leaf ex h => (ex,h)
 | .br b x y => bif b then x.sel else y.sel
def XT.fold {β:Type} (j:Bool → β → β → β) (f:Ex → List (Pl×LV) → β):XT → β
 | .leaf ex h => f ex h
 | .br b x y => j b (x.fold j f) (y.fold j f)
abbrev Orc := Nat → List (Pl×LV) → Option (Bool×XT)
def OR (o:Orc):Nat → Code → List (Pl×LV) → Ex → List (Pl×LV) → Prop := fun b _ h ex h' => ∃ xt,o b h = some (true,xt) ∧ xt.sel = (ex,h')
def mergeZ (b:Bool):NZ → NZ → Option NZ
 | .nil,.nil => some .nil
 | .non,.non => some .non
 | .any,.any => some .any
 | .may x,.may y => some (.may (bif b then x else y))
 | _,_ => none
def mergeC (b:Bool):Cell → Cell → Option Cell
 | .int k x,.int k' y => if k' = k then some (.int k (bif b then x else y)) else none
 | .bool x,.bool y => some (.bool (bif b then x else y))
 | .str x,.str y => some (.str (bif b then x else y))
 | .nil el e,.nil el' e' => if el' = el ∧ e' = e then some (.nil el e) else none
 | .own z d el e l,.own z' d' el' e' l' => if d' = d ∧ el' = el then (mergeZ b z z').bind fun z => (castL e' e l').map fun l' => .own z d el e (bif b then l else l') else none
 | .sl z el e l,.sl z' el' e' l' => if el' = el then (mergeZ b z z').bind fun z => (castL e' e l').map fun l' => .sl z el e (bif b then l else l') else none
 | .fn f [],.fn f' [] => if f' = f then some (.fn f []) else none
 | _,_ => none
def mergeCs (b:Bool):List Cell → List Cell → Option (List Cell)
 | [],[] => some []
 | x :: xs,y :: ys => (mergeC b x y).bind fun z => (mergeCs b xs ys).map (z :: ·)
 | _,_ => none
def mergeTup (b:Bool):List (Bool×List Cell) → List (Bool×List Cell) → Option (List (Bool×List Cell))
 | [],[] => some []
 | x :: xs,y :: ys => if y.1 = x.1 then (mergeCs b x.2 y.2).bind fun z => (mergeTup b xs ys).map ((x.1,z) :: ·) else none
 | _,_ => none
def mergeR (b:Bool):RV → RV → Option RV
 | .val g cs,.val g' cs' => if g' = g then (mergeCs b cs cs').map (.val g ·) else none
 | .tup us,.tup us' => (mergeTup b us us').map .tup
 | _,_ => none
def mergeO (b:Bool):List (List Cell) → List (List Cell) → Option (List (List Cell))
 | [],[] => some []
 | x :: xs,y :: ys => (mergeCs b x y).bind fun z => (mergeO b xs ys).map (z :: ·)
 | _,_ => none
inductive BT where
 | again (h:List (Pl×LV))
 | out (ex:Ex) (h:List (Pl×LV))
 | br (b:Bool) (x y:BT)
 | fail
def BT.sel:BT → Option Rd
 | .again h => some (.again h)
 | .out ex h => some (.out ex h)
 | .br b x y => bif b then x.sel else y.sel
 | .fail => none
def Tr.bt (E:Env) (o:Orc):Tr Rd → BT
 | .done r => match r with
  | .again h => .again h
  | .out ex h => .out ex h
 | .br b x y => .br b (x.bt E o) (y.bt E o)
 | .lp b _ s k => match o b (canon E b s) with
  | none => .fail
  | some (p,xt) => .br p (xt.fold .br fun ex h => (k ex (St.of h)).bt E o) .fail
 | .fail => .fail
section
variable {E:Env} {o:Orc}
theorem mergeZ_ok {b:Bool} {x y z:NZ} (h:mergeZ b x y = some z):z = bif b then x else y := by
 unfold mergeZ at h
 split at h <;> cases h <;> cases b <;> rfl
theorem mergeC_ok {b:Bool} {x y z:Cell} (h:mergeC b x y = some z):z = bif b then x else y := by
 unfold mergeC at h
 split at h
 ·split at h
  ·rename_i e; subst e; cases h; cases b <;> rfl
  ·cases h
 ·cases h; cases b <;> rfl
 ·cases h; cases b <;> rfl
 ·split at h
  ·rename_i e; obtain ⟨e1,e2⟩ := e; subst e1 e2; cases h; cases b <;> rfl
  ·cases h
 ·split at h
  ·rename_i e; obtain ⟨e1,e2⟩ := e; subst e1 e2
   obtain ⟨z1,g1,g2⟩ := Option.bind_eq_some_iff.1 h
   obtain ⟨l,h1,h2⟩ := Option.map_eq_some_iff.1 g2
   obtain ⟨he,rfl⟩ := castL_some h1
   subst he
   rw [mergeZ_ok g1] at h2
   subst h2
   cases b <;> rfl
  ·cases h
 ·split at h
  ·rename_i e; subst e
   obtain ⟨z1,g1,g2⟩ := Option.bind_eq_some_iff.1 h
   obtain ⟨l,h1,h2⟩ := Option.map_eq_some_iff.1 g2
   obtain ⟨he,rfl⟩ := castL_some h1
   subst he
   rw [mergeZ_ok g1] at h2
   subst h2
   cases b <;> rfl
  ·cases h
 ·split at h
  ·rename_i e; subst e; cases h; cases b <;> rfl
  ·cases h
 ·cases h
theorem mergeCs_ok {b:Bool}:∀ {x y z:List Cell},mergeCs b x y = some z → z = bif b then x else y
 | [],[],z,h => by cases h; cases b <;> rfl
 | [],_ :: _,_,h => by cases h
 | _ :: _,[],_,h => by cases h
 | x :: xs,y :: ys,z,h => by
  obtain ⟨c,h1,h2⟩ := Option.bind_eq_some_iff.1 h
  obtain ⟨cs,h3,rfl⟩ := Option.map_eq_some_iff.1 h2
  rw [mergeC_ok h1,mergeCs_ok h3]
  cases b <;> rfl
theorem mergeTup_ok {b:Bool}:∀ {x y z:List (Bool×List Cell)},mergeTup b x y = some z → z = bif b then x else y
 | [],[],z,h => by cases h; cases b <;> rfl
 | [],_ :: _,_,h => by cases h
 | _ :: _,[],_,h => by cases h
 | (g,x) :: xs,(g',y) :: ys,z,h => by
  unfold mergeTup at h
  split at h
  ·rename_i e
   have e:g' = g := e
   subst e
   obtain ⟨c,h1,h2⟩ := Option.bind_eq_some_iff.1 h
   obtain ⟨cs,h3,rfl⟩ := Option.map_eq_some_iff.1 h2
   rw [mergeCs_ok h1,mergeTup_ok h3]
   cases b <;> rfl
  ·cases h
theorem mergeO_ok {b:Bool}:∀ {x y z:List (List Cell)},mergeO b x y = some z → z = bif b then x else y
 | [],[],z,h => by cases h; cases b <;> rfl
 | [],_ :: _,_,h => by cases h
 | _ :: _,[],_,h => by cases h
 | x :: xs,y :: ys,z,h => by
  obtain ⟨c,h1,h2⟩ := Option.bind_eq_some_iff.1 h
  obtain ⟨cs,h3,rfl⟩ := Option.map_eq_some_iff.1 h2
  rw [mergeCs_ok h1,mergeO_ok h3]
  cases b <;> rfl
theorem mergeR_ok {b:Bool} {x y z:RV} (h:mergeR b x y = some z):z = bif b then x else y := by
 unfold mergeR at h
 split at h
 ·split at h
  ·rename_i e
   subst e
   obtain ⟨cs,h1,rfl⟩ := Option.map_eq_some_iff.1 h
   rw [mergeCs_ok h1]
   cases b <;> rfl
  ·cases h
 ·obtain ⟨cs,h1,rfl⟩ := Option.map_eq_some_iff.1 h
  rw [mergeTup_ok h1]
  cases b <;> rfl
 ·cases h
theorem bt_to {r:Rd}:∀ {t:Tr Rd},(t.bt E o).sel = some r → t.To E (OR o) r := by
 intro t
 induction t with
 | done a => intro h; cases a <;> (simp only [Tr.bt,BT.sel,Option.some.injEq] at h; exact h)
 | br b x y hx hy =>
  intro h
  simp only [Tr.bt,BT.sel] at h
  cases b with
  | true => exact .inl ⟨rfl,hx h⟩
  | false => exact .inr ⟨rfl,hy h⟩
 | lp b c s k ih =>
  intro h
  simp only [Tr.bt] at h
  split at h
  ·cases h
  ·rename_i p xt ho
   simp only [BT.sel] at h
   cases p with
   | false => cases h
   | true =>
    simp only [cond_true] at h
    have key:∀ xt:XT,(xt.fold .br fun ex h => (k ex (St.of h)).bt E o).sel = some r → (k xt.sel.1 (St.of xt.sel.2)).To E (OR o) r := by
     intro xt
     induction xt with
     | leaf ex h => intro h1; exact ih ex (St.of h) h1
     | br b x y hx hy =>
      intro h1
      simp only [XT.fold,BT.sel] at h1
      cases b with
      | true => exact hx h1
      | false => exact hy h1
    exact ⟨_,_,⟨xt,ho,rfl⟩,key xt h⟩
 | fail => intro h; cases h
def loopsOf:Nat → Code → List (Nat×Code)
 | b,.seq x y => loopsOf b x ++ loopsOf b y
 | b,.cond _ x y => loopsOf b x ++ loopsOf b y
 | _,.block id c => loopsOf id c
 | b,.loop c => [(b,c)]
 | _,_ => []
theorem tr_mono {α β:Type} {L1 L2:Nat → Code → List (Pl×LV) → Ex → List (Pl×LV) → Prop} {r:β} {p:Prg α} {k:α → St → Tr β} (hk:∀ x s,(k x s).To E L1 r → (k x s).To E L2 r):∀ {s:St},(p.tr s k).To E L1 r → (p.tr s k).To E L2 r := by
 induction p with
 | pure x => intro s h; exact hk _ _ h
 | get l f ih => intro s h; exact ih _ h
 | set l v p ih => intro s h; exact ih h
 | br b x y hx hy => intro s h; exact h.imp (And.imp_right hx) (And.imp_right hy)
 | fail => intro s h; exact h
theorem exec_mono {α:Type} {L1 L2:Nat → Code → List (Pl×LV) → Ex → List (Pl×LV) → Prop} {r:α} (c:Code):∀ (b:Nat) (s:St) (k:Ex → St → Tr α),(∀ p,p ∈ loopsOf b c → ∀ h ex h',L1 p.1 p.2 h ex h' → L2 p.1 p.2 h ex h') → (∀ ex s,(k ex s).To E L1 r → (k ex s).To E L2 r) →
  (exec E b c s k).To E L1 r → (exec E b c s k).To E L2 r := by
 have hops:∀ (ops:Array Oper) (l:List Oper) (s:St) (k:St → Tr α),(∀ s,(k s).To E L1 r → (k s).To E L2 r) → (runOps E ops l s k).To E L1 r → (runOps E ops l s k).To E L2 r := by
  intro ops l
  induction l with
  | nil => intro s k hk h; exact hk _ h
  | cons o l ih => intro s k hk h; exact tr_mono (fun _ s h => ih s k hk h) h
 have hopsA:∀ (ops:Array Oper) (l:List Oper) (fs:List (List Pl×List Pl)) (s:St) (k:St → Tr α),(∀ s,(k s).To E L1 r → (k s).To E L2 r) → (runOpsA E ops l fs s k).To E L1 r → (runOpsA E ops l fs s k).To E L2 r := by
  intro ops l
  induction l with
  | nil => intro fs s k hk h; cases fs <;> exact hk _ h
  | cons o l ih =>
   intro fs s k hk h
   cases fs with
   | nil => exact h
   | cons f fs => exact tr_mono (fun _ s h => ih fs s k hk h) h
 have hopsN:∀ (ops:Array Oper) (n:Nat) (l:List Oper),l.length ≤ n → ∀ (s:St) (k:St → Tr α),(∀ s,(k s).To E L1 r → (k s).To E L2 r) → (runOpsN E ops l s k).To E L1 r → (runOpsN E ops l s k).To E L2 r := by
  intro ops n
  induction n with
  | zero =>
   intro l hl s k hk h
   have:l = [] := List.length_eq_zero_iff.1 (by omega)
   subst this
   exact hk _ h
  | succ n ih =>
   intro l hl s k hk h
   match l,hl,h with
   | [],_,h => exact hk _ h
   | [o],_,h => exact tr_mono (fun _ s h => hk s h) h
   | [o,o2],_,h => exact tr_mono (fun _ s h => tr_mono (fun _ s h => hk s h) h) h
   | o :: om :: o2 :: l,hl,h =>
    have h:(bif o.dst.any E.nest.contains then (Prg.nestP E o om o2).tr s fun _ s => runOpsN E ops l s k else (Prg.stepP E ops o).tr s fun _ s => runOpsN E ops (om :: o2 :: l) s k).To E L1 r := h
    show (bif o.dst.any E.nest.contains then (Prg.nestP E o om o2).tr s fun _ s => runOpsN E ops l s k else (Prg.stepP E ops o).tr s fun _ s => runOpsN E ops (om :: o2 :: l) s k).To E L2 r
    cases hb:o.dst.any E.nest.contains
    ·rw [hb,cond_false] at h
     rw [cond_false]
     exact tr_mono (fun _ s h => ih _ (by simp only [List.length_cons] at hl ⊢; omega) s k hk h) h
    ·rw [hb,cond_true] at h
     rw [cond_true]
     exact tr_mono (fun _ s h => ih _ (by simp only [List.length_cons] at hl; omega) s k hk h) h
 induction c with
 | skip => intro b s k _ hk h; exact hk _ _ h
 | region id ops draw =>
  intro b s k _ hk h
  cases draw with
  | false =>
   have h:(bif nests E ops then runOpsN E ops ops.toList s (k .normal) else runOps E ops ops.toList s (k .normal):Tr α).To E L1 r := h
   show (bif nests E ops then runOpsN E ops ops.toList s (k .normal) else runOps E ops ops.toList s (k .normal):Tr α).To E L2 r
   cases hn:nests E ops
   ·rw [hn,cond_false] at h
    rw [cond_false]
    exact hops ops _ s _ (fun s => hk _ s) h
   ·rw [hn,cond_true] at h
    rw [cond_true]
    exact hopsN ops _ _ (Nat.le_refl _) s _ (fun s => hk _ s) h
  | true =>
   have h:(if drawOk ops.toList (logOps E ops ops.toList s) then runOpsA E ops ops.toList (logOps E ops ops.toList s) s (k .normal) else .fail:Tr α).To E L1 r := h
   show (if drawOk ops.toList (logOps E ops ops.toList s) then runOpsA E ops ops.toList (logOps E ops ops.toList s) s (k .normal) else .fail:Tr α).To E L2 r
   split at h
   ·rename_i e; rw [if_pos e]; exact hopsA ops _ _ s _ (fun s => hk _ s) h
   ·exact h.elim
 | seq x y ihx ihy =>
  intro b s k hl hk h
  refine ihx b s _ (fun p hp => hl p (List.mem_append_left _ hp)) (fun ex s h => ?_) h
  cases ex with
  | normal => exact ihy b s k (fun p hp => hl p (List.mem_append_right _ hp)) hk h
  | exit id => exact hk _ _ h
  | ret => exact hk _ _ h
 | cond c x y ihx ihy =>
  intro b s k hl hk h
  cases c with
  | tmp c =>
   have h:(match s (.K c) with
    | .k (some (some true)) => exec E b x s k
    | .k (some (some false)) => exec E b y s k
    | _ => match s (.T c) with
     | .t (.val false [.bool t]) => .br t (exec E b x s k) (exec E b y s k)
     | _ => .fail:Tr α).To E L1 r := h
   show (match s (.K c) with
    | .k (some (some true)) => exec E b x s k
    | .k (some (some false)) => exec E b y s k
    | _ => match s (.T c) with
     | .t (.val false [.bool t]) => .br t (exec E b x s k) (exec E b y s k)
     | _ => .fail:Tr α).To E L2 r
   split at h
   ·exact ihx b s k (fun p hp => hl p (List.mem_append_left _ hp)) hk h
   ·exact ihy b s k (fun p hp => hl p (List.mem_append_right _ hp)) hk h
   split at h
   ·rename_i hs
    exact h.imp (And.imp_right (ihx b s k (fun p hp => hl p (List.mem_append_left _ hp)) hk)) (And.imp_right (ihy b s k (fun p hp => hl p (List.mem_append_right _ hp)) hk))
   ·exact h.elim
  | const v => exact h
  | func f => exact h
  | global g => exact h
 | block id c ih =>
  intro b s k hl hk h
  refine ih id s _ hl (fun ex s h => ?_) h
  cases ex with
  | normal => exact hk _ _ h
  | ret => exact hk _ _ h
  | exit id' =>
   have h:(if id' = id then k .normal s else k (.exit id') s:Tr α).To E L1 r := h
   show (if id' = id then k .normal s else k (.exit id') s:Tr α).To E L2 r
   split at h
   ·rename_i e; rw [if_pos e]; exact hk _ _ h
   ·rename_i e; rw [if_neg e]; exact hk _ _ h
 | loop c ih =>
  intro b s k hl hk h
  obtain ⟨ex,h',h1,h2⟩ := h
  exact ⟨ex,h',hl (b,c) (List.mem_cons_self ..) _ _ _ h1,hk _ _ h2⟩
 | exit id => intro b s k _ hk h; exact hk _ _ h
 | ret => intro b s k _ hk h; exact hk _ _ h
 | _ => intro b s k _ _ h; exact h
end
def All (w:World):Nat → Prop := fun g => g < w.heap.size
structure Opens (P:Program) (t:TypeId) (T:Ty) (ok:T.den → Prop):Prop where
 read:∀ {H:Type} (enc:TypeId×Value → H) (w:World) (base:Nat) (sp:Nat → Bool) (held:Bool) (fuel:Nat) (cs:List Value) (x:DataW H×List MemPlace),
  DataW.trod enc P w base sp held fuel t cs = some x → ∃ a:T.den,ROc w (All w) T a cs ∧ ok a
section
variable {P:Program} {t:TypeId}
theorem opens_int {k:IntKind} (ht:P.underlying t = some (.int k)):Opens P t (.int k) (fun n => (Lit.int k n).wf = true) := by
 constructor
 intro H enc w base sp held fuel cs x h
 obtain ⟨n,rfl,_,hw⟩ := DataW.trod_int ht h
 exact ⟨n,rfl,hw⟩
theorem opens_bool (ht:P.underlying t = some .bool):Opens P t .bool (fun _ => True) := by
 constructor
 intro H enc w base sp held fuel cs x h
 obtain ⟨n,rfl,_⟩ := DataW.trod_bool ht h
 exact ⟨n,rfl,trivial⟩
theorem opens_string (ht:P.underlying t = some .string):Opens P t .str (fun s => s.size ≤ maxLen) := by
 constructor
 intro H enc w base sp held fuel cs x h
 obtain ⟨n,rfl,_,hw⟩ := DataW.trod_string ht h
 exact ⟨n,rfl,hw⟩
theorem list_of {α:Type} (Q:Nat → α → Prop):∀ n:Nat,(∀ i,i < n → ∃ a,Q i a) → ∃ xs:List α,xs.length = n ∧ ∀ (i:Nat) (a:α),xs[i]? = some a → Q i a
 | 0,_ => ⟨[],rfl,fun i a h => by simp at h⟩
 | n + 1,h => by
  obtain ⟨xs,hl,hx⟩ := list_of Q n (fun i hi => h i (by omega))
  obtain ⟨a,ha⟩ := h n (by omega)
  refine ⟨xs ++ [a],by simp [hl],fun i b hb => ?_⟩
  by_cases hi:i < n
  ·rw [List.getElem?_append_left (by omega)] at hb
   exact hx i b hb
  ·rw [List.getElem?_append_right (by omega),hl] at hb
   by_cases e:i = n
   ·subst e
    simp at hb
    subst hb
    exact ha
   ·have:i - n ≠ 0 := by omega
    rw [List.getElem?_eq_none (by simp; omega)] at hb
    cases hb
theorem cell_spot {w:World} {a:Addr} {v:Value} (h:w.cell? a = some v):a.spot = none ∧ a.block < w.heap.size := by
 unfold World.cell? at h
 split at h
 ·rename_i c el f hb
  split at h
  ·cases h
  ·rename_i hs
   exact ⟨by simpa using hs,(Array.getElem?_eq_some_iff.1 hb).1⟩
 ·cases h
theorem opens_slice {e:TypeId} {T:Ty} {ok:T.den → Prop} (ht:P.underlying t = some (.slice e)) (hc:P.cellsOf e = T.size) (he:Opens P e T ok):Opens P t (.sl e T) (fun l => l.length ≤ maxLen ∧ ∀ a ∈ l,ok a) := by
 constructor
 intro H enc w base sp held fuel cs x h
 rcases DataW.trod_slice ht h with ⟨rfl,rfl⟩ | ⟨a,len,cap,elems,rest,n,_,rfl,_,hb,hl,hm,hel,hget,_⟩
 ·exact ⟨[],⟨none,0,rfl,⟨Nat.le_refl _,fun _ => rfl⟩,fun i x hx => by simp at hx⟩,by simp,fun a ha => by cases ha⟩
 ·obtain ⟨xs,hxl,hx⟩ := list_of (fun i a' => ok a' ∧ ∃ c,c.length = T.size ∧ ROc w (All w) T a' c ∧ ∀ j u,c[j]? = some u → w.cell? (a.add (i * T.size + j)) = some u) len (fun i hi => by
   have hg := hget i hi
   rw [List.getElem?_eq_getElem (by omega),Option.bind_eq_some_iff] at hg
   obtain ⟨c,hcells,hy⟩ := hg
   obtain ⟨_,hcl,hcell⟩ := World.cells?_some hcells
   obtain ⟨a',hK,hok⟩ := he.read enc w base sp held n c _ hy
   refine ⟨a',hok,c,by rw [hcl,hc],hK,fun j u hu => ?_⟩
   have hj:j < P.cellsOf e := by rw [← hcl]; exact (List.getElem?_eq_some_iff.1 hu).1
   have := hcell j hj
   rw [hu,hc,Addr.add_add] at this
   exact this)
  subst hxl
  refine ⟨xs,⟨some a,cap,rfl,⟨hl,fun h => (by cases h)⟩,fun i y hy => ?_⟩,by omega,fun a' ha => ?_⟩
  ·obtain ⟨_,c,h1,h2,h3⟩ := hx i y hy
   have hi:0 < xs.length := Nat.lt_of_le_of_lt (Nat.zero_le _) (List.getElem?_eq_some_iff.1 hy).1
   obtain ⟨_,c0,k1,_,k3⟩ := hx 0 _ (List.getElem?_eq_getElem hi)
   have h0:0 < c0.length := by rw [k1]; exact Ty.size_pos T
   have hsp := cell_spot (k3 0 c0[0] (List.getElem?_eq_getElem h0))
   rw [show a.add (0 * T.size + 0) = a by rw [Nat.zero_mul]; unfold Addr.add; simp] at hsp
   obtain ⟨g,off,sp⟩ := a
   obtain ⟨e1,e2⟩ := hsp
   cases e1
   refine ⟨g,off,c,rfl,e2,h1,fun j u hu => ?_,h2⟩
   have := h3 j u hu
   rwa [Addr.add_mid,← Nat.add_assoc] at this
  ·obtain ⟨j,hj,rfl⟩ := List.getElem_of_mem ha
   exact (hx j _ (List.getElem?_eq_getElem hj)).1
structure OpensAt (P:Program) (off:Nat) (fs:List Field) (T:Ty) (ok:T.den → Prop):Prop where
 read:∀ {H:Type} (enc:TypeId×Value → H) (w:World) (base:Nat) (sp:Nat → Bool) (held:Bool) (n:Nat) (cs:List Value),cs.length = off + T.size →
  (∀ f ∈ fs,∃ y,DataW.trod enc P w base sp held n f.type ((cs.drop f.offset).take (P.cellsOf f.type)) = some y) → ∃ a:T.den,ROc w (All w) T a (cs.drop off) ∧ ok a
theorem opensAt_one {off:Nat} {f:Field} {T:Ty} {ok:T.den → Prop} (ho:f.offset = off) (hc:P.cellsOf f.type = T.size) (h:Opens P f.type T ok):OpensAt P off [f] T ok := by
 constructor
 intro H enc w base sp held n cs hl hf
 obtain ⟨y,hy⟩ := hf f (by simp)
 rw [ho,hc,List.take_of_length_le (by simp; omega)] at hy
 exact h.read enc w base sp held n _ _ hy
theorem opensAt_cons {off:Nat} {f:Field} {fs:List Field} {T T2:Ty} {ok:T.den → Prop} {ok2:T2.den → Prop} (ho:f.offset = off) (hc:P.cellsOf f.type = T.size) (h:Opens P f.type T ok) (h2:OpensAt P (off + T.size) fs T2 ok2) :
  OpensAt P off (f :: fs) (.pair T T2) (fun x => ok x.1 ∧ ok2 x.2) := by
 constructor
 intro H enc w base sp held n cs hl hf
 have hl':cs.length = off + (T.size + T2.size) := hl
 obtain ⟨y,hy⟩ := hf f (by simp)
 rw [ho,hc] at hy
 obtain ⟨a,hK,hok⟩ := h.read enc w base sp held n _ _ hy
 obtain ⟨b,hK2,hok2⟩ := h2.read enc w base sp held n cs (by omega) (fun f' hf' => hf f' (by simp [hf']))
 refine ⟨(a,b),⟨(cs.drop off).take T.size,cs.drop (off + T.size),?_,by simp; omega,hK,hK2⟩,hok,hok2⟩
 rw [← List.drop_drop,List.take_append_drop]
theorem opens_struct {fs:Array Field} {T:Ty} {ok:T.den → Prop} (ht:P.underlying t = some (.struct fs)) (hc:P.cellsOf t = T.size) (h:OpensAt P 0 fs.toList T ok):Opens P t T ok := by
 constructor
 intro H enc w base sp held fuel cs x hx
 obtain ⟨xs,n,_,_,hl,hxl,hf⟩ := DataW.trod_struct ht hx
 have := h.read enc w base sp held n cs (by omega) (fun f hf' => by
  obtain ⟨i,hi,rfl⟩ := List.getElem_of_mem hf'
  have hi':i < fs.size := by simpa using hi
  refine ⟨xs[i]'(by omega),?_⟩
  rw [← List.getElem?_eq_getElem]
  refine hf i _ ?_
  simp [hi'])
 simpa using this
end
def argRV (g:Bool) (T:Ty) (x:T.den):RV := .val g (cellsOf T x)
theorem cellsOf_closed (T:Ty) (x:T.den):(cellsOf T x).all Cell.closed = true := by
 induction T with
 | int k => rfl
 | bool => rfl
 | str => rfl
 | sl el e ih => rfl
 | pair a b iha ihb => simp only [cellsOf,List.all_append,iha,ihb,Bool.and_self]
theorem given_arg {w:World} {T:Ty} {x:T.den} {cs:List Value} (h:ROc w (All w) T x cs) {g:Bool} (hg:g = false → T.size = 1):Given w (All w) (fun _ _ => False) .rd (argRV g T x) (valOf g cs) :=
 ⟨cs,⟨cellsOf_closed T x,FAll.of_all (cellsOf_rep (X := bare w (All w)) T x cs h).1⟩,rfl,fun e => by rw [cellsOf_len]; exact hg e⟩
theorem law_calls {P:Program} {f:Nat} {ms:List PM} {F:FSem} (hs:Sound P f ms F) {w:World} {ys:List RV} {vs:List Value} {b:Bool} (hg:GivenAll w (All w) (fun _ _ _ => False) 0 ms ys vs) (hF:F ys = some (true,.val false [.bool b],[])) :
  Calls P f vs.toArray w fun e w' => e = .returned (.bool b) ∧ RowKit.Below w.heap.size w w' := by
 refine Calls.mono (hs.calls w (All w) (fun _ _ _ => False) ys vs _ _ hF ⟨fun g h => h,fun _ _ _ h => h.elim,fun _ _ _ _ _ h => h.elim⟩ hg) ?_
 intro e w' h
 match e,h with
 | .returned v,h =>
  obtain ⟨S',ψ',T,⟨us,⟨_,h1⟩,h2,_⟩,_⟩ := h
  refine ⟨?_,T.os,T.tape,T.output,T.grow,fun k hk => (T.keep k hk (fun ⟨_,_,h⟩ => h)).1⟩
  match us,h1 with
  | [u],h1 =>
   have hu:u = .bool b := h1.1
   rw [h2,hu]
   rfl
end Go.Proofs.YtedhpmhlmdcpbaaGreatDoor.E
