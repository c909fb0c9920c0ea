/- What the functions that are reached do, by the engine: for the proof (laws.FnDiskLess): part 2. No conditions. -/
import Derived.Test.YtjoggjjjlafdmaaGreatDoorGa
import Derived.RangeFuncNested
import Derived.RangeFuncBound
import Derived.RangeFuncCalls
import Derived.RangeFuncLeaves
import Derived.RangeFuncBox
import Derived.Shelf.Abstract
import Derived.WalkKit
import Derived.OwnWalkIn
import Derived.TacticsInMore
import Derived.LoopNIn
import Derived.LoopIn
import Derived.Test.YtjoggjjjlafdmaaGreatDoorProg
import Derived.Test.YtjoggjjjlafdmaaGreatDoorShelf
set_option linter.all false
section
namespace Go.Proofs.YtjoggjjjlafdmaaGreatDoor.E
open Go Go.RowKit Go.Shelf
attribute [local go_sem] Oper.semAt_some
abbrev SV:Type := Option Addr×Nat×Nat
abbrev E4:Type := Int×Int×SV×SV
def cE (e:E4):List Value := [.int .i64 e.1,.int .i64 e.2.1,.slice e.2.2.1.1 e.2.2.1.2.1 e.2.2.1.2.2,.slice e.2.2.2.1 e.2.2.2.2.1 e.2.2.2.2.2]
abbrev e0:E4 := (0,0,(none,0,0),(none,0,0))
set_option maxRecDepth 100000 in
set_option maxHeartbeats 2000000 in
theorem bk1_in (F:Fence) (n:Nat) (h7:F.fn 160) (hro:F.round = none) (hn:1 ≤ n) (l Bs n₀ b off cap:Nat) (cs:List E4) (hreach:cs.length ≤ 1048576) (hb:b < n₀) (hBn:Bs < n₀) (J Jx:List (Nat×E4) → World → Prop)
  (hY:∀ pre x W,J pre W → pre.length < cs.length → YieldAt F (n - 1) Tryz.prog l #[.int .i64 (x.1:Int),Value.agg (cE x.2).toArray] W fun e W' =>
   (e = .returned (.bool true) ∧ J (pre ++ [x]) W' ∧ Below n₀ W W') ∨ (e = .returned (.bool false) ∧ Jx (pre ++ [x]) W'))
  (W:World) (hBs:W.cell? ⟨Bs,0,none⟩ = some (.slice (some ⟨b,off,none⟩) cs.length cap)) (hc:∀ j c,cs[j]? = some c → Has W b (off + j * 4) (cE c)) (h0:J [] W) :
  CallsIn F n Tryz.prog 160 #[.func (.yield l) #[] #[],.pointer (some ⟨Bs,0,none⟩)] W fun e W' => (∃ v,e = .returned v) ∧
   ((∃ ys,ys = (List.range cs.length).map (fun j => (cs.length - 1 - j,cs.getD (cs.length - 1 - j) e0)) ∧ J ys W') ∨ (∃ pre,(∃ k,k ≤ cs.length ∧ pre = (List.range k).map (fun j => (cs.length - 1 - j,cs.getD (cs.length - 1 - j) e0))) ∧ Jx pre W')) := by
 refine callsIn_of_wp Tryz.func160 rfl h7 ?_ hro
 simp only [Tryz.ntmps160,List.size_toArray,List.length_cons,List.length_nil,Nat.reduceAdd,Nat.reduceSub,Array.replicate_succ,Array.replicate_zero,List.push_toArray,List.append_toArray,List.nil_append,List.cons_append]
 gi_wp2
 gi_loopw [3] (fun i wr => ∃ k:Nat,k ≤ cs.length ∧ i = .int .i64 ((cs.length:Int) - 1 - k) ∧ J ((List.range k).map (fun j => (cs.length - 1 - j,cs.getD (cs.length - 1 - j) e0))) wr ∧ Below n₀ W wr)
  (fun i _ => (intOf i + 1).toNat)
 case atStart => exact ⟨0,Nat.zero_le _,by simp,h0,Below.refl _ _⟩
 case round =>
  obtain ⟨k,hk,rfl,hJs,hnx⟩ := hrel
  have hBs' := (hnx.cell (p := ⟨Bs,0,none⟩) hBn).trans hBs
  by_cases hlt:k < cs.length
  ·obtain ⟨c,hcc⟩:∃ c,cs[cs.length - 1 - k]? = some c := ⟨_,List.getElem?_eq_getElem (by omega)⟩
   have hcH := hc _ c hcc
   obtain ⟨z0,z1,v2,v3⟩ := c
   have hidx:((cs.length:Int) - 1 - k) = ((cs.length - 1 - k:Nat):Int) := by omega
   rw [hidx]
   obtain ⟨fn,tmps,assign,body,hy,hR⟩ := hY _ (cs.length - 1 - k,(z0,z1,v2,v3)) wr hJs (by simp; exact hlt)
   dsimp only [cE] at hy
   have hge:((cs.length - 1 - k:Nat):Int) ≥ 0 := by omega
   have c0 := (hnx.cell (p := ⟨b,off + (cs.length - 1 - k) * 4,none⟩) hb).trans (hcH 0 (.int .i64 z0) rfl)
   have c1 := (hnx.cell (p := ⟨b,off + (cs.length - 1 - k) * 4 + 1,none⟩) hb).trans (hcH 1 (.int .i64 z1) rfl)
   have c2 := (hnx.cell (p := ⟨b,off + (cs.length - 1 - k) * 4 + 2,none⟩) hb).trans (hcH 2 (.slice v2.1 v2.2.1 v2.2.2) rfl)
   have c3 := (hnx.cell (p := ⟨b,off + (cs.length - 1 - k) * 4 + 3,none⟩) hb).trans (hcH 3 (.slice v3.1 v3.2.1 v3.2.2) rfl)
   have hget:cs.getD (cs.length - 1 - k) e0 = (z0,z1,v2,v3) := by simp [List.getD,hcc]
   have hup:(List.range k).map (fun j => (cs.length - 1 - j,cs.getD (cs.length - 1 - j) e0)) ++ [(cs.length - 1 - k,(z0,z1,v2,v3))] = (List.range (k + 1)).map (fun j => (cs.length - 1 - j,cs.getD (cs.length - 1 - j) e0)) := by
    rw [List.range_succ,List.map_append,List.map_singleton,hget]
   rw [hup] at hR
   gi_wp2
   refine hR.mono ?_
   rintro e W3 (⟨rfl,hJ3,hk3⟩ | ⟨rfl,hJx3⟩)
   ·gi_wp2
    go_roundw
    case rel => exact ⟨k + 1,by omega,by (simp; omega),hJ3,hnx.trans hk3⟩
    case measure => first | (simp [intOf]; done) | (simp [intOf]; omega)
   ·gi_wp2
    refine bodyPost_ret (results_none rfl _ _ _) rfl ?_
    exact ⟨⟨_,rfl⟩,.inr ⟨_,⟨k + 1,by omega,rfl⟩,hJx3⟩⟩
  ·obtain rfl:k = cs.length := by omega
   gi_wp2
   go_end0
   exact ⟨⟨_,rfl⟩,.inl ⟨_,rfl,hJs⟩⟩
set_option maxRecDepth 100000 in
set_option maxHeartbeats 1000000 in
theorem bk1_nil_in (F:Fence) (n:Nat) (h7:F.fn 160) (hro:F.round = none) (l Bs:Nat) (J:List (Nat×E4) → World → Prop) (W:World) (a:Option Addr) (cap:Nat) (hBs:W.cell? ⟨Bs,0,none⟩ = some (.slice a 0 cap)) (h0:J [] W) :
  CallsIn F n Tryz.prog 160 #[.func (.yield l) #[] #[],.pointer (some ⟨Bs,0,none⟩)] W fun e W' => (∃ v,e = .returned v) ∧ J [] W' := by
 refine callsIn_of_wp Tryz.func160 rfl h7 ?_ hro
 simp only [Tryz.ntmps160,List.size_toArray,List.length_cons,List.length_nil,Nat.reduceAdd,Nat.reduceSub,Array.replicate_succ,Array.replicate_zero,List.push_toArray,List.append_toArray,List.nil_append,List.cons_append]
 gi_wp2
 gi_loopw [3] (fun i wr => i = .int .i64 (-1) ∧ J [] wr) (fun _ _ => 0)
 case atStart => exact ⟨rfl,h0⟩
 case round =>
  obtain ⟨rfl,hJs⟩ := hrel
  gi_wp2
  go_end0
  exact ⟨⟨_,rfl⟩,hJs⟩
def Lies4 (n₀:Nat) (W:World) (sv:Value) (cs:List E4):Prop :=
 ((∃ a cap,sv = .slice a 0 cap) ∧ cs = []) ∨ ∃ b off cap,sv = .slice (some ⟨b,off,none⟩) cs.length cap ∧ b < n₀ ∧ ∀ j c,cs[j]? = some c → Has W b (off + j * 4) (cE c)
theorem Lies4.below {n₀:Nat} {A B:World} (h:Below n₀ A B) {sv:Value} {cs:List E4} (hl:Lies4 n₀ A sv cs):Lies4 n₀ B sv cs := by
 rcases hl with hl | ⟨b,off,cap,e,hb,hc⟩
 ·exact .inl hl
 ·exact .inr ⟨b,off,cap,e,hb,fun j c hj i v hv => (h.cell (p := ⟨b,off + j * 4 + i,none⟩) hb).trans (hc j c hj i v hv)⟩
abbrev backF (cs:List E4) (j:Nat):Nat×E4 := (cs.length - 1 - j,cs.getD (cs.length - 1 - j) e0)
theorem bk_stops (F:Fence) (n:Nat) (h8:F.fn 160) (hro:F.round = none) (hn:1 ≤ n) (Bs n₀:Nat) (sv:Value) (cs:List E4) (hreach:cs.length ≤ 1048576) (w:World) (hBn:Bs < n₀) (hn₀:n₀ ≤ w.heap.size)
  (hc:w.cell? ⟨Bs,0,none⟩ = some sv) (hI:Lies4 n₀ w sv cs) :
  SeqStopsK F n Tryz.prog 160 #[.pointer (some ⟨Bs,0,none⟩)] (fun x:Nat×E4 => #[Value.int .i64 (x.1:Int),Value.agg (cE x.2).toArray]) (Below n₀) (fun ys => ys = (List.range cs.length).map (backF cs))
   (fun pre => ∃ k,k ≤ cs.length ∧ pre = (List.range k).map (backF cs)) cs.length w := fun l J Jx W hW _ _ hY h0 => by
 have hc' := (hW.cell (p := ⟨Bs,0,none⟩) (Nat.lt_of_lt_of_le hBn hn₀)).trans hc
 rcases hI.below (hW.mono hn₀) with ⟨⟨a,cap,rfl⟩,rfl⟩ | ⟨b,off,cap,rfl,hb,hcs⟩
 ·exact (bk1_nil_in F n h8 hro l Bs J W a cap hc' h0).mono fun e W' ⟨he,hj⟩ => ⟨he,.inl ⟨_,rfl,hj⟩⟩
 ·exact bk1_in F n h8 hro hn l Bs n₀ b off cap cs hreach hb hBn J Jx hY W hc' hcs h0
set_option maxHeartbeats 1000000 in
theorem bk_in (F:Fence) (n:Nat) (h6:F.fn 118) (hro:F.round = none) (a:Option Addr) (len cap:Nat) (w:World) :
  CallsIn F n Tryz.prog 118 #[.slice a len cap] w fun e w' => e = .returned (.func (.func 160) #[] #[.pointer (some ⟨w.heap.size,0,none⟩)]) ∧ w' = w.alloc (.cells #[.slice a len cap] 57) := by
 refine callsIn_of_wp Tryz.func118 rfl h6 ?_ hro
 simp only [Tryz.ntmps118,List.size_toArray,List.length_cons,List.length_nil,Nat.reduceAdd,Nat.reduceSub,Array.replicate_succ,Array.replicate_zero,List.push_toArray,List.append_toArray,List.nil_append,List.cons_append]
 gi_wp2
 go_ret
 exact ⟨rfl,rfl⟩
theorem cellA {W:World} {p:Addr} {v:Value} (o:Obj) (h:W.cell? p = some v):(W.alloc o).cell? p = some v := (World.grownBy_alloc W o none).cell h (by simp)
theorem frozenA {W:World} {p:Addr} {v:Value} (o:Obj) (h:W.cell? p = some v) (hf:W.frozen? p = false):(W.alloc o).frozen? p = false :=
 (World.frozen?_of_block ((World.grownBy_alloc W o none).block p.block (World.block_lt_of_cell? W p h) (by simp))).trans hf
theorem cellN {W:World} {cur:Array Value} {e:TypeId} {j:Nat} {v:Value} (h:cur[j]? = some v):(W.alloc (.cells cur e)).cell? ⟨W.heap.size,j,none⟩ = some v := by
 rw [cell_of_row _ _ j _ _ _ (World.alloc_heap_new W (.cells cur e))]
 exact h
abbrev NT_:Ty := .pair (.int .i64) (.pair (.int .i64) (.pair (.sl 9 .str) (.sl 39 (.pair .str (.pair .bool (.sl 3 (.int .i64)))))))
theorem notes_cells {w:World} {S:Nat → Prop} (hS:∀ g,S g → g < w.heap.size) {l:List NT_.den} {sv:Value} (h:ROc w S (.sl 72 NT_) l [sv]) :
  ∃ (A:Option Addr) (cap:Nat) (cs:List E4),sv = .slice A l.length cap ∧ cs.length = l.length ∧ Lies4 w.heap.size w sv cs ∧ ∀ (i:Nat) (x:NT_.den),l[i]? = some x → ∃ e:E4,cs[i]? = some e ∧ e.1 = x.1 ∧ e.2.1 = x.2.1 ∧ ROc w S (.sl 39 (.pair .str (.pair .bool (.sl 3 (.int .i64))))) x.2.2.2 [.slice e.2.2.2.1 e.2.2.2.2.1 e.2.2.2.2.2] := by
 obtain ⟨A,cap,e1,_,h3⟩ := h
 injection e1 with e1 _
 subst e1
 by_cases hl:l.length = 0
 ·refine ⟨A,cap,[],rfl,by simp [hl],.inl ⟨⟨A,cap,by rw [hl]⟩,rfl⟩,fun i x hx => ?_⟩
  have:i < l.length := (List.getElem?_eq_some_iff.1 hx).1
  omega
 ·obtain ⟨g,off,c0,e2,hg,_⟩ := h3 0 l[0] (List.getElem?_eq_getElem (by omega))
  have key:∀ i:Nat,∃ e:E4,∀ x:NT_.den,l[i]? = some x → Has w g (off + i * 4) (cE e) ∧ e.1 = x.1 ∧ e.2.1 = x.2.1 ∧ ROc w S (.sl 39 (.pair .str (.pair .bool (.sl 3 (.int .i64))))) x.2.2.2 [.slice e.2.2.2.1 e.2.2.2.2.1 e.2.2.2.2.2] := by
   intro i
   cases hi:l[i]? with
   | none => exact ⟨e0,fun x hx => by cases hx⟩
   | some x =>
    obtain ⟨g',off',c,f1,f2,f3,f4,f5⟩ := h3 i x hi
    rw [e2] at f1
    injection f1 with f1
    injection f1 with f1 f1'
    subst f1
    subst f1'
    obtain ⟨c1,c2,r1,_,r2,c3,c4,r3,_,r4,c5,c6,r5,r6,r7,r8⟩ := f5
    obtain ⟨A5,cap5,s1,_⟩ := r7
    have r8' := r8
    obtain ⟨A6,cap6,s2,_⟩ := r8
    subst r1 r3 r5 s1 s2
    rw [show c1 = _ from r2,show c3 = _ from r4] at f4
    exact ⟨(x.1,x.2.1,(A5,x.2.2.1.length,cap5),(A6,x.2.2.2.length,cap6)),fun y hy => by cases hy; exact ⟨f4,rfl,rfl,r8'⟩⟩
  have hf := Classical.choice (α := { f:Nat → E4 // ∀ (i:Nat) (x:NT_.den),l[i]? = some x → Has w g (off + i * 4) (cE (f i)) ∧ (f i).1 = x.1 ∧ (f i).2.1 = x.2.1 ∧ ROc w S (.sl 39 (.pair .str (.pair .bool (.sl 3 (.int .i64))))) x.2.2.2 [.slice (f i).2.2.2.1 (f i).2.2.2.2.1 (f i).2.2.2.2.2] }) ⟨⟨fun i => (key i).choose,fun i => (key i).choose_spec⟩⟩
  obtain ⟨f,hf⟩ := hf
  have hget:∀ i,i < l.length → ((List.range l.length).map f)[i]? = some (f i) := fun i hi => by simp [hi]
  refine ⟨A,cap,(List.range l.length).map f,rfl,by simp,.inr ⟨g,off,cap,by rw [e2]; simp,hS g hg,fun j c hj => ?_⟩,fun i x hx => ?_⟩
  ·have hjl:j < l.length := by
    have := (List.getElem?_eq_some_iff.1 hj).1
    simpa using this
   rw [hget j hjl] at hj
   injection hj with hj
   subst hj
   exact (hf j l[j] (List.getElem?_eq_getElem hjl)).1
  ·have hi := (List.getElem?_eq_some_iff.1 hx).1
   exact ⟨f i,hget i hi,(hf i x hx).2⟩
end Go.Proofs.YtjoggjjjlafdmaaGreatDoor.E
end
section
namespace Go.Proofs.YtjoggjjjlafdmaaGreatDoor.E
open Go Go.RowKit Go.Shelf
attribute [local go_sem] Oper.semAt_some
def isRd (tx:Int) (e:E4):Bool := decide (e.2.1 = tx)&&decide (e.1 = 1)
set_option maxRecDepth 100000 in
set_option maxHeartbeats 4000000 in
theorem ready_in (F:Fence) (n:Nat) (h4:F.fn 70) (h6:F.fn 118) (h8:F.fn 160) (hro:F.round = none) (hn:3 ≤ n) (a:Option Addr) (len cap:Nat) (tx:Int) (cs:List E4) (hreach:cs.length ≤ 1048576) (w:World) (hI:Lies4 w.heap.size w (.slice a len cap) cs) :
  CallsIn F n Tryz.prog 70 #[.slice a len cap,.int .i64 tx] w fun e W' =>
   (e = .returned (.tuple #[.slice none 0 0,.bool false]) ∧ (∀ j,j < cs.length → isRd tx (cs.getD j e0) = false) ∨ ∃ k,k < cs.length ∧ e = .returned (.tuple #[.slice (cs.getD k e0).2.2.2.1 (cs.getD k e0).2.2.2.2.1 (cs.getD k e0).2.2.2.2.2,.bool true]) ∧ isRd tx (cs.getD k e0) = true ∧ ∀ j,k < j → j < cs.length → isRd tx (cs.getD j e0) = false) ∧ Below w.heap.size w W' := by
 have h1:1 ≤ n := by omega
 refine callsIn_of_wp_marks Tryz.func70 rfl h4 ?_ hro
 simp only [Tryz.ntmps70,List.size_toArray,List.length_cons,List.length_nil,Nat.reduceAdd,Nat.reduceSub,Array.replicate_succ,Array.replicate_zero,List.push_toArray,List.append_toArray,List.nil_append,List.cons_append]
 gi_wp2_with (gi_at_call 118; refine (bk_in F (n - 1) h6 hro _ _ _ _).mono ?_; rintro e w' ⟨rfl,rfl⟩)
 have hB0:Below w.heap.size w ((((w.alloc (.cells #[.int .i64 tx] 3)).alloc (.cells #[.slice none 0 0] 31)).alloc (.cells #[.bool false] 4)).alloc (.cells #[.slice a len cap] 57)) :=
  ((((Below.refl _ w).alloc (Nat.le_refl _) _).alloc (by simp) _).alloc (by simp; omega) _).alloc (by simp; omega) _
 have b3 := (((Boxed.new w 3 (.int .i64 tx)).alloc (.cells #[.slice none 0 0] 31)).alloc (.cells #[.bool false] 4)).alloc (.cells #[.slice a len cap] 57)
 have b4 := ((Boxed.new (w.alloc (.cells #[.int .i64 tx] 3)) 31 (.slice none 0 0)).alloc (.cells #[.bool false] 4)).alloc (.cells #[.slice a len cap] 57)
 have b5 := (Boxed.new ((w.alloc (.cells #[.int .i64 tx] 3)).alloc (.cells #[.slice none 0 0] 31)) 4 (.bool false)).alloc (.cells #[.slice a len cap] 57)
 have bs := Boxed.new (((w.alloc (.cells #[.int .i64 tx] 3)).alloc (.cells #[.slice none 0 0] 31)).alloc (.cells #[.bool false] 4)) 57 (.slice a len cap)
 simp only [World.size_alloc] at b3 b4 b5 bs
 have hsz:((((w.alloc (.cells #[.int .i64 tx] 3)).alloc (.cells #[.slice none 0 0] 31)).alloc (.cells #[.bool false] 4)).alloc (.cells #[.slice a len cap] 57)).heap.size = w.heap.size + 1 + 1 + 1 + 1 := by simp only [World.size_alloc]
 generalize hW0:((((w.alloc (.cells #[.int .i64 tx] 3)).alloc (.cells #[.slice none 0 0] 31)).alloc (.cells #[.bool false] 4)).alloc (.cells #[.slice a len cap] 57)) = W0 at hB0 b3 b4 b5 bs hsz ⊢
 have hI0:Lies4 (w.heap.size + 1 + 1 + 1 + 1) W0 (.slice a len cap) cs := by
  rcases hI.below hB0 with h | ⟨b,off,cap',e,hb,hc⟩
  ·exact .inl h
  ·exact .inr ⟨b,off,cap',e,by omega,hc⟩
 refine wpIn_rangeFunc_ownH hro h1 (gf := 160) (lb := #[.pointer (some ⟨w.heap.size + 1 + 1 + 1,0,none⟩)]) rfl h8 (enters_of Tryz.func160 (by kernel_rfl) rfl)
  (bk_stops F (n - 1) h8 hro (by omega) (w.heap.size + 1 + 1 + 1) (w.heap.size + 1 + 1 + 1 + 1) (.slice a len cap) cs hreach W0 (by omega) (by omega) bs.cell hI0) belowK_t (belowK_b (by omega)) (Below.refl _ _) (fun _ => rfl)
  (fun pre W => ((∀ p ∈ pre,isRd tx p.2 = false) ∧ W.cell? ⟨w.heap.size,0,none⟩ = some (.int .i64 tx) ∧ W.cell? ⟨w.heap.size + 1,0,none⟩ = some (.slice none 0 0) ∧ W.cell? ⟨w.heap.size + 1 + 1,0,none⟩ = some (.bool false) ∧ W.frozen? ⟨w.heap.size + 1,0,none⟩ = false ∧ W.frozen? ⟨w.heap.size + 1 + 1,0,none⟩ = false ∧ w.heap.size + 1 + 1 + 1 + 1 ≤ W.heap.size) ∧ Below w.heap.size w W)
  (fun c pre W => (c = .ret ∧ ∃ ini last,pre = ini ++ [last] ∧ (∀ p ∈ ini,isRd tx p.2 = false) ∧ isRd tx last.2 = true ∧ W.cell? ⟨w.heap.size + 1,0,none⟩ = some (.slice last.2.2.2.2.1 last.2.2.2.2.2.1 last.2.2.2.2.2.2) ∧ W.cell? ⟨w.heap.size + 1 + 1,0,none⟩ = some (.bool true)) ∧ Below w.heap.size w W)
  (OwnFrom.and (Own.from (fun s A B row hs hg hr => ⟨hs.1,cell_kept hs.2.1 hg hr,cell_kept hs.2.2.1 hg hr,cell_kept hs.2.2.2.1 hg hr,(frozen_kept hs.2.2.1 hg hr).trans hs.2.2.2.2.1,(frozen_kept hs.2.2.2.1 hg hr).trans hs.2.2.2.2.2.1,Nat.le_trans hs.2.2.2.2.2.2 hg.size⟩) _) (ownFrom_below (Nat.le_refl _) (by omega)))
  (fun c => OwnFrom.and (Own.from (fun s A B row hs hg hr => by obtain ⟨hc,ini,last,e1,e2,e3,e4,e5⟩ := hs; exact ⟨hc,ini,last,e1,e2,e3,cell_kept e4 hg hr,cell_kept e5 hg hr⟩) _) (ownFrom_below (Nat.le_refl _) (by omega)))
  ⟨⟨by simp,b3.cell,b4.cell,b5.cell,b4.frozen,b5.frozen,by omega⟩,hB0⟩
  (fun x a' W => ∃ Bx,w.heap.size + 1 + 1 + 1 + 1 ≤ Bx ∧ W.cell? ⟨Bx,0,none⟩ = some (.int .i64 x.2.1) ∧ W.cell? ⟨Bx,1,none⟩ = some (.int .i64 x.2.2.1) ∧ W.cell? ⟨Bx,3,none⟩ = some (.slice x.2.2.2.2.1 x.2.2.2.2.2.1 x.2.2.2.2.2.2) ∧
   a' = { tmps := #[.slice a len cap,.int .i64 tx,undef,.pointer (some ⟨w.heap.size,0,none⟩),.pointer (some ⟨w.heap.size + 1,0,none⟩),.pointer (some ⟨w.heap.size + 1 + 1,0,none⟩),undef,.pointer (some ⟨Bx,0,none⟩),.slice a len cap,.func (.func 160) #[] #[.pointer (some ⟨w.heap.size + 1 + 1 + 1,0,none⟩)],.int .i64 (x.1:Int),.agg (cE x.2).toArray,undef,undef,undef,undef,undef,undef,undef,undef,undef,undef,undef],defers := [] })
  (fun x a' => Own.from (fun s A B row hs hg hr => by obtain ⟨Bx,e1,e2,e3,e3',e4⟩ := hs; exact ⟨Bx,e1,cell_kept e2 hg hr,cell_kept e3 hg hr,cell_kept e3' hg hr,e4⟩) _) ?assign ?body ?done ?stop
 case assign =>
  rintro l pre x W K ⟨⟨hp,h3,h4',h5',h5,h6',h9⟩,hB⟩ hK
  obtain ⟨i,z0,z1,v2,v3⟩ := x
  simp only [cE]
  gi_wp2
  exact hK _ _ ((KeepsOthers.alloc _ _).from _) ((Below.refl _ W).alloc h9 _) ⟨⟨hp,cellA _ h3,cellA _ h4',cellA _ h5',frozenA _ h4' h5,frozenA _ h5' h6',by simp; omega⟩,hB.alloc (by omega) _⟩
   ⟨W.heap.size,h9,cellN rfl,cellN rfl,cellN rfl,rfl⟩
 case body =>
  rintro l pre x a' W hl hr ⟨⟨hp,h3,h4',h5',h5,h6',h9⟩,hB⟩ ⟨Bx,hBx,x0,x1,x3,rfl⟩ hlt
  have hne:(⟨w.heap.size + 1 + 1,0,none⟩:Addr) ≠ ⟨w.heap.size + 1,0,none⟩ := by simp
  have c1:∀ (A:World) (v u:Value),A.cell? ⟨w.heap.size + 1,0,none⟩ = some u → (A.setCell ⟨w.heap.size + 1,0,none⟩ v).cell? ⟨w.heap.size + 1,0,none⟩ = some v := fun A v u h => World.cell?_setCell_same' _ _ _ (by rw [h]; rfl)
  gi_wp2
  ·have e1:x.2.2.1 = tx := by assumption
   have e2:(x.2.1 == 1) = true := by assumption
   have e2:x.2.1 = 1 := by simpa using e2
   exact ⟨((KeepsOthers.setCell _ _ _).trans (KeepsOthers.setCell _ _ _)).from _,⟨rfl,pre,x,rfl,hp,by simp [isRd,e1,e2],(World.cell?_setCell_other _ _ _ _ hne).trans (c1 _ _ _ h4'),World.cell?_setCell_same' _ _ _ (by rw [World.cell?_setCell_other _ _ _ _ hne.symm,h5']; rfl)⟩,
    (hB.setCell (p := ⟨w.heap.size + 1,0,none⟩) (by show _ ≤ w.heap.size + 1; omega) _).setCell (p := ⟨w.heap.size + 1 + 1,0,none⟩) (by show _ ≤ w.heap.size + 1 + 1; omega) _⟩
  ·have e2:(x.2.1 == 1) = false := by assumption
   have e2:¬ x.2.1 = 1 := by simpa using e2
   exact ⟨KeepsFrom.refl _ _,Below.refl _ _,⟨fun p hp' => (List.mem_append.1 hp').elim (hp p) (fun e => by simp at e; subst e; simp [isRd,e2]),h3,h4',h5',h5,h6',h9⟩,hB⟩
  ·have e1:¬ x.2.2.1 = tx := by assumption
   exact ⟨KeepsFrom.refl _ _,Below.refl _ _,⟨fun p hp' => (List.mem_append.1 hp').elim (hp p) (fun e => by simp at e; subst e; simp [isRd,e1]),h3,h4',h5',h5,h6',h9⟩,hB⟩
 case done =>
  rintro D ys W hD rfl ⟨⟨hno,h3,hcr,hcb,hfr,hfb,h9⟩,hB⟩ hK
  have hne:(⟨w.heap.size + 1 + 1,0,none⟩:Addr) ≠ ⟨w.heap.size + 1,0,none⟩ := by simp
  gi_wp2
  have hK' := (KeepsOthers.setCell W ⟨w.heap.size + 1,0,none⟩ (.slice none 0 0)).same D _ hK rfl
  have hK'' := (KeepsOthers.setCell (W.setCell ⟨w.heap.size + 1,0,none⟩ (.slice none 0 0)) ⟨w.heap.size + 1 + 1,0,none⟩ (.bool false)).same D _ hK' rfl
  refine ⟨by simp,.inl ⟨_,_,rfl,run_takeDeferred hK'',?_⟩⟩
  have hc4 := cell_kept ((World.cell?_setCell_other _ _ _ _ hne).trans (World.cell?_setCell_same' W ⟨w.heap.size + 1,0,none⟩ (.slice none 0 0) (by rw [hcr]; rfl))) (grownBy_putObj' _ D (.deferred none)) (fun r e => by cases e; exact ⟨_,hK'',rfl⟩)
  have hc5 := cell_kept (World.cell?_setCell_same' (W.setCell ⟨w.heap.size + 1,0,none⟩ (.slice none 0 0)) ⟨w.heap.size + 1 + 1,0,none⟩ (.bool false) (by rw [World.cell?_setCell_other _ _ _ _ hne.symm,hcb]; rfl)) (grownBy_putObj' _ D (.deferred none)) (fun r e => by cases e; exact ⟨_,hK'',rfl⟩)
  refine ⟨.tuple #[.slice none 0 0,.bool false],?_,.inl ⟨rfl,fun j hj => ?_⟩,((hB.setCell (p := ⟨w.heap.size + 1,0,none⟩) (by show _ ≤ w.heap.size + 1; omega) _).setCell (p := ⟨w.heap.size + 1 + 1,0,none⟩) (by show _ ≤ w.heap.size + 1 + 1; omega) _).trans (belowK_b (w := w) (Nat.le_refl _) _ D _ _ (by omega) hK'' rfl rfl)⟩
  ·simp [results,Tryz.f70,go_sem,hc4,hc5]
  ·have := hno (backF cs (cs.length - 1 - j)) (List.mem_map.2 ⟨_,List.mem_range.2 (by omega),rfl⟩)
   simp only [backF] at this
   rwa [show cs.length - 1 - (cs.length - 1 - j) = j by omega] at this
 case stop =>
  rintro D c pre W hD ⟨k,hk,rfl⟩ ⟨⟨rfl,ini,last,e1,e2,e3,hcr,hcb⟩,hB⟩ hK
  gi_wp2
  refine ⟨by simp,.inl ⟨_,_,rfl,run_takeDeferred hK,?_⟩⟩
  have hc4 := cell_kept hcr (grownBy_putObj' _ D (.deferred none)) (fun r e => by cases e; exact ⟨_,hK,rfl⟩)
  have hc5 := cell_kept hcb (grownBy_putObj' _ D (.deferred none)) (fun r e => by cases e; exact ⟨_,hK,rfl⟩)
  obtain ⟨k',rfl⟩:∃ k',k = k' + 1 := by
   cases k with
   | zero => simp at e1
   | succ k' => exact ⟨k',rfl⟩
  rw [List.range_succ,List.map_append] at e1
  obtain ⟨rfl,e5⟩ := List.append_inj' e1 rfl
  obtain rfl:backF cs k' = last := by simpa using e5
  refine ⟨.tuple #[.slice (cs.getD (cs.length - 1 - k') e0).2.2.2.1 (cs.getD (cs.length - 1 - k') e0).2.2.2.2.1 (cs.getD (cs.length - 1 - k') e0).2.2.2.2.2,.bool true],?_,.inr ⟨cs.length - 1 - k',by omega,rfl,e3,fun j hj hj2 => ?_⟩,hB.trans (belowK_b (w := w) (Nat.le_refl _) W D _ _ (by omega) hK rfl rfl)⟩
  ·simp [results,Tryz.f70,go_sem,hc4,hc5]
  ·have := e2 (backF cs (cs.length - 1 - j)) (List.mem_map.2 ⟨_,List.mem_range.2 (by omega),rfl⟩)
   simp only [backF] at this
   rwa [show cs.length - 1 - (cs.length - 1 - j) = j by omega] at this
end Go.Proofs.YtjoggjjjlafdmaaGreatDoor.E
namespace Go.Proofs.YtjoggjjjlafdmaaGreatDoor.E
open Go Go.RowKit
def msi_ready:List PM := [.fz,.own]
def g_ready (l:List (Int×Int×List ByteArray×List (ByteArray×Bool×List Int))) (tx:Int):Option (Int×Int×List ByteArray×List (ByteArray×Bool×List Int)) := l.reverse.find? fun n => decide (n.2.1 = tx)&&decide (n.1 = 1)
def g_Vi_ready_0 (l:List (Int×Int×List ByteArray×List (ByteArray×Bool×List Int))) (tx:Int):List (ByteArray×Bool×List Int) := ((g_ready l tx).map (·.2.2.2)).getD []
def g_Vi_ready_1 (l:List (Int×Int×List ByteArray×List (ByteArray×Bool×List Int))) (tx:Int):Bool := (g_ready l tx).isSome
def g_Ai_ready (l:List (Int×Int×List ByteArray×List (ByteArray×Bool×List Int))):Bool := decide (l.length ≤ 1048576)
def Fi_ready:FSem := fun ys => match ys with
 | [.val false [.sl .any 72 (.pair (.int .i64) (.pair (.int .i64) (.pair (.sl 9 .str) (.sl 39 (.pair .str (.pair .bool (.sl 3 (.int .i64)))))))) a0],.val false [.int .i64 a1]] => some (g_Ai_ready a0,.tup [(false,[.sl .any 39 (.pair .str (.pair .bool (.sl 3 (.int .i64)))) (g_Vi_ready_0 a0 a1)]),(false,[.bool (g_Vi_ready_1 a0 a1)])],[])
 | _ => none
theorem si_ready:Sound Tryz.prog 70 msi_ready Fi_ready := by
 refine ⟨⟨_,Tryz.func70,by kernel_rfl,by kernel_rfl⟩,fun w S ψ ys vs r outs hF hh hg => ?_⟩
 unfold Fi_ready at hF
 split at hF
 ·rename_i l tx
  simp only [Option.some.injEq,Prod.mk.injEq,g_Ai_ready,decide_eq_true_eq] at hF
  obtain ⟨hlen,rfl,rfl⟩ := hF
  match vs,hg with
  | [v0,v1],hg =>
  obtain ⟨⟨us,⟨_,hb⟩,rfl,_⟩,⟨us1,⟨_,hb1⟩,rfl,_⟩,_⟩ := hg
  match us,hb,us1,hb1 with
  | [sv],⟨⟨_,h1⟩,_⟩,[tv],⟨h3,_⟩ =>
  have h3:tv = .int .i64 tx := h3
  subst h3
  obtain ⟨A,cap,cs,rfl,hcl,hlies,hcs⟩ := notes_cells hh.lt h1
  have hof:∀ (j:Nat) (x:NT_.den),l[j]? = some x → isRd tx (cs.getD j e0) = (decide (x.2.1 = tx)&&decide (x.1 = 1)) ∧ ROc w S (.sl 39 (.pair .str (.pair .bool (.sl 3 (.int .i64))))) x.2.2.2 [.slice (cs.getD j e0).2.2.2.1 (cs.getD j e0).2.2.2.2.1 (cs.getD j e0).2.2.2.2.2] := by
   intro j x hx
   obtain ⟨e,a1,a2,a3,a4⟩ := hcs j x hx
   rw [List.getD,a1]
   simp only [Option.getD_some,isRd,a2,a3,true_and]
   exact a4
  refine Calls.mono ((callsIn_wide (n := 3)).1 (ready_in Fence.wide 3 trivial trivial trivial rfl (by omega) A l.length cap tx cs (by omega) w hlies)) ?_
  rintro e w' ⟨he,hbl⟩
  have hval:∃ sv,e = .returned (.tuple #[sv,.bool (g_Vi_ready_1 l tx)]) ∧ ROc w S (.sl 39 (.pair .str (.pair .bool (.sl 3 (.int .i64))))) (g_Vi_ready_0 l tx) [sv] := by
   unfold g_Vi_ready_0 g_Vi_ready_1
   rcases he with ⟨rfl,hno⟩ | ⟨k,hk,rfl,hk1,hk2⟩
   ·have hn:g_ready l tx = none := by
     unfold g_ready
     rw [List.find?_eq_none]
     intro x hx
     obtain ⟨i,hi,rfl⟩ := List.getElem_of_mem (List.mem_reverse.1 hx)
     have := hno i (by omega)
     rw [(hof i _ (List.getElem?_eq_getElem hi)).1] at this
     simpa using this
    rw [hn]
    exact ⟨_,rfl,none,0,rfl,⟨Nat.le_refl _,fun _ => rfl⟩,fun i x hx => by cases hx⟩
   ·have hk':k < l.length := by omega
    have hx := List.getElem?_eq_getElem hk'
    rw [(hof k _ hx).1] at hk1
    have hs:g_ready l tx = some l[k] := by
     unfold g_ready
     rw [List.find?_eq_some_iff_getElem]
     refine ⟨hk1,l.length - 1 - k,by simp; omega,?_,fun j hj => ?_⟩
     ·rw [List.getElem_reverse]
      congr 1
      omega
     ·rw [List.getElem_reverse]
      have := hk2 (l.length - 1 - j) (by omega) (by omega)
      rw [(hof _ _ (List.getElem?_eq_getElem (by omega))).1] at this
      simp only [this,Bool.not_false]
    rw [hs]
    exact ⟨_,rfl,(hof k _ hx).2⟩
  obtain ⟨sv,rfl,hro⟩ := hval
  refine ⟨S,fun _ _ _ => False,⟨hbl.os,hbl.tape,hbl.output,hbl.size,fun g hg' _ => ⟨hbl.block g hg',Iff.rfl,fun ⟨_,_,h⟩ => h⟩,⟨fun g hg' => Nat.lt_of_lt_of_le (hh.lt g hg') hbl.size,fun _ _ _ h => h.elim,fun _ _ _ _ _ h => h.elim⟩⟩,⟨[_,_],rfl,⟨[_],⟨rfl,⟨trivial,ROc.move (fun g hg => ⟨hg,hbl.block g (hh.lt g hg)⟩) _ _ _ hro⟩,trivial⟩,rfl,fun _ => rfl⟩,⟨[_],⟨rfl,rfl,trivial⟩,rfl,fun _ => rfl⟩,trivial⟩,rfl⟩
 ·cases hF
end Go.Proofs.YtjoggjjjlafdmaaGreatDoor.E
end
namespace Go.Proofs.YtjoggjjjlafdmaaGreatDoor.E
open Go
set_option maxRecDepth 100000
set_option maxHeartbeats 0
noncomputable def Ei_DiskFold_fr:Env where
 tt := mkTI Tryz.prog
 fn := fun f => match f with
  | 35 => some (msi_StoDo,FSem.wk msi_StoDo Fi_StoDo)
  | 69 => some (msi_DiskOk,FSem.wk msi_DiskOk Fi_DiskOk)
  | 70 => some (msi_ready,FSem.wk msi_ready Fi_ready)
  | _ => none
 bxf := fun _ => none
 mv := []
 keep := fun b => match b with
  | 0 => [(1,false),(2,false),(3,false),(13,false),(14,false),(15,false)]
  | _ => []
 keepB := fun b => match b with
  | 0 => [(1,false),(2,false),(3,false)]
  | _ => []
 keepX := fun b => match b with
  | 0 => [(2,false),(3,false)]
  | _ => []
 keepXB := fun b => match b with
  | 0 => [(2,false),(3,false)]
  | _ => []
theorem goodFi_DiskFold_fr:∀ f ms F,Ei_DiskFold_fr.fn f = some (ms,F) → Sound Tryz.prog f ms F := fun f ms F h => by
 unfold Ei_DiskFold_fr at h
 dsimp only at h
 split at h
 ·injection h with h; injection h with e1 e2; subst e1 e2; exact Sound.wk si_StoDo
 ·injection h with h; injection h with e1 e2; subst e1 e2; exact Sound.wk si_DiskOk
 ·injection h with h; injection h with e1 e2; subst e1 e2; exact Sound.wk si_ready
 ·cases h
theorem goodBi_DiskFold_fr:∀ f ms F,Ei_DiskFold_fr.bxf f = some (ms,F) → SoundB Tryz.prog f ms F := fun f ms F h => by cases h
theorem goodi_DiskFold_fr:Good Tryz.prog Ei_DiskFold_fr := ⟨rfl,goodFi_DiskFold_fr,goodBi_DiskFold_fr⟩
noncomputable def Oi_DiskFold_fr_0:Orc := fun _ _ => none
noncomputable def msi_DiskFold_fr:List PM := [.fz]
noncomputable def lsi_DiskFold_fr:List (Nat×Code) := loopsAll 0 (Tryz.f25.body.getD .skip)
noncomputable def ci_DiskFold_fr_0:Code := (loopOf 0 (Tryz.f25.body.getD .skip)).getD .skip
theorem lseqi_DiskFold_fr:lsi_DiskFold_fr = [(0,ci_DiskFold_fr_0)] := by kernel_rfl
theorem mi_DiskFold_fr_0:∀ p,p ∈ lsi_DiskFold_fr → p.1 = 0 → p.2 = ci_DiskFold_fr_0 := by
 intro p hp
 rw [lseqi_DiskFold_fr] at hp
 simp only [List.mem_cons,List.not_mem_nil,or_false] at hp
 subst hp; simp
theorem ki_DiskFold_fr_0:OrcOk Ei_DiskFold_fr Oi_DiskFold_fr_0 lsi_DiskFold_fr 0 := orcOk_none
noncomputable def hi_DiskFold_fr_0 (y0:List (Int×(Int×((List ByteArray)×(List (ByteArray×(Bool×(List Int)))))))) (y1:Int) (y2:Int) (y3:List (Int×(Int×((List ByteArray)×(List (ByteArray×(Bool×(List Int)))))))) (y4:Int) (y5:List (ByteArray×(List Int))) (y6:List (ByteArray×(List Int))):List (Pl×LV) := [(.T 1,.t (.val false [.ptr 1 0 0])),(.T 2,.t (.val false [.ptr 2 0 0])),(.T 3,.t (.val false [.ptr 3 0 0])),(.T 13,.t (.val false [.sl .any 72 (.pair (.int .i64) (.pair (.int .i64) (.pair (.sl 9 .str) (.sl 39 (.pair .str (.pair .bool (.sl 3 (.int .i64)))))))) y0])),(.T 14,.t (.val false [.int .i64 y1])),(.T 15,.t (.val false [.int .i64 y2])),(.B 1,.b 0 false [.sl .any 72 (.pair (.int .i64) (.pair (.int .i64) (.pair (.sl 9 .str) (.sl 39 (.pair .str (.pair .bool (.sl 3 (.int .i64)))))))) y3,.int .i64 y4]),(.B 2,.b 0 false [.row 2 1 0]),(.R 2 1,.r 0 (some ⟨false,.any,true,49,(.pair .str (.sl 3 (.int .i64))),y5⟩)),(.B 3,.b 0 false [.row 3 1 0]),(.R 3 1,.r 0 (some ⟨false,.any,true,49,(.pair .str (.sl 3 (.int .i64))),y6⟩))]
noncomputable def g_Si_DiskFold_fr_0 (y0:List (Int×(Int×((List ByteArray)×(List (ByteArray×(Bool×(List Int)))))))) (y1:Int) (y3:List (Int×(Int×((List ByteArray)×(List (ByteArray×(Bool×(List Int)))))))) (y4:Int) (y5:List (ByteArray×(List Int))):(Int×(List (ByteArray×(List Int)))) → RT (Int×(List (ByteArray×(List Int)))) (((List (ByteArray×(List Int)))))
 | (y2,y6) => .br (true) (.br (decide (y2 < y1)) (.br (decide ((0:Int) ≤ y2 ∧ y2 < (↑(List.length y0):Int))) (.br (true) (.br ((at_ (Ty.pair (Ty.int IntKind.i64) (Ty.pair (Ty.int IntKind.i64) (Ty.pair (Ty.sl (nat_lit 9) Ty.str) (Ty.sl (nat_lit 39) (Ty.pair Ty.str (Ty.pair Ty.bool (Ty.sl (nat_lit 3) (Ty.int IntKind.i64)))))))) y0 (Int.toNat y2)).1 != (2:Int)) (.br (true) (.go ((IntKind.wrap IntKind.i64 (y2 + (1:Int)),y6))) .bad) (.br (decide ((0:Int) ≤ y2 ∧ y2 ≤ (↑(List.length y3):Int))) (.br (g_Ai_ready (List.drop (nat_lit 0) (List.take (Int.toNat y2) y3))) (.br (g_Vi_ready_1 (List.drop (nat_lit 0) (List.take (Int.toNat y2) y3)) (at_ (Ty.pair (Ty.int IntKind.i64) (Ty.pair (Ty.int IntKind.i64) (Ty.pair (Ty.sl (nat_lit 9) Ty.str) (Ty.sl (nat_lit 39) (Ty.pair Ty.str (Ty.pair Ty.bool (Ty.sl (nat_lit 3) (Ty.int IntKind.i64)))))))) y0 (Int.toNat y2)).2.1) (.br (g_Ai_StoDo y6 (g_Vi_ready_0 (List.drop (nat_lit 0) (List.take (Int.toNat y2) y3)) (at_ (Ty.pair (Ty.int IntKind.i64) (Ty.pair (Ty.int IntKind.i64) (Ty.pair (Ty.sl (nat_lit 9) Ty.str) (Ty.sl (nat_lit 39) (Ty.pair Ty.str (Ty.pair Ty.bool (Ty.sl (nat_lit 3) (Ty.int IntKind.i64)))))))) y0 (Int.toNat y2)).2.1)) (.br (true) (.go ((IntKind.wrap IntKind.i64 (y2 + (1:Int)),g_Vi_StoDo_0 y6 (g_Vi_ready_0 (List.drop (nat_lit 0) (List.take (Int.toNat y2) y3)) (at_ (Ty.pair (Ty.int IntKind.i64) (Ty.pair (Ty.int IntKind.i64) (Ty.pair (Ty.sl (nat_lit 9) Ty.str) (Ty.sl (nat_lit 39) (Ty.pair Ty.str (Ty.pair Ty.bool (Ty.sl (nat_lit 3) (Ty.int IntKind.i64)))))))) y0 (Int.toNat y2)).2.1)))) .bad) .bad) (.br (true) (.go ((IntKind.wrap IntKind.i64 (y2 + (1:Int)),y6))) .bad)) .bad) .bad)) .bad) .bad) (.out (y6))) .bad
noncomputable def g_Li_DiskFold_fr_0 (y0:List (Int×(Int×((List ByteArray)×(List (ByteArray×(Bool×(List Int)))))))) (y1:Int) (y3:List (Int×(Int×((List ByteArray)×(List (ByteArray×(Bool×(List Int)))))))) (y4:Int) (y5:List (ByteArray×(List Int))) (x:Int×(List (ByteArray×(List Int)))):Option (((List (ByteArray×(List Int))))) := loopO (g_Si_DiskFold_fr_0 y0 y1 y3 y4 y5) x
noncomputable def xi_DiskFold_fr_0 (y0:List (Int×(Int×((List ByteArray)×(List (ByteArray×(Bool×(List Int)))))))) (y1:Int) (y3:List (Int×(Int×((List ByteArray)×(List (ByteArray×(Bool×(List Int)))))))) (y4:Int) (y5:List (ByteArray×(List Int))):(((List (ByteArray×(List Int))))) → Ex×List (Pl×LV) := fun r => (.exit 0,[(.T 2,.t (.val false [.ptr 2 0 0])),(.T 3,.t (.val false [.ptr 3 0 0])),(.B 2,.b 0 false [.row 2 1 0]),(.R 2 1,.r 0 (some ⟨false,.any,true,49,(.pair .str (.sl 3 (.int .i64))),y5⟩)),(.B 3,.b 0 false [.row 3 1 0]),(.R 3 1,.r 0 (some ⟨false,.any,true,49,(.pair .str (.sl 3 (.int .i64))),r⟩))])
noncomputable def Oi_DiskFold_fr_1:Orc := fun b h => match b,h with
 | 0,[(.T 1,.t (.val false [.ptr 1 0 0])),(.T 2,.t (.val false [.ptr 2 0 0])),(.T 3,.t (.val false [.ptr 3 0 0])),(.T 13,.t (.val false [.sl .any 72 (.pair (.int .i64) (.pair (.int .i64) (.pair (.sl 9 .str) (.sl 39 (.pair .str (.pair .bool (.sl 3 (.int .i64)))))))) y0])),(.T 14,.t (.val false [.int .i64 y1])),(.T 15,.t (.val false [.int .i64 y2])),(.B 1,.b 0 false [.sl .any 72 (.pair (.int .i64) (.pair (.int .i64) (.pair (.sl 9 .str) (.sl 39 (.pair .str (.pair .bool (.sl 3 (.int .i64)))))))) y3,.int .i64 y4]),(.B 2,.b 0 false [.row 2 1 0]),(.R 2 1,.r 0 (some ⟨false,.any,true,49,(.pair .str (.sl 3 (.int .i64))),y5⟩)),(.B 3,.b 0 false [.row 3 1 0]),(.R 3 1,.r 0 (some ⟨false,.any,true,49,(.pair .str (.sl 3 (.int .i64))),y6⟩))] => some (okO (g_Li_DiskFold_fr_0 y0 y1 y3 y4 y5 (y2,y6)),(.leaf (.exit 0) [(.T 2,.t (.val false [.ptr 2 0 0])),(.T 3,.t (.val false [.ptr 3 0 0])),(.B 2,.b 0 false [.row 2 1 0]),(.R 2 1,.r 0 (some ⟨false,.any,true,49,(.pair .str (.sl 3 (.int .i64))),y5⟩)),(.B 3,.b 0 false [.row 3 1 0]),(.R 3 1,.r 0 (some ⟨false,.any,true,49,(.pair .str (.sl 3 (.int .i64))),(valO (g_Li_DiskFold_fr_0 y0 y1 y3 y4 y5 (y2,y6)))⟩))]))
 | b,h => Oi_DiskFold_fr_0 b h
theorem bi_DiskFold_fr_0 (y0:List (Int×(Int×((List ByteArray)×(List (ByteArray×(Bool×(List Int)))))))) (y1:Int) (y2:Int) (y3:List (Int×(Int×((List ByteArray)×(List (ByteArray×(Bool×(List Int)))))))) (y4:Int) (y5:List (ByteArray×(List Int))) (y6:List (ByteArray×(List Int))):Tr.bt Ei_DiskFold_fr Oi_DiskFold_fr_0 (exec Ei_DiskFold_fr 0 ci_DiskFold_fr_0 (St.of (hi_DiskFold_fr_0 y0 y1 y2 y3 y4 y5 y6)) (leafRd Ei_DiskFold_fr 0)) = (g_Si_DiskFold_fr_0 y0 y1 y3 y4 y5 (y2,y6)).bt (fun ((y2,y6):Int×(List (ByteArray×(List Int)))) => (hi_DiskFold_fr_0 y0 y1 y2 y3 y4 y5 y6)) (xi_DiskFold_fr_0 y0 y1 y3 y4 y5) := by kernel_rfl
theorem ki_DiskFold_fr_1:OrcOk Ei_DiskFold_fr Oi_DiskFold_fr_1 lsi_DiskFold_fr 1 := orc_add ki_DiskFold_fr_0 (fun n p hp h ex h' ho => by
 obtain ⟨b,c⟩ := p
 obtain ⟨xt,h1,h2⟩ := ho
 have h1:Oi_DiskFold_fr_1 b h = some (true,xt) := h1
 unfold Oi_DiskFold_fr_1 at h1
 split at h1
 ·injection h1 with h1
  injection h1 with e1 e2
  subst e2
  have hc:c = ci_DiskFold_fr_0 := mi_DiskFold_fr_0 _ hp rfl
  subst hc
  right
  rename_i y0 y1 y2 y3 y4 y5 y6
  have key := LT_step ki_DiskFold_fr_0 hp (fun q hq => loopsAll_in _ _ _ _ hp hq) (fun ((y2,y6):Int×(List (ByteArray×(List Int)))) => (hi_DiskFold_fr_0 y0 y1 y2 y3 y4 y5 y6)) (xi_DiskFold_fr_0 y0 y1 y3 y4 y5) (g_Si_DiskFold_fr_0 y0 y1 y3 y4 y5) (fun x => by first | exact bi_DiskFold_fr_0 y0 y1 x.1 y3 y4 y5 x.2) n (x := (y2,y6)) (okO_some e1)
  have hx:∀ r,XT.sel (.leaf (.exit 0) [(.T 2,.t (.val false [.ptr 2 0 0])),(.T 3,.t (.val false [.ptr 3 0 0])),(.B 2,.b 0 false [.row 2 1 0]),(.R 2 1,.r 0 (some ⟨false,.any,true,49,(.pair .str (.sl 3 (.int .i64))),y5⟩)),(.B 3,.b 0 false [.row 3 1 0]),(.R 3 1,.r 0 (some ⟨false,.any,true,49,(.pair .str (.sl 3 (.int .i64))),r⟩))]) = xi_DiskFold_fr_0 y0 y1 y3 y4 y5 r := fun r => by first | rfl | (rcases r with r | r <;> rfl) | (rcases r with r | r | r <;> rfl) | (rcases r with r | r | r | r <;> rfl)
  have h3 := (hx (valO (g_Li_DiskFold_fr_0 y0 y1 y3 y4 y5 (y2,y6)))).symm.trans h2
  have e3 := congrArg Prod.fst h3
  have e4 := congrArg Prod.snd h3
  simp only at e3 e4
  rw [← e3,← e4]
  exact key
 ·exact .inl ⟨xt,h1,h2⟩)
noncomputable def g_Ai_DiskFold_fr (a0:List (Int×(Int×((List ByteArray)×(List (ByteArray×(Bool×(List Int)))))))) (a1:Int):Bool := g_Ai_DiskOk a0 a1&&(!g_Vi_DiskOk_0 a0 a1 || okO (g_Li_DiskFold_fr_0 a0 (↑(List.length a0):Int) a0 a1 [] ((0:Int),[])))
noncomputable def g_Vi_DiskFold_fr_0 (a0:List (Int×(Int×((List ByteArray)×(List (ByteArray×(Bool×(List Int)))))))) (a1:Int):List (ByteArray×(List Int)) := bif !g_Vi_DiskOk_0 a0 a1 then [] else valO (g_Li_DiskFold_fr_0 a0 (↑(List.length a0):Int) a0 a1 [] ((0:Int),[]))
noncomputable def Fi_DiskFold_fr:FSem := fun ys => match ys with
 | [.val true [.sl .any 72 (.pair (.int .i64) (.pair (.int .i64) (.pair (.sl 9 .str) (.sl 39 (.pair .str (.pair .bool (.sl 3 (.int .i64)))))))) a0,.int .i64 a1]] => some ((g_Ai_DiskFold_fr a0 a1),.val true [.sl .any 49 (.pair .str (.sl 3 (.int .i64))) (g_Vi_DiskFold_fr_0 a0 a1)],[])
 | _ => none
theorem vi_DiskFold_fr (a0:List (Int×(Int×((List ByteArray)×(List (ByteArray×(Bool×(List Int)))))))) (a1:Int):collapseH .fr Ei_DiskFold_fr Oi_DiskFold_fr_1 (execFn Ei_DiskFold_fr Tryz.f25 msi_DiskFold_fr [.val true [.sl .any 72 (.pair (.int .i64) (.pair (.int .i64) (.pair (.sl 9 .str) (.sl 39 (.pair .str (.pair .bool (.sl 3 (.int .i64)))))))) a0,.int .i64 a1]]) = some ((g_Ai_DiskFold_fr a0 a1),.val true [.sl .any 49 (.pair .str (.sl 3 (.int .i64))) (g_Vi_DiskFold_fr_0 a0 a1)],[]) := by kernel_rfl
theorem si_DiskFold_fr:Sound Tryz.prog 25 msi_DiskFold_fr Fi_DiskFold_fr := by
 refine fn_gen goodi_DiskFold_fr (by kernel_rfl) .fr (fn := Tryz.f25) (c := (Tryz.f25.body.getD .skip)) (o := Oi_DiskFold_fr_1) (k := 1) (by kernel_rfl) (by kernel_rfl) (by kernel_rfl) (by kernel_rfl) (by decide) ki_DiskFold_fr_1 ?_
 intro ys r outs h
 unfold Fi_DiskFold_fr at h
 split at h
 ·exact (vi_DiskFold_fr _ _).trans h
 ·cases h
noncomputable def Es_l1In:Env where
 tt := mkTI Tryz.prog
 fn := fun _ => none
 bxf := fun _ => none
 mv := []
 keep := fun _ => []
 keepB := fun _ => []
 keepX := fun _ => []
 keepXB := fun _ => []
theorem goodFs_l1In:∀ f ms F,Es_l1In.fn f = some (ms,F) → Sound Tryz.prog f ms F := fun f ms F h => by cases h
theorem goodBs_l1In:∀ f ms F,Es_l1In.bxf f = some (ms,F) → SoundB Tryz.prog f ms F := fun f ms F h => by cases h
theorem goods_l1In:Good Tryz.prog Es_l1In := ⟨rfl,goodFs_l1In,goodBs_l1In⟩
noncomputable def Os_l1In_0:Orc := fun _ _ => none
noncomputable def mss_l1In:List PM := [.own,.own,.own]
noncomputable def lss_l1In:List (Nat×Code) := loopsAll 0 (Tryz.f59.body.getD .skip)
theorem ks_l1In_0:OrcOk Es_l1In Os_l1In_0 lss_l1In 0 := orcOk_none
noncomputable def g_As_l1In (a0:Int) (a1:Int) (a2:Int):Bool := !decide (a0 ≥ a1) || true
noncomputable def g_Vs_l1In_0 (a0:Int) (a1:Int) (a2:Int):Bool := bif decide (a0 ≥ a1) then decide (a0 ≤ a2) else false
noncomputable def Fs_l1In:FSem := fun ys => match ys with
 | [.val false [.int .i64 a0],.val false [.int .i64 a1],.val false [.int .i64 a2]] => some ((g_As_l1In a0 a1 a2),.val false [.bool (g_Vs_l1In_0 a0 a1 a2)],[])
 | _ => none
theorem vs_l1In (a0:Int) (a1:Int) (a2:Int):collapseH .std Es_l1In Os_l1In_0 (execFn Es_l1In Tryz.f59 mss_l1In [.val false [.int .i64 a0],.val false [.int .i64 a1],.val false [.int .i64 a2]]) = some ((g_As_l1In a0 a1 a2),.val false [.bool (g_Vs_l1In_0 a0 a1 a2)],[]) := by kernel_rfl
theorem ss_l1In:Sound Tryz.prog 59 mss_l1In Fs_l1In := by
 refine fn_gen goods_l1In (by kernel_rfl) .std (fn := Tryz.f59) (c := (Tryz.f59.body.getD .skip)) (o := Os_l1In_0) (k := 0) (by kernel_rfl) (by kernel_rfl) (by kernel_rfl) (by kernel_rfl) (by decide) ks_l1In_0 ?_
 intro ys r outs h
 unfold Fs_l1In at h
 split at h
 ·exact (vs_l1In _ _ _).trans h
 ·cases h
noncomputable def Es_l1Key:Env where
 tt := mkTI Tryz.prog
 fn := fun f => match f with
  | 59 => some (mss_l1In,FSem.wk mss_l1In Fs_l1In)
  | _ => none
 bxf := fun _ => none
 mv := []
 keep := fun b => match b with
  | 0 => [(0,false),(3,false)]
  | _ => []
 keepB := fun b => match b with
  | 0 => []
  | _ => []
 keepX := fun b => match b with
  | 0 => [(2,false)]
  | _ => []
 keepXB := fun b => match b with
  | 0 => []
  | _ => []
theorem goodFs_l1Key:∀ f ms F,Es_l1Key.fn f = some (ms,F) → Sound Tryz.prog f ms F := fun f ms F h => by
 unfold Es_l1Key at h
 dsimp only at h
 split at h
 ·injection h with h; injection h with e1 e2; subst e1 e2; exact Sound.wk ss_l1In
 ·cases h
theorem goodBs_l1Key:∀ f ms F,Es_l1Key.bxf f = some (ms,F) → SoundB Tryz.prog f ms F := fun f ms F h => by cases h
theorem goods_l1Key:Good Tryz.prog Es_l1Key := ⟨rfl,goodFs_l1Key,goodBs_l1Key⟩
noncomputable def Os_l1Key_0:Orc := fun _ _ => none
noncomputable def mss_l1Key:List PM := [.own]
noncomputable def lss_l1Key:List (Nat×Code) := loopsAll 0 (Tryz.f128.body.getD .skip)
noncomputable def cs_l1Key_0:Code := (loopOf 0 (Tryz.f128.body.getD .skip)).getD .skip
theorem lseqs_l1Key:lss_l1Key = [(0,cs_l1Key_0)] := by kernel_rfl
theorem ms_l1Key_0:∀ p,p ∈ lss_l1Key → p.1 = 0 → p.2 = cs_l1Key_0 := by
 intro p hp
 rw [lseqs_l1Key] at hp
 simp only [List.mem_cons,List.not_mem_nil,or_false] at hp
 subst hp; simp
theorem ks_l1Key_0:OrcOk Es_l1Key Os_l1Key_0 lss_l1Key 0 := orcOk_none
noncomputable def hs_l1Key_0 (y0:ByteArray) (y1:Int):List (Pl×LV) := [(.T 0,.t (.val false [.str y0])),(.T 3,.t (.val false [.int .i64 y1]))]
noncomputable def g_Ss_l1Key_0 (y0:ByteArray):(Int) → RT (Int) ((Bool) ⊕ (Unit))
 | y1 => .br (true) (.br (decide (y1 < (↑(ByteArray.size y0):Int))) (.br (decide ((0:Int) ≤ y1 ∧ y1 < (↑(ByteArray.size y0):Int))) (.br (true) (.br (decide (byteAt y0 (Int.toNat y1) < (48:Int))) (.out (.inl false)) (.br (decide ((0:Int) ≤ y1 ∧ y1 < (↑(ByteArray.size y0):Int))) (.br (true) (.br (decide (byteAt y0 (Int.toNat y1) > (57:Int))) (.out (.inl false)) (.br (true) (.go (IntKind.wrap IntKind.i64 (y1 + (1:Int)))) .bad)) .bad) .bad)) .bad) .bad) (.out (.inr (())))) .bad
noncomputable def g_Ls_l1Key_0 (y0:ByteArray) (x:Int):Option ((Bool) ⊕ (Unit)) := loopO (g_Ss_l1Key_0 y0) x
noncomputable def xs_l1Key_0 (y0:ByteArray):((Bool) ⊕ (Unit)) → Ex×List (Pl×LV) := fun
 | .inl r => (.ret,[(.T 2,.t (.val false [.bool r]))])
 | .inr (r) => (.exit 0,[(.T 2,.t (.val false [.undef]))])
noncomputable def Os_l1Key_1:Orc := fun b h => match b,h with
 | 0,[(.T 0,.t (.val false [.str y0])),(.T 3,.t (.val false [.int .i64 y1]))] => some (okO (g_Ls_l1Key_0 y0 y1),(.br (isL (valO (g_Ls_l1Key_0 y0 y1))) (.leaf .ret [(.T 2,.t (.val false [.bool (getL (valO (g_Ls_l1Key_0 y0 y1)))]))]) (.leaf (.exit 0) [(.T 2,.t (.val false [.undef]))])))
 | b,h => Os_l1Key_0 b h
theorem bs_l1Key_0 (y0:ByteArray) (y1:Int):Tr.bt Es_l1Key Os_l1Key_0 (exec Es_l1Key 0 cs_l1Key_0 (St.of (hs_l1Key_0 y0 y1)) (leafRd Es_l1Key 0)) = (g_Ss_l1Key_0 y0 y1).bt (fun (y1:Int) => (hs_l1Key_0 y0 y1)) (xs_l1Key_0 y0) := by kernel_rfl
theorem ks_l1Key_1:OrcOk Es_l1Key Os_l1Key_1 lss_l1Key 1 := orc_add ks_l1Key_0 (fun n p hp h ex h' ho => by
 obtain ⟨b,c⟩ := p
 obtain ⟨xt,h1,h2⟩ := ho
 have h1:Os_l1Key_1 b h = some (true,xt) := h1
 unfold Os_l1Key_1 at h1
 split at h1
 ·injection h1 with h1
  injection h1 with e1 e2
  subst e2
  have hc:c = cs_l1Key_0 := ms_l1Key_0 _ hp rfl
  subst hc
  right
  rename_i y0 y1
  have key := LT_step ks_l1Key_0 hp (fun q hq => loopsAll_in _ _ _ _ hp hq) (fun (y1:Int) => (hs_l1Key_0 y0 y1)) (xs_l1Key_0 y0) (g_Ss_l1Key_0 y0) (fun x => by first | exact bs_l1Key_0 y0 x) n (x := y1) (okO_some e1)
  have hx:∀ r,XT.sel (.br (isL r) (.leaf .ret [(.T 2,.t (.val false [.bool (getL r)]))]) (.leaf (.exit 0) [(.T 2,.t (.val false [.undef]))])) = xs_l1Key_0 y0 r := fun r => by first | rfl | (rcases r with r | r <;> rfl) | (rcases r with r | r | r <;> rfl) | (rcases r with r | r | r | r <;> rfl)
  have h3 := (hx (valO (g_Ls_l1Key_0 y0 y1))).symm.trans h2
  have e3 := congrArg Prod.fst h3
  have e4 := congrArg Prod.snd h3
  simp only at e3 e4
  rw [← e3,← e4]
  exact key
 ·exact .inl ⟨xt,h1,h2⟩)
noncomputable def g_As_l1Key (a0:ByteArray):Bool := g_As_l1In (↑(ByteArray.size a0):Int) (2:Int) (3:Int)&&(!g_Vs_l1In_0 (↑(ByteArray.size a0):Int) (2:Int) (3:Int) || decide ((0:Int) ≤ (0:Int) ∧ (0:Int) < (↑(ByteArray.size a0):Int))&&(decide (byteAt a0 (nat_lit 0) < (97:Int)) || decide ((0:Int) ≤ (0:Int) ∧ (0:Int) < (↑(ByteArray.size a0):Int))&&(decide (byteAt a0 (nat_lit 0) > (122:Int)) || okO (g_Ls_l1Key_0 a0 (1:Int)))))
noncomputable def g_Vs_l1Key_0 (a0:ByteArray):Bool := bif !g_Vs_l1In_0 (↑(ByteArray.size a0):Int) (2:Int) (3:Int) then false else bif decide (byteAt a0 (nat_lit 0) < (97:Int)) then false else bif decide (byteAt a0 (nat_lit 0) > (122:Int)) then false else bif isL (valO (g_Ls_l1Key_0 a0 (1:Int))) then getL (valO (g_Ls_l1Key_0 a0 (1:Int))) else true
noncomputable def Fs_l1Key:FSem := fun ys => match ys with
 | [.val false [.str a0]] => some ((g_As_l1Key a0),.val false [.bool (g_Vs_l1Key_0 a0)],[])
 | _ => none
theorem vs_l1Key (a0:ByteArray):collapseH .std Es_l1Key Os_l1Key_1 (execFn Es_l1Key Tryz.f128 mss_l1Key [.val false [.str a0]]) = some ((g_As_l1Key a0),.val false [.bool (g_Vs_l1Key_0 a0)],[]) := by kernel_rfl
theorem ss_l1Key:Sound Tryz.prog 128 mss_l1Key Fs_l1Key := by
 refine fn_gen goods_l1Key (by kernel_rfl) .std (fn := Tryz.f128) (c := (Tryz.f128.body.getD .skip)) (o := Os_l1Key_1) (k := 1) (by kernel_rfl) (by kernel_rfl) (by kernel_rfl) (by kernel_rfl) (by decide) ks_l1Key_1 ?_
 intro ys r outs h
 unfold Fs_l1Key at h
 split at h
 ·exact (vs_l1Key _).trans h
 ·cases h
noncomputable def Es_l1Val:Env where
 tt := mkTI Tryz.prog
 fn := fun f => match f with
  | 59 => some (mss_l1In,FSem.wk mss_l1In Fs_l1In)
  | _ => none
 bxf := fun _ => none
 mv := []
 keep := fun b => match b with
  | 0 => [(0,false),(3,false)]
  | _ => []
 keepB := fun b => match b with
  | 0 => []
  | _ => []
 keepX := fun b => match b with
  | 0 => [(0,false),(2,false)]
  | _ => []
 keepXB := fun b => match b with
  | 0 => []
  | _ => []
theorem goodFs_l1Val:∀ f ms F,Es_l1Val.fn f = some (ms,F) → Sound Tryz.prog f ms F := fun f ms F h => by
 unfold Es_l1Val at h
 dsimp only at h
 split at h
 ·injection h with h; injection h with e1 e2; subst e1 e2; exact Sound.wk ss_l1In
 ·cases h
theorem goodBs_l1Val:∀ f ms F,Es_l1Val.bxf f = some (ms,F) → SoundB Tryz.prog f ms F := fun f ms F h => by cases h
theorem goods_l1Val:Good Tryz.prog Es_l1Val := ⟨rfl,goodFs_l1Val,goodBs_l1Val⟩
noncomputable def Os_l1Val_0:Orc := fun _ _ => none
noncomputable def mss_l1Val:List PM := [.rd]
noncomputable def lss_l1Val:List (Nat×Code) := loopsAll 0 (Tryz.f146.body.getD .skip)
noncomputable def cs_l1Val_0:Code := (loopOf 0 (Tryz.f146.body.getD .skip)).getD .skip
theorem lseqs_l1Val:lss_l1Val = [(0,cs_l1Val_0)] := by kernel_rfl
theorem ms_l1Val_0:∀ p,p ∈ lss_l1Val → p.1 = 0 → p.2 = cs_l1Val_0 := by
 intro p hp
 rw [lseqs_l1Val] at hp
 simp only [List.mem_cons,List.not_mem_nil,or_false] at hp
 subst hp; simp
theorem ks_l1Val_0:OrcOk Es_l1Val Os_l1Val_0 lss_l1Val 0 := orcOk_none
noncomputable def hs_l1Val_0 (y0:List Int) (y1:Int):List (Pl×LV) := [(.T 0,.t (.val false [.sl .any 3 (.int .i64) y0])),(.T 3,.t (.val false [.int .i64 y1]))]
noncomputable def g_Ss_l1Val_0 (y0:List Int):(Int) → RT (Int) ((Bool) ⊕ (Unit))
 | y1 => .br (true) (.br (decide (y1 < (↑(List.length y0):Int))) (.br (decide ((0:Int) ≤ y1 ∧ y1 < (↑(List.length y0):Int))) (.br (g_As_l1In (at_ (Ty.int IntKind.i64) y0 (Int.toNat y1)) (0:Int) (9999:Int)) (.br (!g_Vs_l1In_0 (at_ (Ty.int IntKind.i64) y0 (Int.toNat y1)) (0:Int) (9999:Int)) (.out (.inl false)) (.br (true) (.go (IntKind.wrap IntKind.i64 (y1 + (1:Int)))) .bad)) .bad) .bad) (.out (.inr (())))) .bad
noncomputable def g_Ls_l1Val_0 (y0:List Int) (x:Int):Option ((Bool) ⊕ (Unit)) := loopO (g_Ss_l1Val_0 y0) x
noncomputable def xs_l1Val_0 (y0:List Int):((Bool) ⊕ (Unit)) → Ex×List (Pl×LV) := fun
 | .inl r => (.ret,[(.T 0,.t (.val false [.sl .any 3 (.int .i64) y0])),(.T 2,.t (.val false [.bool r]))])
 | .inr (r) => (.exit 0,[(.T 0,.t (.val false [.sl .any 3 (.int .i64) y0])),(.T 2,.t (.val false [.undef]))])
noncomputable def Os_l1Val_1:Orc := fun b h => match b,h with
 | 0,[(.T 0,.t (.val false [.sl .any 3 (.int .i64) y0])),(.T 3,.t (.val false [.int .i64 y1]))] => some (okO (g_Ls_l1Val_0 y0 y1),(.br (isL (valO (g_Ls_l1Val_0 y0 y1))) (.leaf .ret [(.T 0,.t (.val false [.sl .any 3 (.int .i64) y0])),(.T 2,.t (.val false [.bool (getL (valO (g_Ls_l1Val_0 y0 y1)))]))]) (.leaf (.exit 0) [(.T 0,.t (.val false [.sl .any 3 (.int .i64) y0])),(.T 2,.t (.val false [.undef]))])))
 | b,h => Os_l1Val_0 b h
theorem bs_l1Val_0 (y0:List Int) (y1:Int):Tr.bt Es_l1Val Os_l1Val_0 (exec Es_l1Val 0 cs_l1Val_0 (St.of (hs_l1Val_0 y0 y1)) (leafRd Es_l1Val 0)) = (g_Ss_l1Val_0 y0 y1).bt (fun (y1:Int) => (hs_l1Val_0 y0 y1)) (xs_l1Val_0 y0) := by kernel_rfl
theorem ks_l1Val_1:OrcOk Es_l1Val Os_l1Val_1 lss_l1Val 1 := orc_add ks_l1Val_0 (fun n p hp h ex h' ho => by
 obtain ⟨b,c⟩ := p
 obtain ⟨xt,h1,h2⟩ := ho
 have h1:Os_l1Val_1 b h = some (true,xt) := h1
 unfold Os_l1Val_1 at h1
 split at h1
 ·injection h1 with h1
  injection h1 with e1 e2
  subst e2
  have hc:c = cs_l1Val_0 := ms_l1Val_0 _ hp rfl
  subst hc
  right
  rename_i y0 y1
  have key := LT_step ks_l1Val_0 hp (fun q hq => loopsAll_in _ _ _ _ hp hq) (fun (y1:Int) => (hs_l1Val_0 y0 y1)) (xs_l1Val_0 y0) (g_Ss_l1Val_0 y0) (fun x => by first | exact bs_l1Val_0 y0 x) n (x := y1) (okO_some e1)
  have hx:∀ r,XT.sel (.br (isL r) (.leaf .ret [(.T 0,.t (.val false [.sl .any 3 (.int .i64) y0])),(.T 2,.t (.val false [.bool (getL r)]))]) (.leaf (.exit 0) [(.T 0,.t (.val false [.sl .any 3 (.int .i64) y0])),(.T 2,.t (.val false [.undef]))])) = xs_l1Val_0 y0 r := fun r => by first | rfl | (rcases r with r | r <;> rfl) | (rcases r with r | r | r <;> rfl) | (rcases r with r | r | r | r <;> rfl)
  have h3 := (hx (valO (g_Ls_l1Val_0 y0 y1))).symm.trans h2
  have e3 := congrArg Prod.fst h3
  have e4 := congrArg Prod.snd h3
  simp only at e3 e4
  rw [← e3,← e4]
  exact key
 ·exact .inl ⟨xt,h1,h2⟩)
noncomputable def g_As_l1Val (a0:List Int):Bool := okO (g_Ls_l1Val_0 a0 (0:Int))&&(isL (valO (g_Ls_l1Val_0 a0 (0:Int))) || g_As_l1In (↑(List.length a0):Int) (1:Int) (3:Int))
noncomputable def g_Vs_l1Val_0 (a0:List Int):Bool := bif isL (valO (g_Ls_l1Val_0 a0 (0:Int))) then getL (valO (g_Ls_l1Val_0 a0 (0:Int))) else g_Vs_l1In_0 (↑(List.length a0):Int) (1:Int) (3:Int)
noncomputable def Fs_l1Val:FSem := fun ys => match ys with
 | [.val false [.sl .any 3 (.int .i64) a0]] => some ((g_As_l1Val a0),.val false [.bool (g_Vs_l1Val_0 a0)],[])
 | _ => none
theorem vs_l1Val (a0:List Int):collapseH .std Es_l1Val Os_l1Val_1 (execFn Es_l1Val Tryz.f146 mss_l1Val [.val false [.sl .any 3 (.int .i64) a0]]) = some ((g_As_l1Val a0),.val false [.bool (g_Vs_l1Val_0 a0)],[]) := by kernel_rfl
theorem ss_l1Val:Sound Tryz.prog 146 mss_l1Val Fs_l1Val := by
 refine fn_gen goods_l1Val (by kernel_rfl) .std (fn := Tryz.f146) (c := (Tryz.f146.body.getD .skip)) (o := Os_l1Val_1) (k := 1) (by kernel_rfl) (by kernel_rfl) (by kernel_rfl) (by kernel_rfl) (by decide) ks_l1Val_1 ?_
 intro ys r outs h
 unfold Fs_l1Val at h
 split at h
 ·exact (vs_l1Val _).trans h
 ·cases h
noncomputable def Es_WrtOk:Env where
 tt := mkTI Tryz.prog
 fn := fun f => match f with
  | 128 => some (mss_l1Key,FSem.wk mss_l1Key Fs_l1Key)
  | 146 => some (mss_l1Val,FSem.wk mss_l1Val Fs_l1Val)
  | _ => none
 bxf := fun _ => none
 mv := []
 keep := fun _ => []
 keepB := fun _ => []
 keepX := fun _ => []
 keepXB := fun _ => []
theorem goodFs_WrtOk:∀ f ms F,Es_WrtOk.fn f = some (ms,F) → Sound Tryz.prog f ms F := fun f ms F h => by
 unfold Es_WrtOk at h
 dsimp only at h
 split at h
 ·injection h with h; injection h with e1 e2; subst e1 e2; exact Sound.wk ss_l1Key
 ·injection h with h; injection h with e1 e2; subst e1 e2; exact Sound.wk ss_l1Val
 ·cases h
theorem goodBs_WrtOk:∀ f ms F,Es_WrtOk.bxf f = some (ms,F) → SoundB Tryz.prog f ms F := fun f ms F h => by cases h
theorem goods_WrtOk:Good Tryz.prog Es_WrtOk := ⟨rfl,goodFs_WrtOk,goodBs_WrtOk⟩
noncomputable def Os_WrtOk_0:Orc := fun _ _ => none
noncomputable def mss_WrtOk:List PM := [.rd]
noncomputable def lss_WrtOk:List (Nat×Code) := loopsAll 0 (Tryz.f113.body.getD .skip)
theorem ks_WrtOk_0:OrcOk Es_WrtOk Os_WrtOk_0 lss_WrtOk 0 := orcOk_none
noncomputable def g_As_WrtOk (a0:ByteArray) (a1:Bool) (a2:List Int):Bool := bif a1 then g_As_l1Key a0&&(!g_Vs_l1Key_0 a0 || true) else g_As_l1Key a0&&(!g_Vs_l1Key_0 a0 || g_As_l1Val a2)
noncomputable def g_Vs_WrtOk_0 (a0:ByteArray) (a1:Bool) (a2:List Int):Bool := bif a1 then bif g_Vs_l1Key_0 a0 then (↑(List.length a2):Int) == (0:Int) else false else bif g_Vs_l1Key_0 a0 then g_Vs_l1Val_0 a2 else false
noncomputable def Fs_WrtOk:FSem := fun ys => match ys with
 | [.val true [.str a0,.bool a1,.sl .any 3 (.int .i64) a2]] => some ((g_As_WrtOk a0 a1 a2),.val false [.bool (g_Vs_WrtOk_0 a0 a1 a2)],[])
 | _ => none
theorem vs_WrtOk (a0:ByteArray) (a1:Bool) (a2:List Int):collapseH .std Es_WrtOk Os_WrtOk_0 (execFn Es_WrtOk Tryz.f113 mss_WrtOk [.val true [.str a0,.bool a1,.sl .any 3 (.int .i64) a2]]) = some ((g_As_WrtOk a0 a1 a2),.val false [.bool (g_Vs_WrtOk_0 a0 a1 a2)],[]) := by kernel_rfl
theorem ss_WrtOk:Sound Tryz.prog 113 mss_WrtOk Fs_WrtOk := by
 refine fn_gen goods_WrtOk (by kernel_rfl) .std (fn := Tryz.f113) (c := (Tryz.f113.body.getD .skip)) (o := Os_WrtOk_0) (k := 0) (by kernel_rfl) (by kernel_rfl) (by kernel_rfl) (by kernel_rfl) (by decide) ks_WrtOk_0 ?_
 intro ys r outs h
 unfold Fs_WrtOk at h
 split at h
 ·exact (vs_WrtOk _ _ _).trans h
 ·cases h
noncomputable def Es_l2Has:Env where
 tt := mkTI Tryz.prog
 fn := fun _ => none
 bxf := fun _ => none
 mv := []
 keep := fun b => match b with
  | 0 => [(0,false),(1,false),(5,false)]
  | _ => []
 keepB := fun b => match b with
  | 0 => []
  | _ => []
 keepX := fun b => match b with
  | 0 => [(4,false)]
  | _ => []
 keepXB := fun b => match b with
  | 0 => []
  | _ => []
theorem goodFs_l2Has:∀ f ms F,Es_l2Has.fn f = some (ms,F) → Sound Tryz.prog f ms F := fun f ms F h => by cases h
theorem goodBs_l2Has:∀ f ms F,Es_l2Has.bxf f = some (ms,F) → SoundB Tryz.prog f ms F := fun f ms F h => by cases h
theorem goods_l2Has:Good Tryz.prog Es_l2Has := ⟨rfl,goodFs_l2Has,goodBs_l2Has⟩
noncomputable def Os_l2Has_0:Orc := fun _ _ => none
noncomputable def mss_l2Has:List PM := [.rd,.own]
noncomputable def lss_l2Has:List (Nat×Code) := loopsAll 0 (Tryz.f129.body.getD .skip)
noncomputable def cs_l2Has_0:Code := (loopOf 0 (Tryz.f129.body.getD .skip)).getD .skip
theorem lseqs_l2Has:lss_l2Has = [(0,cs_l2Has_0)] := by kernel_rfl
theorem ms_l2Has_0:∀ p,p ∈ lss_l2Has → p.1 = 0 → p.2 = cs_l2Has_0 := by
 intro p hp
 rw [lseqs_l2Has] at hp
 simp only [List.mem_cons,List.not_mem_nil,or_false] at hp
 subst hp; simp
theorem ks_l2Has_0:OrcOk Es_l2Has Os_l2Has_0 lss_l2Has 0 := orcOk_none
noncomputable def hs_l2Has_0 (y0:List ByteArray) (y1:ByteArray) (y2:Int):List (Pl×LV) := [(.T 0,.t (.val false [.sl .any 9 .str y0])),(.T 1,.t (.val false [.str y1])),(.T 5,.t (.val false [.int .i64 y2]))]
noncomputable def g_Ss_l2Has_0 (y0:List ByteArray) (y1:ByteArray):(Int) → RT (Int) ((Bool) ⊕ (Unit))
 | y2 => .br (true) (.br (decide (y2 < (↑(List.length y0):Int))) (.br (decide ((0:Int) ≤ y2 ∧ y2 < (↑(List.length y0):Int))) (.br (true) (.br (ByteArray.toList (at_ Ty.str y0 (Int.toNat y2)) == ByteArray.toList y1) (.out (.inl true)) (.br (true) (.go (IntKind.wrap IntKind.i64 (y2 + (1:Int)))) .bad)) .bad) .bad) (.out (.inr (())))) .bad
noncomputable def g_Ls_l2Has_0 (y0:List ByteArray) (y1:ByteArray) (x:Int):Option ((Bool) ⊕ (Unit)) := loopO (g_Ss_l2Has_0 y0 y1) x
noncomputable def xs_l2Has_0 (y0:List ByteArray) (y1:ByteArray):((Bool) ⊕ (Unit)) → Ex×List (Pl×LV) := fun
 | .inl r => (.ret,[(.T 4,.t (.val false [.bool r]))])
 | .inr (r) => (.exit 0,[(.T 4,.t (.val false [.undef]))])
noncomputable def Os_l2Has_1:Orc := fun b h => match b,h with
 | 0,[(.T 0,.t (.val false [.sl .any 9 .str y0])),(.T 1,.t (.val false [.str y1])),(.T 5,.t (.val false [.int .i64 y2]))] => some (okO (g_Ls_l2Has_0 y0 y1 y2),(.br (isL (valO (g_Ls_l2Has_0 y0 y1 y2))) (.leaf .ret [(.T 4,.t (.val false [.bool (getL (valO (g_Ls_l2Has_0 y0 y1 y2)))]))]) (.leaf (.exit 0) [(.T 4,.t (.val false [.undef]))])))
 | b,h => Os_l2Has_0 b h
theorem bs_l2Has_0 (y0:List ByteArray) (y1:ByteArray) (y2:Int):Tr.bt Es_l2Has Os_l2Has_0 (exec Es_l2Has 0 cs_l2Has_0 (St.of (hs_l2Has_0 y0 y1 y2)) (leafRd Es_l2Has 0)) = (g_Ss_l2Has_0 y0 y1 y2).bt (fun (y2:Int) => (hs_l2Has_0 y0 y1 y2)) (xs_l2Has_0 y0 y1) := by kernel_rfl
theorem ks_l2Has_1:OrcOk Es_l2Has Os_l2Has_1 lss_l2Has 1 := orc_add ks_l2Has_0 (fun n p hp h ex h' ho => by
 obtain ⟨b,c⟩ := p
 obtain ⟨xt,h1,h2⟩ := ho
 have h1:Os_l2Has_1 b h = some (true,xt) := h1
 unfold Os_l2Has_1 at h1
 split at h1
 ·injection h1 with h1
  injection h1 with e1 e2
  subst e2
  have hc:c = cs_l2Has_0 := ms_l2Has_0 _ hp rfl
  subst hc
  right
  rename_i y0 y1 y2
  have key := LT_step ks_l2Has_0 hp (fun q hq => loopsAll_in _ _ _ _ hp hq) (fun (y2:Int) => (hs_l2Has_0 y0 y1 y2)) (xs_l2Has_0 y0 y1) (g_Ss_l2Has_0 y0 y1) (fun x => by first | exact bs_l2Has_0 y0 y1 x) n (x := y2) (okO_some e1)
  have hx:∀ r,XT.sel (.br (isL r) (.leaf .ret [(.T 4,.t (.val false [.bool (getL r)]))]) (.leaf (.exit 0) [(.T 4,.t (.val false [.undef]))])) = xs_l2Has_0 y0 y1 r := fun r => by first | rfl | (rcases r with r | r <;> rfl) | (rcases r with r | r | r <;> rfl) | (rcases r with r | r | r | r <;> rfl)
  have h3 := (hx (valO (g_Ls_l2Has_0 y0 y1 y2))).symm.trans h2
  have e3 := congrArg Prod.fst h3
  have e4 := congrArg Prod.snd h3
  simp only at e3 e4
  rw [← e3,← e4]
  exact key
 ·exact .inl ⟨xt,h1,h2⟩)
noncomputable def g_As_l2Has (a0:List ByteArray) (a1:ByteArray):Bool := okO (g_Ls_l2Has_0 a0 a1 (0:Int))
noncomputable def g_Vs_l2Has_0 (a0:List ByteArray) (a1:ByteArray):Bool := bif isL (valO (g_Ls_l2Has_0 a0 a1 (0:Int))) then getL (valO (g_Ls_l2Has_0 a0 a1 (0:Int))) else false
noncomputable def Fs_l2Has:FSem := fun ys => match ys with
 | [.val false [.sl .any 9 .str a0],.val false [.str a1]] => some ((g_As_l2Has a0 a1),.val false [.bool (g_Vs_l2Has_0 a0 a1)],[])
 | _ => none
theorem vs_l2Has (a0:List ByteArray) (a1:ByteArray):collapseH .std Es_l2Has Os_l2Has_1 (execFn Es_l2Has Tryz.f129 mss_l2Has [.val false [.sl .any 9 .str a0],.val false [.str a1]]) = some ((g_As_l2Has a0 a1),.val false [.bool (g_Vs_l2Has_0 a0 a1)],[]) := by kernel_rfl
theorem ss_l2Has:Sound Tryz.prog 129 mss_l2Has Fs_l2Has := by
 refine fn_gen goods_l2Has (by kernel_rfl) .std (fn := Tryz.f129) (c := (Tryz.f129.body.getD .skip)) (o := Os_l2Has_1) (k := 1) (by kernel_rfl) (by kernel_rfl) (by kernel_rfl) (by kernel_rfl) (by decide) ks_l2Has_1 ?_
 intro ys r outs h
 unfold Fs_l2Has at h
 split at h
 ·exact (vs_l2Has _ _).trans h
 ·cases h
noncomputable def Es_NoteOk:Env where
 tt := mkTI Tryz.prog
 fn := fun f => match f with
  | 59 => some (mss_l1In,FSem.wk mss_l1In Fs_l1In)
  | 113 => some (mss_WrtOk,FSem.wk mss_WrtOk Fs_WrtOk)
  | 128 => some (mss_l1Key,FSem.wk mss_l1Key Fs_l1Key)
  | 129 => some (mss_l2Has,FSem.wk mss_l2Has Fs_l2Has)
  | _ => none
 bxf := fun _ => none
 mv := []
 keep := fun b => match b with
  | 0 => [(1,false),(3,false)]
  | 2 => [(1,false),(4,false)]
  | _ => []
 keepB := fun b => match b with
  | 0 => [(1,false)]
  | 2 => [(1,false)]
  | _ => []
 keepX := fun b => match b with
  | 0 => [(1,false),(2,false)]
  | 2 => [(1,false),(2,false)]
  | _ => []
 keepXB := fun b => match b with
  | 0 => [(1,false)]
  | 2 => [(1,false)]
  | _ => []
theorem goodFs_NoteOk:∀ f ms F,Es_NoteOk.fn f = some (ms,F) → Sound Tryz.prog f ms F := fun f ms F h => by
 unfold Es_NoteOk at h
 dsimp only at h
 split at h
 ·injection h with h; injection h with e1 e2; subst e1 e2; exact Sound.wk ss_l1In
 ·injection h with h; injection h with e1 e2; subst e1 e2; exact Sound.wk ss_WrtOk
 ·injection h with h; injection h with e1 e2; subst e1 e2; exact Sound.wk ss_l1Key
 ·injection h with h; injection h with e1 e2; subst e1 e2; exact Sound.wk ss_l2Has
 ·cases h
theorem goodBs_NoteOk:∀ f ms F,Es_NoteOk.bxf f = some (ms,F) → SoundB Tryz.prog f ms F := fun f ms F h => by cases h
theorem goods_NoteOk:Good Tryz.prog Es_NoteOk := ⟨rfl,goodFs_NoteOk,goodBs_NoteOk⟩
noncomputable def Os_NoteOk_0:Orc := fun _ _ => none
noncomputable def mss_NoteOk:List PM := [.rd]
noncomputable def lss_NoteOk:List (Nat×Code) := loopsAll 0 (Tryz.f77.body.getD .skip)
noncomputable def cs_NoteOk_0:Code := (loopOf 0 (Tryz.f77.body.getD .skip)).getD .skip
noncomputable def cs_NoteOk_2:Code := (loopOf 2 (Tryz.f77.body.getD .skip)).getD .skip
theorem lseqs_NoteOk:lss_NoteOk = [(0,cs_NoteOk_0),(2,cs_NoteOk_2)] := by kernel_rfl
theorem ms_NoteOk_0:∀ p,p ∈ lss_NoteOk → p.1 = 0 → p.2 = cs_NoteOk_0 := by
 intro p hp
 rw [lseqs_NoteOk] at hp
 simp only [List.mem_cons,List.not_mem_nil,or_false] at hp
 rcases hp with rfl | rfl <;> simp
theorem ms_NoteOk_2:∀ p,p ∈ lss_NoteOk → p.1 = 2 → p.2 = cs_NoteOk_2 := by
 intro p hp
 rw [lseqs_NoteOk] at hp
 simp only [List.mem_cons,List.not_mem_nil,or_false] at hp
 rcases hp with rfl | rfl <;> simp
theorem ks_NoteOk_0:OrcOk Es_NoteOk Os_NoteOk_0 lss_NoteOk 0 := orcOk_none
noncomputable def hs_NoteOk_0 (y0:Int) (y1:Int) (y2:Int) (y3:List ByteArray) (y4:List (ByteArray×(Bool×(List Int)))):List (Pl×LV) := [(.T 1,.t (.val false [.ptr 1 0 0])),(.T 3,.t (.val false [.int .i64 y0])),(.B 1,.b 0 false [.int .i64 y1,.int .i64 y2,.sl .any 9 .str y3,.sl .any 39 (.pair .str (.pair .bool (.sl 3 (.int .i64)))) y4])]
noncomputable def g_Ss_NoteOk_0 (y1:Int) (y2:Int) (y3:List ByteArray) (y4:List (ByteArray×(Bool×(List Int)))):(Int) → RT (Int) ((Bool) ⊕ (Unit))
 | y0 => .br (true) (.br (decide (y0 < (↑(List.length y3):Int))) (.br (decide ((0:Int) ≤ y0 ∧ y0 < (↑(List.length y3):Int))) (.br (g_As_l1Key (at_ Ty.str y3 (Int.toNat y0))) (.br (!g_Vs_l1Key_0 (at_ Ty.str y3 (Int.toNat y0))) (.out (.inl false)) (.br (true) (.go (IntKind.wrap IntKind.i64 (y0 + (1:Int)))) .bad)) .bad) .bad) (.out (.inr (())))) .bad
noncomputable def g_Ls_NoteOk_0 (y1:Int) (y2:Int) (y3:List ByteArray) (y4:List (ByteArray×(Bool×(List Int)))) (x:Int):Option ((Bool) ⊕ (Unit)) := loopO (g_Ss_NoteOk_0 y1 y2 y3 y4) x
noncomputable def xs_NoteOk_0 (y1:Int) (y2:Int) (y3:List ByteArray) (y4:List (ByteArray×(Bool×(List Int)))):((Bool) ⊕ (Unit)) → Ex×List (Pl×LV) := fun
 | .inl r => (.ret,[(.T 1,.t (.val false [.ptr 1 0 0])),(.T 2,.t (.val false [.bool r])),(.B 1,.b 0 false [.int .i64 y1,.int .i64 y2,.sl .any 9 .str y3,.sl .any 39 (.pair .str (.pair .bool (.sl 3 (.int .i64)))) y4])])
 | .inr (r) => (.exit 0,[(.T 1,.t (.val false [.ptr 1 0 0])),(.T 2,.t (.val false [.undef])),(.B 1,.b 0 false [.int .i64 y1,.int .i64 y2,.sl .any 9 .str y3,.sl .any 39 (.pair .str (.pair .bool (.sl 3 (.int .i64)))) y4])])
noncomputable def Os_NoteOk_1:Orc := fun b h => match b,h with
 | 0,[(.T 1,.t (.val false [.ptr 1 0 0])),(.T 3,.t (.val false [.int .i64 y0])),(.B 1,.b 0 false [.int .i64 y1,.int .i64 y2,.sl .any 9 .str y3,.sl .any 39 (.pair .str (.pair .bool (.sl 3 (.int .i64)))) y4])] => some (okO (g_Ls_NoteOk_0 y1 y2 y3 y4 y0),(.br (isL (valO (g_Ls_NoteOk_0 y1 y2 y3 y4 y0))) (.leaf .ret [(.T 1,.t (.val false [.ptr 1 0 0])),(.T 2,.t (.val false [.bool (getL (valO (g_Ls_NoteOk_0 y1 y2 y3 y4 y0)))])),(.B 1,.b 0 false [.int .i64 y1,.int .i64 y2,.sl .any 9 .str y3,.sl .any 39 (.pair .str (.pair .bool (.sl 3 (.int .i64)))) y4])]) (.leaf (.exit 0) [(.T 1,.t (.val false [.ptr 1 0 0])),(.T 2,.t (.val false [.undef])),(.B 1,.b 0 false [.int .i64 y1,.int .i64 y2,.sl .any 9 .str y3,.sl .any 39 (.pair .str (.pair .bool (.sl 3 (.int .i64)))) y4])])))
 | b,h => Os_NoteOk_0 b h
theorem bs_NoteOk_0 (y0:Int) (y1:Int) (y2:Int) (y3:List ByteArray) (y4:List (ByteArray×(Bool×(List Int)))):Tr.bt Es_NoteOk Os_NoteOk_0 (exec Es_NoteOk 0 cs_NoteOk_0 (St.of (hs_NoteOk_0 y0 y1 y2 y3 y4)) (leafRd Es_NoteOk 0)) = (g_Ss_NoteOk_0 y1 y2 y3 y4 y0).bt (fun (y0:Int) => (hs_NoteOk_0 y0 y1 y2 y3 y4)) (xs_NoteOk_0 y1 y2 y3 y4) := by kernel_rfl
theorem ks_NoteOk_1:OrcOk Es_NoteOk Os_NoteOk_1 lss_NoteOk 1 := orc_add ks_NoteOk_0 (fun n p hp h ex h' ho => by
 obtain ⟨b,c⟩ := p
 obtain ⟨xt,h1,h2⟩ := ho
 have h1:Os_NoteOk_1 b h = some (true,xt) := h1
 unfold Os_NoteOk_1 at h1
 split at h1
 ·injection h1 with h1
  injection h1 with e1 e2
  subst e2
  have hc:c = cs_NoteOk_0 := ms_NoteOk_0 _ hp rfl
  subst hc
  right
  rename_i y0 y1 y2 y3 y4
  have key := LT_step ks_NoteOk_0 hp (fun q hq => loopsAll_in _ _ _ _ hp hq) (fun (y0:Int) => (hs_NoteOk_0 y0 y1 y2 y3 y4)) (xs_NoteOk_0 y1 y2 y3 y4) (g_Ss_NoteOk_0 y1 y2 y3 y4) (fun x => by first | exact bs_NoteOk_0 x y1 y2 y3 y4) n (x := y0) (okO_some e1)
  have hx:∀ r,XT.sel (.br (isL r) (.leaf .ret [(.T 1,.t (.val false [.ptr 1 0 0])),(.T 2,.t (.val false [.bool (getL r)])),(.B 1,.b 0 false [.int .i64 y1,.int .i64 y2,.sl .any 9 .str y3,.sl .any 39 (.pair .str (.pair .bool (.sl 3 (.int .i64)))) y4])]) (.leaf (.exit 0) [(.T 1,.t (.val false [.ptr 1 0 0])),(.T 2,.t (.val false [.undef])),(.B 1,.b 0 false [.int .i64 y1,.int .i64 y2,.sl .any 9 .str y3,.sl .any 39 (.pair .str (.pair .bool (.sl 3 (.int .i64)))) y4])])) = xs_NoteOk_0 y1 y2 y3 y4 r := fun r => by first | rfl | (rcases r with r | r <;> rfl) | (rcases r with r | r | r <;> rfl) | (rcases r with r | r | r | r <;> rfl)
  have h3 := (hx (valO (g_Ls_NoteOk_0 y1 y2 y3 y4 y0))).symm.trans h2
  have e3 := congrArg Prod.fst h3
  have e4 := congrArg Prod.snd h3
  simp only at e3 e4
  rw [← e3,← e4]
  exact key
 ·exact .inl ⟨xt,h1,h2⟩)
noncomputable def hs_NoteOk_2 (y0:Int) (y1:Int) (y2:Int) (y3:List ByteArray) (y4:List (ByteArray×(Bool×(List Int)))):List (Pl×LV) := [(.T 1,.t (.val false [.ptr 1 0 0])),(.T 4,.t (.val false [.int .i64 y0])),(.B 1,.b 0 false [.int .i64 y1,.int .i64 y2,.sl .any 9 .str y3,.sl .any 39 (.pair .str (.pair .bool (.sl 3 (.int .i64)))) y4])]
noncomputable def g_Ss_NoteOk_2 (y1:Int) (y2:Int) (y3:List ByteArray) (y4:List (ByteArray×(Bool×(List Int)))):(Int) → RT (Int) ((Bool) ⊕ (Unit))
 | y0 => .br (true) (.br (decide (y0 < (↑(List.length y4):Int))) (.br (decide ((0:Int) ≤ y0 ∧ y0 < (↑(List.length y4):Int))) (.br (g_As_WrtOk (at_ (Ty.pair Ty.str (Ty.pair Ty.bool (Ty.sl (nat_lit 3) (Ty.int IntKind.i64)))) y4 (Int.toNat y0)).1 (at_ (Ty.pair Ty.str (Ty.pair Ty.bool (Ty.sl (nat_lit 3) (Ty.int IntKind.i64)))) y4 (Int.toNat y0)).2.1 (at_ (Ty.pair Ty.str (Ty.pair Ty.bool (Ty.sl (nat_lit 3) (Ty.int IntKind.i64)))) y4 (Int.toNat y0)).2.2) (.br (!g_Vs_WrtOk_0 (at_ (Ty.pair Ty.str (Ty.pair Ty.bool (Ty.sl (nat_lit 3) (Ty.int IntKind.i64)))) y4 (Int.toNat y0)).1 (at_ (Ty.pair Ty.str (Ty.pair Ty.bool (Ty.sl (nat_lit 3) (Ty.int IntKind.i64)))) y4 (Int.toNat y0)).2.1 (at_ (Ty.pair Ty.str (Ty.pair Ty.bool (Ty.sl (nat_lit 3) (Ty.int IntKind.i64)))) y4 (Int.toNat y0)).2.2) (.out (.inl false)) (.br (decide ((0:Int) ≤ y0 ∧ y0 < (↑(List.length y4):Int))) (.br (g_As_l2Has y3 (at_ (Ty.pair Ty.str (Ty.pair Ty.bool (Ty.sl (nat_lit 3) (Ty.int IntKind.i64)))) y4 (Int.toNat y0)).1) (.br (!g_Vs_l2Has_0 y3 (at_ (Ty.pair Ty.str (Ty.pair Ty.bool (Ty.sl (nat_lit 3) (Ty.int IntKind.i64)))) y4 (Int.toNat y0)).1) (.out (.inl false)) (.br (true) (.go (IntKind.wrap IntKind.i64 (y0 + (1:Int)))) .bad)) .bad) .bad)) .bad) .bad) (.out (.inr (())))) .bad
noncomputable def g_Ls_NoteOk_2 (y1:Int) (y2:Int) (y3:List ByteArray) (y4:List (ByteArray×(Bool×(List Int)))) (x:Int):Option ((Bool) ⊕ (Unit)) := loopO (g_Ss_NoteOk_2 y1 y2 y3 y4) x
noncomputable def xs_NoteOk_2 (y1:Int) (y2:Int) (y3:List ByteArray) (y4:List (ByteArray×(Bool×(List Int)))):((Bool) ⊕ (Unit)) → Ex×List (Pl×LV) := fun
 | .inl r => (.ret,[(.T 1,.t (.val false [.ptr 1 0 0])),(.T 2,.t (.val false [.bool r])),(.B 1,.b 0 false [.int .i64 y1,.int .i64 y2,.sl .any 9 .str y3,.sl .any 39 (.pair .str (.pair .bool (.sl 3 (.int .i64)))) y4])])
 | .inr (r) => (.exit 2,[(.T 1,.t (.val false [.ptr 1 0 0])),(.T 2,.t (.val false [.undef])),(.B 1,.b 0 false [.int .i64 y1,.int .i64 y2,.sl .any 9 .str y3,.sl .any 39 (.pair .str (.pair .bool (.sl 3 (.int .i64)))) y4])])
noncomputable def Os_NoteOk_2:Orc := fun b h => match b,h with
 | 2,[(.T 1,.t (.val false [.ptr 1 0 0])),(.T 4,.t (.val false [.int .i64 y0])),(.B 1,.b 0 false [.int .i64 y1,.int .i64 y2,.sl .any 9 .str y3,.sl .any 39 (.pair .str (.pair .bool (.sl 3 (.int .i64)))) y4])] => some (okO (g_Ls_NoteOk_2 y1 y2 y3 y4 y0),(.br (isL (valO (g_Ls_NoteOk_2 y1 y2 y3 y4 y0))) (.leaf .ret [(.T 1,.t (.val false [.ptr 1 0 0])),(.T 2,.t (.val false [.bool (getL (valO (g_Ls_NoteOk_2 y1 y2 y3 y4 y0)))])),(.B 1,.b 0 false [.int .i64 y1,.int .i64 y2,.sl .any 9 .str y3,.sl .any 39 (.pair .str (.pair .bool (.sl 3 (.int .i64)))) y4])]) (.leaf (.exit 2) [(.T 1,.t (.val false [.ptr 1 0 0])),(.T 2,.t (.val false [.undef])),(.B 1,.b 0 false [.int .i64 y1,.int .i64 y2,.sl .any 9 .str y3,.sl .any 39 (.pair .str (.pair .bool (.sl 3 (.int .i64)))) y4])])))
 | b,h => Os_NoteOk_1 b h
theorem bs_NoteOk_2 (y0:Int) (y1:Int) (y2:Int) (y3:List ByteArray) (y4:List (ByteArray×(Bool×(List Int)))):Tr.bt Es_NoteOk Os_NoteOk_1 (exec Es_NoteOk 2 cs_NoteOk_2 (St.of (hs_NoteOk_2 y0 y1 y2 y3 y4)) (leafRd Es_NoteOk 2)) = (g_Ss_NoteOk_2 y1 y2 y3 y4 y0).bt (fun (y0:Int) => (hs_NoteOk_2 y0 y1 y2 y3 y4)) (xs_NoteOk_2 y1 y2 y3 y4) := by kernel_rfl
theorem ks_NoteOk_2:OrcOk Es_NoteOk Os_NoteOk_2 lss_NoteOk 2 := orc_add ks_NoteOk_1 (fun n p hp h ex h' ho => by
 obtain ⟨b,c⟩ := p
 obtain ⟨xt,h1,h2⟩ := ho
 have h1:Os_NoteOk_2 b h = some (true,xt) := h1
 unfold Os_NoteOk_2 at h1
 split at h1
 ·injection h1 with h1
  injection h1 with e1 e2
  subst e2
  have hc:c = cs_NoteOk_2 := ms_NoteOk_2 _ hp rfl
  subst hc
  right
  rename_i y0 y1 y2 y3 y4
  have key := LT_step ks_NoteOk_1 hp (fun q hq => loopsAll_in _ _ _ _ hp hq) (fun (y0:Int) => (hs_NoteOk_2 y0 y1 y2 y3 y4)) (xs_NoteOk_2 y1 y2 y3 y4) (g_Ss_NoteOk_2 y1 y2 y3 y4) (fun x => by first | exact bs_NoteOk_2 x y1 y2 y3 y4) n (x := y0) (okO_some e1)
  have hx:∀ r,XT.sel (.br (isL r) (.leaf .ret [(.T 1,.t (.val false [.ptr 1 0 0])),(.T 2,.t (.val false [.bool (getL r)])),(.B 1,.b 0 false [.int .i64 y1,.int .i64 y2,.sl .any 9 .str y3,.sl .any 39 (.pair .str (.pair .bool (.sl 3 (.int .i64)))) y4])]) (.leaf (.exit 2) [(.T 1,.t (.val false [.ptr 1 0 0])),(.T 2,.t (.val false [.undef])),(.B 1,.b 0 false [.int .i64 y1,.int .i64 y2,.sl .any 9 .str y3,.sl .any 39 (.pair .str (.pair .bool (.sl 3 (.int .i64)))) y4])])) = xs_NoteOk_2 y1 y2 y3 y4 r := fun r => by first | rfl | (rcases r with r | r <;> rfl) | (rcases r with r | r | r <;> rfl) | (rcases r with r | r | r | r <;> rfl)
  have h3 := (hx (valO (g_Ls_NoteOk_2 y1 y2 y3 y4 y0))).symm.trans h2
  have e3 := congrArg Prod.fst h3
  have e4 := congrArg Prod.snd h3
  simp only at e3 e4
  rw [← e3,← e4]
  exact key
 ·exact .inl ⟨xt,h1,h2⟩)
noncomputable def g_As_NoteOk (a0:Int) (a1:Int) (a2:List ByteArray) (a3:List (ByteArray×(Bool×(List Int)))):Bool := g_As_l1In a0 (1:Int) (4:Int)&&(!g_Vs_l1In_0 a0 (1:Int) (4:Int) || g_As_l1In a1 (0:Int) (29:Int)&&(!g_Vs_l1In_0 a1 (0:Int) (29:Int) || (decide ((↑(List.length a2):Int) > (12:Int)) || (decide ((↑(List.length a3):Int) > (12:Int)) || okO (g_Ls_NoteOk_0 a0 a1 a2 a3 (0:Int))&&(isL (valO (g_Ls_NoteOk_0 a0 a1 a2 a3 (0:Int))) || okO (g_Ls_NoteOk_2 a0 a1 a2 a3 (0:Int))&&(isL (valO (g_Ls_NoteOk_2 a0 a1 a2 a3 (0:Int))) || (a0 == (1:Int) || true)))))))
noncomputable def g_Vs_NoteOk_0 (a0:Int) (a1:Int) (a2:List ByteArray) (a3:List (ByteArray×(Bool×(List Int)))):Bool := bif !g_Vs_l1In_0 a0 (1:Int) (4:Int) then false else bif !g_Vs_l1In_0 a1 (0:Int) (29:Int) then false else bif decide ((↑(List.length a2):Int) > (12:Int)) then false else bif decide ((↑(List.length a3):Int) > (12:Int)) then false else bif isL (valO (g_Ls_NoteOk_0 a0 a1 a2 a3 (0:Int))) then getL (valO (g_Ls_NoteOk_0 a0 a1 a2 a3 (0:Int))) else bif isL (valO (g_Ls_NoteOk_2 a0 a1 a2 a3 (0:Int))) then getL (valO (g_Ls_NoteOk_2 a0 a1 a2 a3 (0:Int))) else bif a0 == (1:Int) then true else IntKind.wrap IntKind.i64 ((↑(List.length a2):Int) + (↑(List.length a3):Int)) == (0:Int)
noncomputable def Fs_NoteOk:FSem := fun ys => match ys with
 | [.val true [.int .i64 a0,.int .i64 a1,.sl .any 9 .str a2,.sl .any 39 (.pair .str (.pair .bool (.sl 3 (.int .i64)))) a3]] => some ((g_As_NoteOk a0 a1 a2 a3),.val false [.bool (g_Vs_NoteOk_0 a0 a1 a2 a3)],[])
 | _ => none
theorem vs_NoteOk (a0:Int) (a1:Int) (a2:List ByteArray) (a3:List (ByteArray×(Bool×(List Int)))):collapseH .std Es_NoteOk Os_NoteOk_2 (execFn Es_NoteOk Tryz.f77 mss_NoteOk [.val true [.int .i64 a0,.int .i64 a1,.sl .any 9 .str a2,.sl .any 39 (.pair .str (.pair .bool (.sl 3 (.int .i64)))) a3]]) = some ((g_As_NoteOk a0 a1 a2 a3),.val false [.bool (g_Vs_NoteOk_0 a0 a1 a2 a3)],[]) := by kernel_rfl
theorem ss_NoteOk:Sound Tryz.prog 77 mss_NoteOk Fs_NoteOk := by
 refine fn_gen goods_NoteOk (by kernel_rfl) .std (fn := Tryz.f77) (c := (Tryz.f77.body.getD .skip)) (o := Os_NoteOk_2) (k := 2) (by kernel_rfl) (by kernel_rfl) (by kernel_rfl) (by kernel_rfl) (by decide) ks_NoteOk_2 ?_
 intro ys r outs h
 unfold Fs_NoteOk at h
 split at h
 ·exact (vs_NoteOk _ _ _ _).trans h
 ·cases h
noncomputable def Es_DiskOk:Env where
 tt := mkTI Tryz.prog
 fn := fun f => match f with
  | 59 => some (mss_l1In,FSem.wk mss_l1In Fs_l1In)
  | 77 => some (mss_NoteOk,FSem.wk mss_NoteOk Fs_NoteOk)
  | _ => none
 bxf := fun _ => none
 mv := []
 keep := fun b => match b with
  | 0 => [(1,false),(3,false)]
  | _ => []
 keepB := fun b => match b with
  | 0 => [(1,false)]
  | _ => []
 keepX := fun b => match b with
  | 0 => [(2,false)]
  | _ => []
 keepXB := fun b => match b with
  | 0 => []
  | _ => []
theorem goodFs_DiskOk:∀ f ms F,Es_DiskOk.fn f = some (ms,F) → Sound Tryz.prog f ms F := fun f ms F h => by
 unfold Es_DiskOk at h
 dsimp only at h
 split at h
 ·injection h with h; injection h with e1 e2; subst e1 e2; exact Sound.wk ss_l1In
 ·injection h with h; injection h with e1 e2; subst e1 e2; exact Sound.wk ss_NoteOk
 ·cases h
theorem goodBs_DiskOk:∀ f ms F,Es_DiskOk.bxf f = some (ms,F) → SoundB Tryz.prog f ms F := fun f ms F h => by cases h
theorem goods_DiskOk:Good Tryz.prog Es_DiskOk := ⟨rfl,goodFs_DiskOk,goodBs_DiskOk⟩
noncomputable def Os_DiskOk_0:Orc := fun _ _ => none
noncomputable def mss_DiskOk:List PM := [.rd]
noncomputable def lss_DiskOk:List (Nat×Code) := loopsAll 0 (Tryz.f33.body.getD .skip)
noncomputable def cs_DiskOk_0:Code := (loopOf 0 (Tryz.f33.body.getD .skip)).getD .skip
theorem lseqs_DiskOk:lss_DiskOk = [(0,cs_DiskOk_0)] := by kernel_rfl
theorem ms_DiskOk_0:∀ p,p ∈ lss_DiskOk → p.1 = 0 → p.2 = cs_DiskOk_0 := by
 intro p hp
 rw [lseqs_DiskOk] at hp
 simp only [List.mem_cons,List.not_mem_nil,or_false] at hp
 subst hp; simp
theorem ks_DiskOk_0:OrcOk Es_DiskOk Os_DiskOk_0 lss_DiskOk 0 := orcOk_none
noncomputable def hs_DiskOk_0 (y0:Int) (y1:List (Int×(Int×((List ByteArray)×(List (ByteArray×(Bool×(List Int)))))))) (y2:Int):List (Pl×LV) := [(.T 1,.t (.val false [.ptr 1 0 0])),(.T 3,.t (.val false [.int .i64 y0])),(.B 1,.b 0 false [.sl .any 72 (.pair (.int .i64) (.pair (.int .i64) (.pair (.sl 9 .str) (.sl 39 (.pair .str (.pair .bool (.sl 3 (.int .i64)))))))) y1,.int .i64 y2])]
noncomputable def g_Ss_DiskOk_0 (y1:List (Int×(Int×((List ByteArray)×(List (ByteArray×(Bool×(List Int)))))))) (y2:Int):(Int) → RT (Int) ((Bool) ⊕ (Unit))
 | y0 => .br (true) (.br (decide (y0 < (↑(List.length y1):Int))) (.br (decide ((0:Int) ≤ y0 ∧ y0 < (↑(List.length y1):Int))) (.br (g_As_NoteOk (at_ (Ty.pair (Ty.int IntKind.i64) (Ty.pair (Ty.int IntKind.i64) (Ty.pair (Ty.sl (nat_lit 9) Ty.str) (Ty.sl (nat_lit 39) (Ty.pair Ty.str (Ty.pair Ty.bool (Ty.sl (nat_lit 3) (Ty.int IntKind.i64)))))))) y1 (Int.toNat y0)).1 (at_ (Ty.pair (Ty.int IntKind.i64) (Ty.pair (Ty.int IntKind.i64) (Ty.pair (Ty.sl (nat_lit 9) Ty.str) (Ty.sl (nat_lit 39) (Ty.pair Ty.str (Ty.pair Ty.bool (Ty.sl (nat_lit 3) (Ty.int IntKind.i64)))))))) y1 (Int.toNat y0)).2.1 (at_ (Ty.pair (Ty.int IntKind.i64) (Ty.pair (Ty.int IntKind.i64) (Ty.pair (Ty.sl (nat_lit 9) Ty.str) (Ty.sl (nat_lit 39) (Ty.pair Ty.str (Ty.pair Ty.bool (Ty.sl (nat_lit 3) (Ty.int IntKind.i64)))))))) y1 (Int.toNat y0)).2.2.1 (at_ (Ty.pair (Ty.int IntKind.i64) (Ty.pair (Ty.int IntKind.i64) (Ty.pair (Ty.sl (nat_lit 9) Ty.str) (Ty.sl (nat_lit 39) (Ty.pair Ty.str (Ty.pair Ty.bool (Ty.sl (nat_lit 3) (Ty.int IntKind.i64)))))))) y1 (Int.toNat y0)).2.2.2) (.br (!g_Vs_NoteOk_0 (at_ (Ty.pair (Ty.int IntKind.i64) (Ty.pair (Ty.int IntKind.i64) (Ty.pair (Ty.sl (nat_lit 9) Ty.str) (Ty.sl (nat_lit 39) (Ty.pair Ty.str (Ty.pair Ty.bool (Ty.sl (nat_lit 3) (Ty.int IntKind.i64)))))))) y1 (Int.toNat y0)).1 (at_ (Ty.pair (Ty.int IntKind.i64) (Ty.pair (Ty.int IntKind.i64) (Ty.pair (Ty.sl (nat_lit 9) Ty.str) (Ty.sl (nat_lit 39) (Ty.pair Ty.str (Ty.pair Ty.bool (Ty.sl (nat_lit 3) (Ty.int IntKind.i64)))))))) y1 (Int.toNat y0)).2.1 (at_ (Ty.pair (Ty.int IntKind.i64) (Ty.pair (Ty.int IntKind.i64) (Ty.pair (Ty.sl (nat_lit 9) Ty.str) (Ty.sl (nat_lit 39) (Ty.pair Ty.str (Ty.pair Ty.bool (Ty.sl (nat_lit 3) (Ty.int IntKind.i64)))))))) y1 (Int.toNat y0)).2.2.1 (at_ (Ty.pair (Ty.int IntKind.i64) (Ty.pair (Ty.int IntKind.i64) (Ty.pair (Ty.sl (nat_lit 9) Ty.str) (Ty.sl (nat_lit 39) (Ty.pair Ty.str (Ty.pair Ty.bool (Ty.sl (nat_lit 3) (Ty.int IntKind.i64)))))))) y1 (Int.toNat y0)).2.2.2) (.out (.inl false)) (.br (true) (.go (IntKind.wrap IntKind.i64 (y0 + (1:Int)))) .bad)) .bad) .bad) (.out (.inr (())))) .bad
noncomputable def g_Ls_DiskOk_0 (y1:List (Int×(Int×((List ByteArray)×(List (ByteArray×(Bool×(List Int)))))))) (y2:Int) (x:Int):Option ((Bool) ⊕ (Unit)) := loopO (g_Ss_DiskOk_0 y1 y2) x
noncomputable def xs_DiskOk_0 (y1:List (Int×(Int×((List ByteArray)×(List (ByteArray×(Bool×(List Int)))))))) (y2:Int):((Bool) ⊕ (Unit)) → Ex×List (Pl×LV) := fun
 | .inl r => (.ret,[(.T 2,.t (.val false [.bool r]))])
 | .inr (r) => (.exit 0,[(.T 2,.t (.val false [.undef]))])
noncomputable def Os_DiskOk_1:Orc := fun b h => match b,h with
 | 0,[(.T 1,.t (.val false [.ptr 1 0 0])),(.T 3,.t (.val false [.int .i64 y0])),(.B 1,.b 0 false [.sl .any 72 (.pair (.int .i64) (.pair (.int .i64) (.pair (.sl 9 .str) (.sl 39 (.pair .str (.pair .bool (.sl 3 (.int .i64)))))))) y1,.int .i64 y2])] => some (okO (g_Ls_DiskOk_0 y1 y2 y0),(.br (isL (valO (g_Ls_DiskOk_0 y1 y2 y0))) (.leaf .ret [(.T 2,.t (.val false [.bool (getL (valO (g_Ls_DiskOk_0 y1 y2 y0)))]))]) (.leaf (.exit 0) [(.T 2,.t (.val false [.undef]))])))
 | b,h => Os_DiskOk_0 b h
theorem bs_DiskOk_0 (y0:Int) (y1:List (Int×(Int×((List ByteArray)×(List (ByteArray×(Bool×(List Int)))))))) (y2:Int):Tr.bt Es_DiskOk Os_DiskOk_0 (exec Es_DiskOk 0 cs_DiskOk_0 (St.of (hs_DiskOk_0 y0 y1 y2)) (leafRd Es_DiskOk 0)) = (g_Ss_DiskOk_0 y1 y2 y0).bt (fun (y0:Int) => (hs_DiskOk_0 y0 y1 y2)) (xs_DiskOk_0 y1 y2) := by kernel_rfl
theorem ks_DiskOk_1:OrcOk Es_DiskOk Os_DiskOk_1 lss_DiskOk 1 := orc_add ks_DiskOk_0 (fun n p hp h ex h' ho => by
 obtain ⟨b,c⟩ := p
 obtain ⟨xt,h1,h2⟩ := ho
 have h1:Os_DiskOk_1 b h = some (true,xt) := h1
 unfold Os_DiskOk_1 at h1
 split at h1
 ·injection h1 with h1
  injection h1 with e1 e2
  subst e2
  have hc:c = cs_DiskOk_0 := ms_DiskOk_0 _ hp rfl
  subst hc
  right
  rename_i y0 y1 y2
  have key := LT_step ks_DiskOk_0 hp (fun q hq => loopsAll_in _ _ _ _ hp hq) (fun (y0:Int) => (hs_DiskOk_0 y0 y1 y2)) (xs_DiskOk_0 y1 y2) (g_Ss_DiskOk_0 y1 y2) (fun x => by first | exact bs_DiskOk_0 x y1 y2) n (x := y0) (okO_some e1)
  have hx:∀ r,XT.sel (.br (isL r) (.leaf .ret [(.T 2,.t (.val false [.bool (getL r)]))]) (.leaf (.exit 0) [(.T 2,.t (.val false [.undef]))])) = xs_DiskOk_0 y1 y2 r := fun r => by first | rfl | (rcases r with r | r <;> rfl) | (rcases r with r | r | r <;> rfl) | (rcases r with r | r | r | r <;> rfl)
  have h3 := (hx (valO (g_Ls_DiskOk_0 y1 y2 y0))).symm.trans h2
  have e3 := congrArg Prod.fst h3
  have e4 := congrArg Prod.snd h3
  simp only at e3 e4
  rw [← e3,← e4]
  exact key
 ·exact .inl ⟨xt,h1,h2⟩)
noncomputable def g_As_DiskOk (a0:List (Int×(Int×((List ByteArray)×(List (ByteArray×(Bool×(List Int)))))))) (a1:Int):Bool := decide ((↑(List.length a0):Int) > (120:Int)) || g_As_l1In a1 (0:Int) (↑(List.length a0):Int)&&(!g_Vs_l1In_0 a1 (0:Int) (↑(List.length a0):Int) || okO (g_Ls_DiskOk_0 a0 a1 (0:Int)))
noncomputable def g_Vs_DiskOk_0 (a0:List (Int×(Int×((List ByteArray)×(List (ByteArray×(Bool×(List Int)))))))) (a1:Int):Bool := bif decide ((↑(List.length a0):Int) > (120:Int)) then false else bif !g_Vs_l1In_0 a1 (0:Int) (↑(List.length a0):Int) then false else bif isL (valO (g_Ls_DiskOk_0 a0 a1 (0:Int))) then getL (valO (g_Ls_DiskOk_0 a0 a1 (0:Int))) else true
noncomputable def Fs_DiskOk:FSem := fun ys => match ys with
 | [.val true [.sl .any 72 (.pair (.int .i64) (.pair (.int .i64) (.pair (.sl 9 .str) (.sl 39 (.pair .str (.pair .bool (.sl 3 (.int .i64)))))))) a0,.int .i64 a1]] => some ((g_As_DiskOk a0 a1),.val false [.bool (g_Vs_DiskOk_0 a0 a1)],[])
 | _ => none
theorem vs_DiskOk (a0:List (Int×(Int×((List ByteArray)×(List (ByteArray×(Bool×(List Int)))))))) (a1:Int):collapseH .std Es_DiskOk Os_DiskOk_1 (execFn Es_DiskOk Tryz.f33 mss_DiskOk [.val true [.sl .any 72 (.pair (.int .i64) (.pair (.int .i64) (.pair (.sl 9 .str) (.sl 39 (.pair .str (.pair .bool (.sl 3 (.int .i64)))))))) a0,.int .i64 a1]]) = some ((g_As_DiskOk a0 a1),.val false [.bool (g_Vs_DiskOk_0 a0 a1)],[]) := by kernel_rfl
theorem ss_DiskOk:Sound Tryz.prog 33 mss_DiskOk Fs_DiskOk := by
 refine fn_gen goods_DiskOk (by kernel_rfl) .std (fn := Tryz.f33) (c := (Tryz.f33.body.getD .skip)) (o := Os_DiskOk_1) (k := 1) (by kernel_rfl) (by kernel_rfl) (by kernel_rfl) (by kernel_rfl) (by decide) ks_DiskOk_1 ?_
 intro ys r outs h
 unfold Fs_DiskOk at h
 split at h
 ·exact (vs_DiskOk _ _).trans h
 ·cases h
noncomputable def Es_StoOk:Env where
 tt := mkTI Tryz.prog
 fn := fun f => match f with
  | 128 => some (mss_l1Key,FSem.wk mss_l1Key Fs_l1Key)
  | 146 => some (mss_l1Val,FSem.wk mss_l1Val Fs_l1Val)
  | _ => none
 bxf := fun _ => none
 mv := []
 keep := fun b => match b with
  | 0 => [(1,false),(3,false)]
  | _ => []
 keepB := fun b => match b with
  | 0 => [(1,false)]
  | _ => []
 keepX := fun b => match b with
  | 0 => [(2,false)]
  | _ => []
 keepXB := fun b => match b with
  | 0 => []
  | _ => []
theorem goodFs_StoOk:∀ f ms F,Es_StoOk.fn f = some (ms,F) → Sound Tryz.prog f ms F := fun f ms F h => by
 unfold Es_StoOk at h
 dsimp only at h
 split at h
 ·injection h with h; injection h with e1 e2; subst e1 e2; exact Sound.wk ss_l1Key
 ·injection h with h; injection h with e1 e2; subst e1 e2; exact Sound.wk ss_l1Val
 ·cases h
theorem goodBs_StoOk:∀ f ms F,Es_StoOk.bxf f = some (ms,F) → SoundB Tryz.prog f ms F := fun f ms F h => by cases h
theorem goods_StoOk:Good Tryz.prog Es_StoOk := ⟨rfl,goodFs_StoOk,goodBs_StoOk⟩
noncomputable def Os_StoOk_0:Orc := fun _ _ => none
noncomputable def mss_StoOk:List PM := [.rd]
noncomputable def lss_StoOk:List (Nat×Code) := loopsAll 0 (Tryz.f102.body.getD .skip)
noncomputable def cs_StoOk_0:Code := (loopOf 0 (Tryz.f102.body.getD .skip)).getD .skip
theorem lseqs_StoOk:lss_StoOk = [(0,cs_StoOk_0)] := by kernel_rfl
theorem ms_StoOk_0:∀ p,p ∈ lss_StoOk → p.1 = 0 → p.2 = cs_StoOk_0 := by
 intro p hp
 rw [lseqs_StoOk] at hp
 simp only [List.mem_cons,List.not_mem_nil,or_false] at hp
 subst hp; simp
theorem ks_StoOk_0:OrcOk Es_StoOk Os_StoOk_0 lss_StoOk 0 := orcOk_none
noncomputable def hs_StoOk_0 (y0:Int) (y1:List (ByteArray×(List Int))):List (Pl×LV) := [(.T 1,.t (.val false [.ptr 1 0 0])),(.T 3,.t (.val false [.int .i64 y0])),(.B 1,.b 0 false [.sl .any 49 (.pair .str (.sl 3 (.int .i64))) y1])]
noncomputable def g_Ss_StoOk_0 (y1:List (ByteArray×(List Int))):(Int) → RT (Int) ((Bool) ⊕ (Unit))
 | y0 => .br (true) (.br (decide (y0 < (↑(List.length y1):Int))) (.br (decide ((0:Int) ≤ y0 ∧ y0 < (↑(List.length y1):Int))) (.br (g_As_l1Key (at_ (Ty.pair Ty.str (Ty.sl (nat_lit 3) (Ty.int IntKind.i64))) y1 (Int.toNat y0)).1) (.br (!g_Vs_l1Key_0 (at_ (Ty.pair Ty.str (Ty.sl (nat_lit 3) (Ty.int IntKind.i64))) y1 (Int.toNat y0)).1) (.out (.inl false)) (.br (decide ((0:Int) ≤ y0 ∧ y0 < (↑(List.length y1):Int))) (.br (g_As_l1Val (at_ (Ty.pair Ty.str (Ty.sl (nat_lit 3) (Ty.int IntKind.i64))) y1 (Int.toNat y0)).2) (.br (!g_Vs_l1Val_0 (at_ (Ty.pair Ty.str (Ty.sl (nat_lit 3) (Ty.int IntKind.i64))) y1 (Int.toNat y0)).2) (.out (.inl false)) (.br (true) (.br (decide (y0 > (0:Int))) (.br (true) (.br (decide ((0:Int) ≤ IntKind.wrap IntKind.i64 (y0 - (1:Int)) ∧ IntKind.wrap IntKind.i64 (y0 - (1:Int)) < (↑(List.length y1):Int))) (.br (decide ((0:Int) ≤ y0 ∧ y0 < (↑(List.length y1):Int))) (.br (true) (.br (!Op.bytesLess (ByteArray.toList (at_ (Ty.pair Ty.str (Ty.sl (nat_lit 3) (Ty.int IntKind.i64))) y1 (Int.toNat (IntKind.wrap IntKind.i64 (y0 - (1:Int))))).1) (ByteArray.toList (at_ (Ty.pair Ty.str (Ty.sl (nat_lit 3) (Ty.int IntKind.i64))) y1 (Int.toNat y0)).1)) (.out (.inl false)) (.br (true) (.go (IntKind.wrap IntKind.i64 (y0 + (1:Int)))) .bad)) .bad) .bad) .bad) .bad) (.br (true) (.go (IntKind.wrap IntKind.i64 (y0 + (1:Int)))) .bad)) .bad)) .bad) .bad)) .bad) .bad) (.out (.inr (())))) .bad
noncomputable def g_Ls_StoOk_0 (y1:List (ByteArray×(List Int))) (x:Int):Option ((Bool) ⊕ (Unit)) := loopO (g_Ss_StoOk_0 y1) x
noncomputable def xs_StoOk_0 (y1:List (ByteArray×(List Int))):((Bool) ⊕ (Unit)) → Ex×List (Pl×LV) := fun
 | .inl r => (.ret,[(.T 2,.t (.val false [.bool r]))])
 | .inr (r) => (.exit 0,[(.T 2,.t (.val false [.undef]))])
noncomputable def Os_StoOk_1:Orc := fun b h => match b,h with
 | 0,[(.T 1,.t (.val false [.ptr 1 0 0])),(.T 3,.t (.val false [.int .i64 y0])),(.B 1,.b 0 false [.sl .any 49 (.pair .str (.sl 3 (.int .i64))) y1])] => some (okO (g_Ls_StoOk_0 y1 y0),(.br (isL (valO (g_Ls_StoOk_0 y1 y0))) (.leaf .ret [(.T 2,.t (.val false [.bool (getL (valO (g_Ls_StoOk_0 y1 y0)))]))]) (.leaf (.exit 0) [(.T 2,.t (.val false [.undef]))])))
 | b,h => Os_StoOk_0 b h
theorem bs_StoOk_0 (y0:Int) (y1:List (ByteArray×(List Int))):Tr.bt Es_StoOk Os_StoOk_0 (exec Es_StoOk 0 cs_StoOk_0 (St.of (hs_StoOk_0 y0 y1)) (leafRd Es_StoOk 0)) = (g_Ss_StoOk_0 y1 y0).bt (fun (y0:Int) => (hs_StoOk_0 y0 y1)) (xs_StoOk_0 y1) := by kernel_rfl
theorem ks_StoOk_1:OrcOk Es_StoOk Os_StoOk_1 lss_StoOk 1 := orc_add ks_StoOk_0 (fun n p hp h ex h' ho => by
 obtain ⟨b,c⟩ := p
 obtain ⟨xt,h1,h2⟩ := ho
 have h1:Os_StoOk_1 b h = some (true,xt) := h1
 unfold Os_StoOk_1 at h1
 split at h1
 ·injection h1 with h1
  injection h1 with e1 e2
  subst e2
  have hc:c = cs_StoOk_0 := ms_StoOk_0 _ hp rfl
  subst hc
  right
  rename_i y0 y1
  have key := LT_step ks_StoOk_0 hp (fun q hq => loopsAll_in _ _ _ _ hp hq) (fun (y0:Int) => (hs_StoOk_0 y0 y1)) (xs_StoOk_0 y1) (g_Ss_StoOk_0 y1) (fun x => by first | exact bs_StoOk_0 x y1) n (x := y0) (okO_some e1)
  have hx:∀ r,XT.sel (.br (isL r) (.leaf .ret [(.T 2,.t (.val false [.bool (getL r)]))]) (.leaf (.exit 0) [(.T 2,.t (.val false [.undef]))])) = xs_StoOk_0 y1 r := fun r => by first | rfl | (rcases r with r | r <;> rfl) | (rcases r with r | r | r <;> rfl) | (rcases r with r | r | r | r <;> rfl)
  have h3 := (hx (valO (g_Ls_StoOk_0 y1 y0))).symm.trans h2
  have e3 := congrArg Prod.fst h3
  have e4 := congrArg Prod.snd h3
  simp only at e3 e4
  rw [← e3,← e4]
  exact key
 ·exact .inl ⟨xt,h1,h2⟩)
noncomputable def g_As_StoOk (a0:List (ByteArray×(List Int))):Bool := decide ((↑(List.length a0):Int) > (40:Int)) || okO (g_Ls_StoOk_0 a0 (0:Int))
noncomputable def g_Vs_StoOk_0 (a0:List (ByteArray×(List Int))):Bool := bif decide ((↑(List.length a0):Int) > (40:Int)) then false else bif isL (valO (g_Ls_StoOk_0 a0 (0:Int))) then getL (valO (g_Ls_StoOk_0 a0 (0:Int))) else true
noncomputable def Fs_StoOk:FSem := fun ys => match ys with
 | [.val true [.sl .any 49 (.pair .str (.sl 3 (.int .i64))) a0]] => some ((g_As_StoOk a0),.val false [.bool (g_Vs_StoOk_0 a0)],[])
 | _ => none
theorem vs_StoOk (a0:List (ByteArray×(List Int))):collapseH .std Es_StoOk Os_StoOk_1 (execFn Es_StoOk Tryz.f102 mss_StoOk [.val true [.sl .any 49 (.pair .str (.sl 3 (.int .i64))) a0]]) = some ((g_As_StoOk a0),.val false [.bool (g_Vs_StoOk_0 a0)],[]) := by kernel_rfl
theorem ss_StoOk:Sound Tryz.prog 102 mss_StoOk Fs_StoOk := by
 refine fn_gen goods_StoOk (by kernel_rfl) .std (fn := Tryz.f102) (c := (Tryz.f102.body.getD .skip)) (o := Os_StoOk_1) (k := 1) (by kernel_rfl) (by kernel_rfl) (by kernel_rfl) (by kernel_rfl) (by decide) ks_StoOk_1 ?_
 intro ys r outs h
 unfold Fs_StoOk at h
 split at h
 ·exact (vs_StoOk _).trans h
 ·cases h
noncomputable def Es_l1Copy:Env where
 tt := mkTI Tryz.prog
 fn := fun _ => none
 bxf := fun _ => none
 mv := []
 keep := fun b => match b with
  | 0 => [(1,false),(2,false),(3,false),(4,false)]
  | _ => []
 keepB := fun b => match b with
  | 0 => [(1,false),(2,false),(3,false)]
  | _ => []
 keepX := fun b => match b with
  | 0 => [(2,false),(3,false)]
  | _ => []
 keepXB := fun b => match b with
  | 0 => [(2,false),(3,false)]
  | _ => []
theorem goodFs_l1Copy:∀ f ms F,Es_l1Copy.fn f = some (ms,F) → Sound Tryz.prog f ms F := fun f ms F h => by cases h
theorem goodBs_l1Copy:∀ f ms F,Es_l1Copy.bxf f = some (ms,F) → SoundB Tryz.prog f ms F := fun f ms F h => by cases h
theorem goods_l1Copy:Good Tryz.prog Es_l1Copy := ⟨rfl,goodFs_l1Copy,goodBs_l1Copy⟩
noncomputable def Os_l1Copy_0:Orc := fun _ _ => none
noncomputable def mss_l1Copy:List PM := [.rd]
noncomputable def lss_l1Copy:List (Nat×Code) := loopsAll 0 (Tryz.f112.body.getD .skip)
noncomputable def cs_l1Copy_0:Code := (loopOf 0 (Tryz.f112.body.getD .skip)).getD .skip
theorem lseqs_l1Copy:lss_l1Copy = [(0,cs_l1Copy_0)] := by kernel_rfl
theorem ms_l1Copy_0:∀ p,p ∈ lss_l1Copy → p.1 = 0 → p.2 = cs_l1Copy_0 := by
 intro p hp
 rw [lseqs_l1Copy] at hp
 simp only [List.mem_cons,List.not_mem_nil,or_false] at hp
 subst hp; simp
theorem ks_l1Copy_0:OrcOk Es_l1Copy Os_l1Copy_0 lss_l1Copy 0 := orcOk_none
noncomputable def hs_l1Copy_0 (y0:Int) (y1:List (ByteArray×(List Int))) (y2:List (ByteArray×(List Int))) (y3:List (ByteArray×(List Int))):List (Pl×LV) := [(.T 1,.t (.val false [.ptr 1 0 0])),(.T 2,.t (.val false [.ptr 2 0 0])),(.T 3,.t (.val false [.ptr 3 0 0])),(.T 4,.t (.val false [.int .i64 y0])),(.B 1,.b 0 false [.sl .any 49 (.pair .str (.sl 3 (.int .i64))) y1]),(.B 2,.b 0 false [.row 2 1 0]),(.R 2 1,.r 0 (some ⟨false,.any,true,49,(.pair .str (.sl 3 (.int .i64))),y2⟩)),(.B 3,.b 0 false [.row 3 1 0]),(.R 3 1,.r 0 (some ⟨false,.any,true,49,(.pair .str (.sl 3 (.int .i64))),y3⟩))]
noncomputable def g_Ss_l1Copy_0 (y1:List (ByteArray×(List Int))) (y2:List (ByteArray×(List Int))):(Int×(List (ByteArray×(List Int)))) → RT (Int×(List (ByteArray×(List Int)))) (((List (ByteArray×(List Int)))))
 | (y0,y3) => .br (true) (.br (decide (y0 < (↑(List.length y1):Int))) (.br (decide ((0:Int) ≤ y0 ∧ y0 < (↑(List.length y1):Int))) (.br (decide ((0:Int) ≤ y0 ∧ y0 < (↑(List.length y1):Int))) (.br (decide ((nat_lit 0 + List.length (at_ (Ty.pair Ty.str (Ty.sl (nat_lit 3) (Ty.int IntKind.i64))) y1 (Int.toNat y0)).2) * nat_lit 8 ≤ nat_lit 140737488355328 ∧ nat_lit 0 + List.length (at_ (Ty.pair Ty.str (Ty.sl (nat_lit 3) (Ty.int IntKind.i64))) y1 (Int.toNat y0)).2 ≤ nat_lit 9223372036854775807)) (.br (decide ((List.length y3 + List.length [((at_ (Ty.pair Ty.str (Ty.sl (nat_lit 3) (Ty.int IntKind.i64))) y1 (Int.toNat y0)).1,[] ++ (at_ (Ty.pair Ty.str (Ty.sl (nat_lit 3) (Ty.int IntKind.i64))) y1 (Int.toNat y0)).2)]) * nat_lit 40 ≤ nat_lit 140737488355328 ∧ List.length y3 + List.length [((at_ (Ty.pair Ty.str (Ty.sl (nat_lit 3) (Ty.int IntKind.i64))) y1 (Int.toNat y0)).1,[] ++ (at_ (Ty.pair Ty.str (Ty.sl (nat_lit 3) (Ty.int IntKind.i64))) y1 (Int.toNat y0)).2)] ≤ nat_lit 9223372036854775807)) (.br (true) (.go ((IntKind.wrap IntKind.i64 (y0 + (1:Int)),y3 ++ [((at_ (Ty.pair Ty.str (Ty.sl (nat_lit 3) (Ty.int IntKind.i64))) y1 (Int.toNat y0)).1,[] ++ (at_ (Ty.pair Ty.str (Ty.sl (nat_lit 3) (Ty.int IntKind.i64))) y1 (Int.toNat y0)).2)]))) .bad) .bad) .bad) .bad) .bad) (.out (y3))) .bad
noncomputable def g_Ls_l1Copy_0 (y1:List (ByteArray×(List Int))) (y2:List (ByteArray×(List Int))) (x:Int×(List (ByteArray×(List Int)))):Option (((List (ByteArray×(List Int))))) := loopO (g_Ss_l1Copy_0 y1 y2) x
noncomputable def xs_l1Copy_0 (y1:List (ByteArray×(List Int))) (y2:List (ByteArray×(List Int))):(((List (ByteArray×(List Int))))) → Ex×List (Pl×LV) := fun r => (.exit 0,[(.T 2,.t (.val false [.ptr 2 0 0])),(.T 3,.t (.val false [.ptr 3 0 0])),(.B 2,.b 0 false [.row 2 1 0]),(.R 2 1,.r 0 (some ⟨false,.any,true,49,(.pair .str (.sl 3 (.int .i64))),y2⟩)),(.B 3,.b 0 false [.row 3 1 0]),(.R 3 1,.r 0 (some ⟨false,.any,true,49,(.pair .str (.sl 3 (.int .i64))),r⟩))])
noncomputable def Os_l1Copy_1:Orc := fun b h => match b,h with
 | 0,[(.T 1,.t (.val false [.ptr 1 0 0])),(.T 2,.t (.val false [.ptr 2 0 0])),(.T 3,.t (.val false [.ptr 3 0 0])),(.T 4,.t (.val false [.int .i64 y0])),(.B 1,.b 0 false [.sl .any 49 (.pair .str (.sl 3 (.int .i64))) y1]),(.B 2,.b 0 false [.row 2 1 0]),(.R 2 1,.r 0 (some ⟨false,.any,true,49,(.pair .str (.sl 3 (.int .i64))),y2⟩)),(.B 3,.b 0 false [.row 3 1 0]),(.R 3 1,.r 0 (some ⟨false,.any,true,49,(.pair .str (.sl 3 (.int .i64))),y3⟩))] => some (okO (g_Ls_l1Copy_0 y1 y2 (y0,y3)),(.leaf (.exit 0) [(.T 2,.t (.val false [.ptr 2 0 0])),(.T 3,.t (.val false [.ptr 3 0 0])),(.B 2,.b 0 false [.row 2 1 0]),(.R 2 1,.r 0 (some ⟨false,.any,true,49,(.pair .str (.sl 3 (.int .i64))),y2⟩)),(.B 3,.b 0 false [.row 3 1 0]),(.R 3 1,.r 0 (some ⟨false,.any,true,49,(.pair .str (.sl 3 (.int .i64))),(valO (g_Ls_l1Copy_0 y1 y2 (y0,y3)))⟩))]))
 | b,h => Os_l1Copy_0 b h
theorem bs_l1Copy_0 (y0:Int) (y1:List (ByteArray×(List Int))) (y2:List (ByteArray×(List Int))) (y3:List (ByteArray×(List Int))):Tr.bt Es_l1Copy Os_l1Copy_0 (exec Es_l1Copy 0 cs_l1Copy_0 (St.of (hs_l1Copy_0 y0 y1 y2 y3)) (leafRd Es_l1Copy 0)) = (g_Ss_l1Copy_0 y1 y2 (y0,y3)).bt (fun ((y0,y3):Int×(List (ByteArray×(List Int)))) => (hs_l1Copy_0 y0 y1 y2 y3)) (xs_l1Copy_0 y1 y2) := by kernel_rfl
theorem ks_l1Copy_1:OrcOk Es_l1Copy Os_l1Copy_1 lss_l1Copy 1 := orc_add ks_l1Copy_0 (fun n p hp h ex h' ho => by
 obtain ⟨b,c⟩ := p
 obtain ⟨xt,h1,h2⟩ := ho
 have h1:Os_l1Copy_1 b h = some (true,xt) := h1
 unfold Os_l1Copy_1 at h1
 split at h1
 ·injection h1 with h1
  injection h1 with e1 e2
  subst e2
  have hc:c = cs_l1Copy_0 := ms_l1Copy_0 _ hp rfl
  subst hc
  right
  rename_i y0 y1 y2 y3
  have key := LT_step ks_l1Copy_0 hp (fun q hq => loopsAll_in _ _ _ _ hp hq) (fun ((y0,y3):Int×(List (ByteArray×(List Int)))) => (hs_l1Copy_0 y0 y1 y2 y3)) (xs_l1Copy_0 y1 y2) (g_Ss_l1Copy_0 y1 y2) (fun x => by first | exact bs_l1Copy_0 x.1 y1 y2 x.2) n (x := (y0,y3)) (okO_some e1)
  have hx:∀ r,XT.sel (.leaf (.exit 0) [(.T 2,.t (.val false [.ptr 2 0 0])),(.T 3,.t (.val false [.ptr 3 0 0])),(.B 2,.b 0 false [.row 2 1 0]),(.R 2 1,.r 0 (some ⟨false,.any,true,49,(.pair .str (.sl 3 (.int .i64))),y2⟩)),(.B 3,.b 0 false [.row 3 1 0]),(.R 3 1,.r 0 (some ⟨false,.any,true,49,(.pair .str (.sl 3 (.int .i64))),r⟩))]) = xs_l1Copy_0 y1 y2 r := fun r => by first | rfl | (rcases r with r | r <;> rfl) | (rcases r with r | r | r <;> rfl) | (rcases r with r | r | r | r <;> rfl)
  have h3 := (hx (valO (g_Ls_l1Copy_0 y1 y2 (y0,y3)))).symm.trans h2
  have e3 := congrArg Prod.fst h3
  have e4 := congrArg Prod.snd h3
  simp only at e3 e4
  rw [← e3,← e4]
  exact key
 ·exact .inl ⟨xt,h1,h2⟩)
noncomputable def g_As_l1Copy (a0:List (ByteArray×(List Int))):Bool := okO (g_Ls_l1Copy_0 a0 [] ((0:Int),[]))
noncomputable def g_Vs_l1Copy_0 (a0:List (ByteArray×(List Int))):List (ByteArray×(List Int)) := valO (g_Ls_l1Copy_0 a0 [] ((0:Int),[]))
noncomputable def Fs_l1Copy:FSem := fun ys => match ys with
 | [.val true [.sl .any 49 (.pair .str (.sl 3 (.int .i64))) a0]] => some ((g_As_l1Copy a0),.val true [.own .any true 49 (.pair .str (.sl 3 (.int .i64))) (g_Vs_l1Copy_0 a0)],[])
 | _ => none
theorem vs_l1Copy (a0:List (ByteArray×(List Int))):collapseH .std Es_l1Copy Os_l1Copy_1 (execFn Es_l1Copy Tryz.f112 mss_l1Copy [.val true [.sl .any 49 (.pair .str (.sl 3 (.int .i64))) a0]]) = some ((g_As_l1Copy a0),.val true [.own .any true 49 (.pair .str (.sl 3 (.int .i64))) (g_Vs_l1Copy_0 a0)],[]) := by kernel_rfl
theorem ss_l1Copy:Sound Tryz.prog 112 mss_l1Copy Fs_l1Copy := by
 refine fn_gen goods_l1Copy (by kernel_rfl) .std (fn := Tryz.f112) (c := (Tryz.f112.body.getD .skip)) (o := Os_l1Copy_1) (k := 1) (by kernel_rfl) (by kernel_rfl) (by kernel_rfl) (by kernel_rfl) (by decide) ks_l1Copy_1 ?_
 intro ys r outs h
 unfold Fs_l1Copy at h
 split at h
 ·exact (vs_l1Copy _).trans h
 ·cases h
noncomputable def Es_l1Write:Env where
 tt := mkTI Tryz.prog
 fn := fun _ => none
 bxf := fun _ => none
 mv := []
 keep := fun b => match b with
  | 0 => [(2,false),(3,false),(4,false),(5,true),(6,false),(7,false)]
  | _ => []
 keepB := fun b => match b with
  | 0 => [(2,false),(3,false),(4,false),(5,true)]
  | _ => []
 keepX := fun b => match b with
  | 0 => [(3,false),(4,false),(5,true),(6,false)]
  | _ => []
 keepXB := fun b => match b with
  | 0 => [(3,false),(4,false),(5,true)]
  | _ => []
theorem goodFs_l1Write:∀ f ms F,Es_l1Write.fn f = some (ms,F) → Sound Tryz.prog f ms F := fun f ms F h => by cases h
theorem goodBs_l1Write:∀ f ms F,Es_l1Write.bxf f = some (ms,F) → SoundB Tryz.prog f ms F := fun f ms F h => by cases h
theorem goods_l1Write:Good Tryz.prog Es_l1Write := ⟨rfl,goodFs_l1Write,goodBs_l1Write⟩
noncomputable def Os_l1Write_0:Orc := fun _ _ => none
noncomputable def mss_l1Write:List PM := [.fz,.fz]
noncomputable def lss_l1Write:List (Nat×Code) := loopsAll 0 (Tryz.f114.body.getD .skip)
noncomputable def cs_l1Write_0:Code := (loopOf 0 (Tryz.f114.body.getD .skip)).getD .skip
theorem lseqs_l1Write:lss_l1Write = [(0,cs_l1Write_0)] := by kernel_rfl
theorem ms_l1Write_0:∀ p,p ∈ lss_l1Write → p.1 = 0 → p.2 = cs_l1Write_0 := by
 intro p hp
 rw [lseqs_l1Write] at hp
 simp only [List.mem_cons,List.not_mem_nil,or_false] at hp
 subst hp; simp
theorem ks_l1Write_0:OrcOk Es_l1Write Os_l1Write_0 lss_l1Write 0 := orcOk_none
noncomputable def hs_l1Write_0 (y0:Bool) (y1:Int) (y2:List (ByteArray×(List Int))) (y3:ByteArray) (y4:Bool) (y5:List Int) (y6:List (ByteArray×(List Int))) (y7:List (ByteArray×(List Int))):List (Pl×LV) := [(.T 2,.t (.val false [.ptr 2 0 0])),(.T 3,.t (.val false [.ptr 3 0 0])),(.T 4,.t (.val false [.ptr 4 0 0])),(.T 5,.t (.val false [.ptr 5 0 0])),(.T 6,.t (.val false [.bool y0])),(.T 7,.t (.val false [.int .i64 y1])),(.B 2,.b 0 false [.sl .any 49 (.pair .str (.sl 3 (.int .i64))) y2]),(.B 3,.b 0 false [.str y3,.bool y4,.sl .any 3 (.int .i64) y5]),(.B 4,.b 0 false [.row 4 1 0]),(.R 4 1,.r 0 (some ⟨false,.any,true,49,(.pair .str (.sl 3 (.int .i64))),y6⟩)),(.B 5,.b 0 false [.row 5 1 0]),(.R 5 1,.r 0 (some ⟨false,.any,false,49,(.pair .str (.sl 3 (.int .i64))),y7⟩))]
noncomputable def g_Ss_l1Write_0 (y2:List (ByteArray×(List Int))) (y3:ByteArray) (y4:Bool) (y5:List Int) (y6:List (ByteArray×(List Int))):(Bool×Int×(List (ByteArray×(List Int)))) → RT (Bool×Int×(List (ByteArray×(List Int)))) ((Bool×(List (ByteArray×(List Int)))))
 | (y0,y1,y7) => .br (true) (.br (decide (y1 < (↑(List.length y2):Int))) (.br (decide ((0:Int) ≤ y1 ∧ y1 < (↑(List.length y2):Int))) (.br (!y0) (.br (true) (.br (Op.bytesLess (ByteArray.toList y3) (ByteArray.toList (at_ (Ty.pair Ty.str (Ty.sl (nat_lit 3) (Ty.int IntKind.i64))) y2 (Int.toNat y1)).1)) (.br (decide ((nat_lit 0 + List.length y5) * nat_lit 8 ≤ nat_lit 140737488355328 ∧ nat_lit 0 + List.length y5 ≤ nat_lit 9223372036854775807)) (.br (decide ((List.length y7 + List.length [(y3,[] ++ y5)]) * nat_lit 40 ≤ nat_lit 140737488355328 ∧ List.length y7 + List.length [(y3,[] ++ y5)] ≤ nat_lit 9223372036854775807)) (.br (true) (.br (!ByteArray.toList (at_ (Ty.pair Ty.str (Ty.sl (nat_lit 3) (Ty.int IntKind.i64))) y2 (Int.toNat y1)).1 == ByteArray.toList y3) (.br (decide ((List.length (y7 ++ [(y3,[] ++ y5)]) + List.length [((at_ (Ty.pair Ty.str (Ty.sl (nat_lit 3) (Ty.int IntKind.i64))) y2 (Int.toNat y1)).1,(at_ (Ty.pair Ty.str (Ty.sl (nat_lit 3) (Ty.int IntKind.i64))) y2 (Int.toNat y1)).2)]) * nat_lit 40 ≤ nat_lit 140737488355328 ∧ List.length (y7 ++ [(y3,[] ++ y5)]) + List.length [((at_ (Ty.pair Ty.str (Ty.sl (nat_lit 3) (Ty.int IntKind.i64))) y2 (Int.toNat y1)).1,(at_ (Ty.pair Ty.str (Ty.sl (nat_lit 3) (Ty.int IntKind.i64))) y2 (Int.toNat y1)).2)] ≤ nat_lit 9223372036854775807)) (.br (true) (.go ((true,IntKind.wrap IntKind.i64 (y1 + (1:Int)),y7 ++ [(y3,[] ++ y5)] ++ [((at_ (Ty.pair Ty.str (Ty.sl (nat_lit 3) (Ty.int IntKind.i64))) y2 (Int.toNat y1)).1,(at_ (Ty.pair Ty.str (Ty.sl (nat_lit 3) (Ty.int IntKind.i64))) y2 (Int.toNat y1)).2)]))) .bad) .bad) (.br (!y4) (.br (decide ((nat_lit 0 + List.length y5) * nat_lit 8 ≤ nat_lit 140737488355328 ∧ nat_lit 0 + List.length y5 ≤ nat_lit 9223372036854775807)) (.br (decide ((List.length (y7 ++ [(y3,[] ++ y5)]) + List.length [(y3,[] ++ y5)]) * nat_lit 40 ≤ nat_lit 140737488355328 ∧ List.length (y7 ++ [(y3,[] ++ y5)]) + List.length [(y3,[] ++ y5)] ≤ nat_lit 9223372036854775807)) (.br (true) (.go ((true,IntKind.wrap IntKind.i64 (y1 + (1:Int)),y7 ++ [(y3,[] ++ y5)] ++ [(y3,[] ++ y5)]))) .bad) .bad) .bad) (.br (true) (.go ((true,IntKind.wrap IntKind.i64 (y1 + (1:Int)),y7 ++ [(y3,[] ++ y5)]))) .bad))) .bad) .bad) .bad) (.br (true) (.br (!ByteArray.toList (at_ (Ty.pair Ty.str (Ty.sl (nat_lit 3) (Ty.int IntKind.i64))) y2 (Int.toNat y1)).1 == ByteArray.toList y3) (.br (decide ((List.length y7 + List.length [((at_ (Ty.pair Ty.str (Ty.sl (nat_lit 3) (Ty.int IntKind.i64))) y2 (Int.toNat y1)).1,(at_ (Ty.pair Ty.str (Ty.sl (nat_lit 3) (Ty.int IntKind.i64))) y2 (Int.toNat y1)).2)]) * nat_lit 40 ≤ nat_lit 140737488355328 ∧ List.length y7 + List.length [((at_ (Ty.pair Ty.str (Ty.sl (nat_lit 3) (Ty.int IntKind.i64))) y2 (Int.toNat y1)).1,(at_ (Ty.pair Ty.str (Ty.sl (nat_lit 3) (Ty.int IntKind.i64))) y2 (Int.toNat y1)).2)] ≤ nat_lit 9223372036854775807)) (.br (true) (.go ((y0,IntKind.wrap IntKind.i64 (y1 + (1:Int)),y7 ++ [((at_ (Ty.pair Ty.str (Ty.sl (nat_lit 3) (Ty.int IntKind.i64))) y2 (Int.toNat y1)).1,(at_ (Ty.pair Ty.str (Ty.sl (nat_lit 3) (Ty.int IntKind.i64))) y2 (Int.toNat y1)).2)]))) .bad) .bad) (.br (!y4) (.br (decide ((nat_lit 0 + List.length y5) * nat_lit 8 ≤ nat_lit 140737488355328 ∧ nat_lit 0 + List.length y5 ≤ nat_lit 9223372036854775807)) (.br (decide ((List.length y7 + List.length [(y3,[] ++ y5)]) * nat_lit 40 ≤ nat_lit 140737488355328 ∧ List.length y7 + List.length [(y3,[] ++ y5)] ≤ nat_lit 9223372036854775807)) (.br (true) (.go ((true,IntKind.wrap IntKind.i64 (y1 + (1:Int)),y7 ++ [(y3,[] ++ y5)]))) .bad) .bad) .bad) (.br (true) (.go ((y0,IntKind.wrap IntKind.i64 (y1 + (1:Int)),y7))) .bad))) .bad)) .bad) (.br (true) (.br (!ByteArray.toList (at_ (Ty.pair Ty.str (Ty.sl (nat_lit 3) (Ty.int IntKind.i64))) y2 (Int.toNat y1)).1 == ByteArray.toList y3) (.br (decide ((List.length y7 + List.length [((at_ (Ty.pair Ty.str (Ty.sl (nat_lit 3) (Ty.int IntKind.i64))) y2 (Int.toNat y1)).1,(at_ (Ty.pair Ty.str (Ty.sl (nat_lit 3) (Ty.int IntKind.i64))) y2 (Int.toNat y1)).2)]) * nat_lit 40 ≤ nat_lit 140737488355328 ∧ List.length y7 + List.length [((at_ (Ty.pair Ty.str (Ty.sl (nat_lit 3) (Ty.int IntKind.i64))) y2 (Int.toNat y1)).1,(at_ (Ty.pair Ty.str (Ty.sl (nat_lit 3) (Ty.int IntKind.i64))) y2 (Int.toNat y1)).2)] ≤ nat_lit 9223372036854775807)) (.br (true) (.go ((y0,IntKind.wrap IntKind.i64 (y1 + (1:Int)),y7 ++ [((at_ (Ty.pair Ty.str (Ty.sl (nat_lit 3) (Ty.int IntKind.i64))) y2 (Int.toNat y1)).1,(at_ (Ty.pair Ty.str (Ty.sl (nat_lit 3) (Ty.int IntKind.i64))) y2 (Int.toNat y1)).2)]))) .bad) .bad) (.br (!y4) (.br (decide ((nat_lit 0 + List.length y5) * nat_lit 8 ≤ nat_lit 140737488355328 ∧ nat_lit 0 + List.length y5 ≤ nat_lit 9223372036854775807)) (.br (decide ((List.length y7 + List.length [(y3,[] ++ y5)]) * nat_lit 40 ≤ nat_lit 140737488355328 ∧ List.length y7 + List.length [(y3,[] ++ y5)] ≤ nat_lit 9223372036854775807)) (.br (true) (.go ((true,IntKind.wrap IntKind.i64 (y1 + (1:Int)),y7 ++ [(y3,[] ++ y5)]))) .bad) .bad) .bad) (.br (true) (.go ((y0,IntKind.wrap IntKind.i64 (y1 + (1:Int)),y7))) .bad))) .bad)) .bad) (.out ((y0,y7)))) .bad
noncomputable def g_Ls_l1Write_0 (y2:List (ByteArray×(List Int))) (y3:ByteArray) (y4:Bool) (y5:List Int) (y6:List (ByteArray×(List Int))) (x:Bool×Int×(List (ByteArray×(List Int)))):Option ((Bool×(List (ByteArray×(List Int))))) := loopO (g_Ss_l1Write_0 y2 y3 y4 y5 y6) x
noncomputable def xs_l1Write_0 (y2:List (ByteArray×(List Int))) (y3:ByteArray) (y4:Bool) (y5:List Int) (y6:List (ByteArray×(List Int))):((Bool×(List (ByteArray×(List Int))))) → Ex×List (Pl×LV) := fun r => (.exit 0,[(.T 3,.t (.val false [.ptr 3 0 0])),(.T 4,.t (.val false [.ptr 4 0 0])),(.T 5,.t (.val false [.ptr 5 0 0])),(.T 6,.t (.val false [.bool r.1])),(.B 3,.b 0 false [.str y3,.bool y4,.sl .any 3 (.int .i64) y5]),(.B 4,.b 0 false [.row 4 1 0]),(.R 4 1,.r 0 (some ⟨false,.any,true,49,(.pair .str (.sl 3 (.int .i64))),y6⟩)),(.B 5,.b 0 false [.row 5 1 0]),(.R 5 1,.r 0 (some ⟨false,.any,false,49,(.pair .str (.sl 3 (.int .i64))),r.2⟩))])
noncomputable def Os_l1Write_1:Orc := fun b h => match b,h with
 | 0,[(.T 2,.t (.val false [.ptr 2 0 0])),(.T 3,.t (.val false [.ptr 3 0 0])),(.T 4,.t (.val false [.ptr 4 0 0])),(.T 5,.t (.val false [.ptr 5 0 0])),(.T 6,.t (.val false [.bool y0])),(.T 7,.t (.val false [.int .i64 y1])),(.B 2,.b 0 false [.sl .any 49 (.pair .str (.sl 3 (.int .i64))) y2]),(.B 3,.b 0 false [.str y3,.bool y4,.sl .any 3 (.int .i64) y5]),(.B 4,.b 0 false [.row 4 1 0]),(.R 4 1,.r 0 (some ⟨false,.any,true,49,(.pair .str (.sl 3 (.int .i64))),y6⟩)),(.B 5,.b 0 false [.row 5 1 0]),(.R 5 1,.r 0 (some ⟨false,.any,false,49,(.pair .str (.sl 3 (.int .i64))),y7⟩))] => some (okO (g_Ls_l1Write_0 y2 y3 y4 y5 y6 (y0,y1,y7)),(.leaf (.exit 0) [(.T 3,.t (.val false [.ptr 3 0 0])),(.T 4,.t (.val false [.ptr 4 0 0])),(.T 5,.t (.val false [.ptr 5 0 0])),(.T 6,.t (.val false [.bool (valO (g_Ls_l1Write_0 y2 y3 y4 y5 y6 (y0,y1,y7))).1])),(.B 3,.b 0 false [.str y3,.bool y4,.sl .any 3 (.int .i64) y5]),(.B 4,.b 0 false [.row 4 1 0]),(.R 4 1,.r 0 (some ⟨false,.any,true,49,(.pair .str (.sl 3 (.int .i64))),y6⟩)),(.B 5,.b 0 false [.row 5 1 0]),(.R 5 1,.r 0 (some ⟨false,.any,false,49,(.pair .str (.sl 3 (.int .i64))),(valO (g_Ls_l1Write_0 y2 y3 y4 y5 y6 (y0,y1,y7))).2⟩))]))
 | b,h => Os_l1Write_0 b h
theorem bs_l1Write_0 (y0:Bool) (y1:Int) (y2:List (ByteArray×(List Int))) (y3:ByteArray) (y4:Bool) (y5:List Int) (y6:List (ByteArray×(List Int))) (y7:List (ByteArray×(List Int))):Tr.bt Es_l1Write Os_l1Write_0 (exec Es_l1Write 0 cs_l1Write_0 (St.of (hs_l1Write_0 y0 y1 y2 y3 y4 y5 y6 y7)) (leafRd Es_l1Write 0)) = (g_Ss_l1Write_0 y2 y3 y4 y5 y6 (y0,y1,y7)).bt (fun ((y0,y1,y7):Bool×Int×(List (ByteArray×(List Int)))) => (hs_l1Write_0 y0 y1 y2 y3 y4 y5 y6 y7)) (xs_l1Write_0 y2 y3 y4 y5 y6) := by kernel_rfl
theorem ks_l1Write_1:OrcOk Es_l1Write Os_l1Write_1 lss_l1Write 1 := orc_add ks_l1Write_0 (fun n p hp h ex h' ho => by
 obtain ⟨b,c⟩ := p
 obtain ⟨xt,h1,h2⟩ := ho
 have h1:Os_l1Write_1 b h = some (true,xt) := h1
 unfold Os_l1Write_1 at h1
 split at h1
 ·injection h1 with h1
  injection h1 with e1 e2
  subst e2
  have hc:c = cs_l1Write_0 := ms_l1Write_0 _ hp rfl
  subst hc
  right
  rename_i y0 y1 y2 y3 y4 y5 y6 y7
  have key := LT_step ks_l1Write_0 hp (fun q hq => loopsAll_in _ _ _ _ hp hq) (fun ((y0,y1,y7):Bool×Int×(List (ByteArray×(List Int)))) => (hs_l1Write_0 y0 y1 y2 y3 y4 y5 y6 y7)) (xs_l1Write_0 y2 y3 y4 y5 y6) (g_Ss_l1Write_0 y2 y3 y4 y5 y6) (fun x => by first | exact bs_l1Write_0 x.1 x.2.1 y2 y3 y4 y5 y6 x.2.2) n (x := (y0,y1,y7)) (okO_some e1)
  have hx:∀ r,XT.sel (.leaf (.exit 0) [(.T 3,.t (.val false [.ptr 3 0 0])),(.T 4,.t (.val false [.ptr 4 0 0])),(.T 5,.t (.val false [.ptr 5 0 0])),(.T 6,.t (.val false [.bool r.1])),(.B 3,.b 0 false [.str y3,.bool y4,.sl .any 3 (.int .i64) y5]),(.B 4,.b 0 false [.row 4 1 0]),(.R 4 1,.r 0 (some ⟨false,.any,true,49,(.pair .str (.sl 3 (.int .i64))),y6⟩)),(.B 5,.b 0 false [.row 5 1 0]),(.R 5 1,.r 0 (some ⟨false,.any,false,49,(.pair .str (.sl 3 (.int .i64))),r.2⟩))]) = xs_l1Write_0 y2 y3 y4 y5 y6 r := fun r => by first | rfl | (rcases r with r | r <;> rfl) | (rcases r with r | r | r <;> rfl) | (rcases r with r | r | r | r <;> rfl)
  have h3 := (hx (valO (g_Ls_l1Write_0 y2 y3 y4 y5 y6 (y0,y1,y7)))).symm.trans h2
  have e3 := congrArg Prod.fst h3
  have e4 := congrArg Prod.snd h3
  simp only at e3 e4
  rw [← e3,← e4]
  exact key
 ·exact .inl ⟨xt,h1,h2⟩)
noncomputable def g_As_l1Write (a0:List (ByteArray×(List Int))) (a1:ByteArray) (a2:Bool) (a3:List Int):Bool := okO (g_Ls_l1Write_0 a0 a1 a2 a3 [] (a2,(0:Int),[]))&&(!!(valO (g_Ls_l1Write_0 a0 a1 a2 a3 [] (a2,(0:Int),[]))).1 || decide ((nat_lit 0 + List.length a3) * nat_lit 8 ≤ nat_lit 140737488355328 ∧ nat_lit 0 + List.length a3 ≤ nat_lit 9223372036854775807)&&decide ((List.length (valO (g_Ls_l1Write_0 a0 a1 a2 a3 [] (a2,(0:Int),[]))).2 + List.length [(a1,[] ++ a3)]) * nat_lit 40 ≤ nat_lit 140737488355328 ∧ List.length (valO (g_Ls_l1Write_0 a0 a1 a2 a3 [] (a2,(0:Int),[]))).2 + List.length [(a1,[] ++ a3)] ≤ nat_lit 9223372036854775807))
noncomputable def g_Vs_l1Write_0 (a0:List (ByteArray×(List Int))) (a1:ByteArray) (a2:Bool) (a3:List Int):List (ByteArray×(List Int)) := bif !(valO (g_Ls_l1Write_0 a0 a1 a2 a3 [] (a2,(0:Int),[]))).1 then (valO (g_Ls_l1Write_0 a0 a1 a2 a3 [] (a2,(0:Int),[]))).2 ++ [(a1,[] ++ a3)] else (valO (g_Ls_l1Write_0 a0 a1 a2 a3 [] (a2,(0:Int),[]))).2
noncomputable def Fs_l1Write:FSem := fun ys => match ys with
 | [.val true [.sl .any 49 (.pair .str (.sl 3 (.int .i64))) a0],.val true [.str a1,.bool a2,.sl .any 3 (.int .i64) a3]] => some ((g_As_l1Write a0 a1 a2 a3),.val true [.own .any false 49 (.pair .str (.sl 3 (.int .i64))) (g_Vs_l1Write_0 a0 a1 a2 a3)],[])
 | _ => none
theorem vs_l1Write (a0:List (ByteArray×(List Int))) (a1:ByteArray) (a2:Bool) (a3:List Int):collapseH .std Es_l1Write Os_l1Write_1 (execFn Es_l1Write Tryz.f114 mss_l1Write [.val true [.sl .any 49 (.pair .str (.sl 3 (.int .i64))) a0],.val true [.str a1,.bool a2,.sl .any 3 (.int .i64) a3]]) = some ((g_As_l1Write a0 a1 a2 a3),.val true [.own .any false 49 (.pair .str (.sl 3 (.int .i64))) (g_Vs_l1Write_0 a0 a1 a2 a3)],[]) := by kernel_rfl
theorem ss_l1Write:Sound Tryz.prog 114 mss_l1Write Fs_l1Write := by
 refine fn_gen goods_l1Write (by kernel_rfl) .std (fn := Tryz.f114) (c := (Tryz.f114.body.getD .skip)) (o := Os_l1Write_1) (k := 1) (by kernel_rfl) (by kernel_rfl) (by kernel_rfl) (by kernel_rfl) (by decide) ks_l1Write_1 ?_
 intro ys r outs h
 unfold Fs_l1Write at h
 split at h
 ·exact (vs_l1Write _ _ _ _).trans h
 ·cases h
noncomputable def Es_StoDo:Env where
 tt := mkTI Tryz.prog
 fn := fun f => match f with
  | 102 => some (mss_StoOk,FSem.wk mss_StoOk Fs_StoOk)
  | 112 => some (mss_l1Copy,FSem.wk mss_l1Copy Fs_l1Copy)
  | 113 => some (mss_WrtOk,FSem.wk mss_WrtOk Fs_WrtOk)
  | 114 => some (mss_l1Write,FSem.wk mss_l1Write Fs_l1Write)
  | _ => none
 bxf := fun _ => none
 mv := []
 keep := fun b => match b with
  | 0 => [(1,false),(4,false),(5,true),(6,false)]
  | _ => []
 keepB := fun b => match b with
  | 0 => [(4,false),(5,true)]
  | _ => []
 keepX := fun b => match b with
  | 0 => [(4,false),(5,true)]
  | _ => []
 keepXB := fun b => match b with
  | 0 => [(4,false),(5,true)]
  | _ => []
theorem goodFs_StoDo:∀ f ms F,Es_StoDo.fn f = some (ms,F) → Sound Tryz.prog f ms F := fun f ms F h => by
 unfold Es_StoDo at h
 dsimp only at h
 split at h
 ·injection h with h; injection h with e1 e2; subst e1 e2; exact Sound.wk ss_StoOk
 ·injection h with h; injection h with e1 e2; subst e1 e2; exact Sound.wk ss_l1Copy
 ·injection h with h; injection h with e1 e2; subst e1 e2; exact Sound.wk ss_WrtOk
 ·injection h with h; injection h with e1 e2; subst e1 e2; exact Sound.wk ss_l1Write
 ·cases h
theorem goodBs_StoDo:∀ f ms F,Es_StoDo.bxf f = some (ms,F) → SoundB Tryz.prog f ms F := fun f ms F h => by cases h
theorem goods_StoDo:Good Tryz.prog Es_StoDo := ⟨rfl,goodFs_StoDo,goodBs_StoDo⟩
noncomputable def Os_StoDo_0:Orc := fun _ _ => none
noncomputable def mss_StoDo:List PM := [.rd,.rd]
noncomputable def lss_StoDo:List (Nat×Code) := loopsAll 0 (Tryz.f67.body.getD .skip)
noncomputable def cs_StoDo_0:Code := (loopOf 0 (Tryz.f67.body.getD .skip)).getD .skip
theorem lseqs_StoDo:lss_StoDo = [(0,cs_StoDo_0)] := by kernel_rfl
theorem ms_StoDo_0:∀ p,p ∈ lss_StoDo → p.1 = 0 → p.2 = cs_StoDo_0 := by
 intro p hp
 rw [lseqs_StoDo] at hp
 simp only [List.mem_cons,List.not_mem_nil,or_false] at hp
 subst hp; simp
theorem ks_StoDo_0:OrcOk Es_StoDo Os_StoDo_0 lss_StoDo 0 := orcOk_none
noncomputable def hs_StoDo_0 (y0:List (ByteArray×(Bool×(List Int)))) (y1:Int) (y2:List (ByteArray×(List Int))) (y3:List (ByteArray×(List Int))):List (Pl×LV) := [(.T 1,.t (.val false [.sl .any 39 (.pair .str (.pair .bool (.sl 3 (.int .i64)))) y0])),(.T 4,.t (.val false [.ptr 4 0 0])),(.T 5,.t (.val false [.ptr 5 0 0])),(.T 6,.t (.val false [.int .i64 y1])),(.B 4,.b 0 false [.row 4 1 0]),(.R 4 1,.r 0 (some ⟨false,.any,true,49,(.pair .str (.sl 3 (.int .i64))),y2⟩)),(.B 5,.b 0 false [.row 5 1 0]),(.R 5 1,.r 0 (some ⟨false,.any,false,49,(.pair .str (.sl 3 (.int .i64))),y3⟩))]
noncomputable def g_Ss_StoDo_0 (y0:List (ByteArray×(Bool×(List Int)))) (y2:List (ByteArray×(List Int))):(Int×(List (ByteArray×(List Int)))) → RT (Int×(List (ByteArray×(List Int)))) (((List (ByteArray×(List Int)))×(List (ByteArray×(List Int)))) ⊕ ((List (ByteArray×(List Int)))))
 | (y1,y3) => .br (true) (.br (decide (y1 < (↑(List.length y0):Int))) (.br (decide ((0:Int) ≤ y1 ∧ y1 < (↑(List.length y0):Int))) (.br (g_As_WrtOk (at_ (Ty.pair Ty.str (Ty.pair Ty.bool (Ty.sl (nat_lit 3) (Ty.int IntKind.i64)))) y0 (Int.toNat y1)).1 (at_ (Ty.pair Ty.str (Ty.pair Ty.bool (Ty.sl (nat_lit 3) (Ty.int IntKind.i64)))) y0 (Int.toNat y1)).2.1 (at_ (Ty.pair Ty.str (Ty.pair Ty.bool (Ty.sl (nat_lit 3) (Ty.int IntKind.i64)))) y0 (Int.toNat y1)).2.2) (.br (!g_Vs_WrtOk_0 (at_ (Ty.pair Ty.str (Ty.pair Ty.bool (Ty.sl (nat_lit 3) (Ty.int IntKind.i64)))) y0 (Int.toNat y1)).1 (at_ (Ty.pair Ty.str (Ty.pair Ty.bool (Ty.sl (nat_lit 3) (Ty.int IntKind.i64)))) y0 (Int.toNat y1)).2.1 (at_ (Ty.pair Ty.str (Ty.pair Ty.bool (Ty.sl (nat_lit 3) (Ty.int IntKind.i64)))) y0 (Int.toNat y1)).2.2) (.out (.inl (([],y3)))) (.br (decide ((0:Int) ≤ y1 ∧ y1 < (↑(List.length y0):Int))) (.br (g_As_l1Write y3 (at_ (Ty.pair Ty.str (Ty.pair Ty.bool (Ty.sl (nat_lit 3) (Ty.int IntKind.i64)))) y0 (Int.toNat y1)).1 (at_ (Ty.pair Ty.str (Ty.pair Ty.bool (Ty.sl (nat_lit 3) (Ty.int IntKind.i64)))) y0 (Int.toNat y1)).2.1 (at_ (Ty.pair Ty.str (Ty.pair Ty.bool (Ty.sl (nat_lit 3) (Ty.int IntKind.i64)))) y0 (Int.toNat y1)).2.2) (.br (true) (.br (decide ((↑(List.length (g_Vs_l1Write_0 y3 (at_ (Ty.pair Ty.str (Ty.pair Ty.bool (Ty.sl (nat_lit 3) (Ty.int IntKind.i64)))) y0 (Int.toNat y1)).1 (at_ (Ty.pair Ty.str (Ty.pair Ty.bool (Ty.sl (nat_lit 3) (Ty.int IntKind.i64)))) y0 (Int.toNat y1)).2.1 (at_ (Ty.pair Ty.str (Ty.pair Ty.bool (Ty.sl (nat_lit 3) (Ty.int IntKind.i64)))) y0 (Int.toNat y1)).2.2)):Int) > (40:Int))) (.out (.inl (([],g_Vs_l1Write_0 y3 (at_ (Ty.pair Ty.str (Ty.pair Ty.bool (Ty.sl (nat_lit 3) (Ty.int IntKind.i64)))) y0 (Int.toNat y1)).1 (at_ (Ty.pair Ty.str (Ty.pair Ty.bool (Ty.sl (nat_lit 3) (Ty.int IntKind.i64)))) y0 (Int.toNat y1)).2.1 (at_ (Ty.pair Ty.str (Ty.pair Ty.bool (Ty.sl (nat_lit 3) (Ty.int IntKind.i64)))) y0 (Int.toNat y1)).2.2)))) (.br (true) (.go ((IntKind.wrap IntKind.i64 (y1 + (1:Int)),g_Vs_l1Write_0 y3 (at_ (Ty.pair Ty.str (Ty.pair Ty.bool (Ty.sl (nat_lit 3) (Ty.int IntKind.i64)))) y0 (Int.toNat y1)).1 (at_ (Ty.pair Ty.str (Ty.pair Ty.bool (Ty.sl (nat_lit 3) (Ty.int IntKind.i64)))) y0 (Int.toNat y1)).2.1 (at_ (Ty.pair Ty.str (Ty.pair Ty.bool (Ty.sl (nat_lit 3) (Ty.int IntKind.i64)))) y0 (Int.toNat y1)).2.2))) .bad)) .bad) .bad) .bad)) .bad) .bad) (.out (.inr (y3)))) .bad
noncomputable def g_Ls_StoDo_0 (y0:List (ByteArray×(Bool×(List Int)))) (y2:List (ByteArray×(List Int))) (x:Int×(List (ByteArray×(List Int)))):Option (((List (ByteArray×(List Int)))×(List (ByteArray×(List Int)))) ⊕ ((List (ByteArray×(List Int))))) := loopO (g_Ss_StoDo_0 y0 y2) x
noncomputable def xs_StoDo_0 (y0:List (ByteArray×(Bool×(List Int)))) (y2:List (ByteArray×(List Int))):(((List (ByteArray×(List Int)))×(List (ByteArray×(List Int)))) ⊕ ((List (ByteArray×(List Int))))) → Ex×List (Pl×LV) := fun
 | .inl r => (.ret,[(.T 4,.t (.val false [.ptr 4 0 0])),(.T 5,.t (.val false [.ptr 5 0 0])),(.B 4,.b 0 false [.row 4 1 0]),(.R 4 1,.r 0 (some ⟨false,.any,true,49,(.pair .str (.sl 3 (.int .i64))),r.1⟩)),(.B 5,.b 0 false [.row 5 1 0]),(.R 5 1,.r 0 (some ⟨false,.any,false,49,(.pair .str (.sl 3 (.int .i64))),r.2⟩))])
 | .inr (r) => (.exit 0,[(.T 4,.t (.val false [.ptr 4 0 0])),(.T 5,.t (.val false [.ptr 5 0 0])),(.B 4,.b 0 false [.row 4 1 0]),(.R 4 1,.r 0 (some ⟨false,.any,true,49,(.pair .str (.sl 3 (.int .i64))),y2⟩)),(.B 5,.b 0 false [.row 5 1 0]),(.R 5 1,.r 0 (some ⟨false,.any,false,49,(.pair .str (.sl 3 (.int .i64))),r⟩))])
noncomputable def Os_StoDo_1:Orc := fun b h => match b,h with
 | 0,[(.T 1,.t (.val false [.sl .any 39 (.pair .str (.pair .bool (.sl 3 (.int .i64)))) y0])),(.T 4,.t (.val false [.ptr 4 0 0])),(.T 5,.t (.val false [.ptr 5 0 0])),(.T 6,.t (.val false [.int .i64 y1])),(.B 4,.b 0 false [.row 4 1 0]),(.R 4 1,.r 0 (some ⟨false,.any,true,49,(.pair .str (.sl 3 (.int .i64))),y2⟩)),(.B 5,.b 0 false [.row 5 1 0]),(.R 5 1,.r 0 (some ⟨false,.any,false,49,(.pair .str (.sl 3 (.int .i64))),y3⟩))] => some (okO (g_Ls_StoDo_0 y0 y2 (y1,y3)),(.br (isL (valO (g_Ls_StoDo_0 y0 y2 (y1,y3)))) (.leaf .ret [(.T 4,.t (.val false [.ptr 4 0 0])),(.T 5,.t (.val false [.ptr 5 0 0])),(.B 4,.b 0 false [.row 4 1 0]),(.R 4 1,.r 0 (some ⟨false,.any,true,49,(.pair .str (.sl 3 (.int .i64))),(getL (valO (g_Ls_StoDo_0 y0 y2 (y1,y3)))).1⟩)),(.B 5,.b 0 false [.row 5 1 0]),(.R 5 1,.r 0 (some ⟨false,.any,false,49,(.pair .str (.sl 3 (.int .i64))),(getL (valO (g_Ls_StoDo_0 y0 y2 (y1,y3)))).2⟩))]) (.leaf (.exit 0) [(.T 4,.t (.val false [.ptr 4 0 0])),(.T 5,.t (.val false [.ptr 5 0 0])),(.B 4,.b 0 false [.row 4 1 0]),(.R 4 1,.r 0 (some ⟨false,.any,true,49,(.pair .str (.sl 3 (.int .i64))),y2⟩)),(.B 5,.b 0 false [.row 5 1 0]),(.R 5 1,.r 0 (some ⟨false,.any,false,49,(.pair .str (.sl 3 (.int .i64))),(getR (valO (g_Ls_StoDo_0 y0 y2 (y1,y3))))⟩))])))
 | b,h => Os_StoDo_0 b h
theorem bs_StoDo_0 (y0:List (ByteArray×(Bool×(List Int)))) (y1:Int) (y2:List (ByteArray×(List Int))) (y3:List (ByteArray×(List Int))):Tr.bt Es_StoDo Os_StoDo_0 (exec Es_StoDo 0 cs_StoDo_0 (St.of (hs_StoDo_0 y0 y1 y2 y3)) (leafRd Es_StoDo 0)) = (g_Ss_StoDo_0 y0 y2 (y1,y3)).bt (fun ((y1,y3):Int×(List (ByteArray×(List Int)))) => (hs_StoDo_0 y0 y1 y2 y3)) (xs_StoDo_0 y0 y2) := by kernel_rfl
theorem ks_StoDo_1:OrcOk Es_StoDo Os_StoDo_1 lss_StoDo 1 := orc_add ks_StoDo_0 (fun n p hp h ex h' ho => by
 obtain ⟨b,c⟩ := p
 obtain ⟨xt,h1,h2⟩ := ho
 have h1:Os_StoDo_1 b h = some (true,xt) := h1
 unfold Os_StoDo_1 at h1
 split at h1
 ·injection h1 with h1
  injection h1 with e1 e2
  subst e2
  have hc:c = cs_StoDo_0 := ms_StoDo_0 _ hp rfl
  subst hc
  right
  rename_i y0 y1 y2 y3
  have key := LT_step ks_StoDo_0 hp (fun q hq => loopsAll_in _ _ _ _ hp hq) (fun ((y1,y3):Int×(List (ByteArray×(List Int)))) => (hs_StoDo_0 y0 y1 y2 y3)) (xs_StoDo_0 y0 y2) (g_Ss_StoDo_0 y0 y2) (fun x => by first | exact bs_StoDo_0 y0 x.1 y2 x.2) n (x := (y1,y3)) (okO_some e1)
  have hx:∀ r,XT.sel (.br (isL r) (.leaf .ret [(.T 4,.t (.val false [.ptr 4 0 0])),(.T 5,.t (.val false [.ptr 5 0 0])),(.B 4,.b 0 false [.row 4 1 0]),(.R 4 1,.r 0 (some ⟨false,.any,true,49,(.pair .str (.sl 3 (.int .i64))),(getL r).1⟩)),(.B 5,.b 0 false [.row 5 1 0]),(.R 5 1,.r 0 (some ⟨false,.any,false,49,(.pair .str (.sl 3 (.int .i64))),(getL r).2⟩))]) (.leaf (.exit 0) [(.T 4,.t (.val false [.ptr 4 0 0])),(.T 5,.t (.val false [.ptr 5 0 0])),(.B 4,.b 0 false [.row 4 1 0]),(.R 4 1,.r 0 (some ⟨false,.any,true,49,(.pair .str (.sl 3 (.int .i64))),y2⟩)),(.B 5,.b 0 false [.row 5 1 0]),(.R 5 1,.r 0 (some ⟨false,.any,false,49,(.pair .str (.sl 3 (.int .i64))),(getR r)⟩))])) = xs_StoDo_0 y0 y2 r := fun r => by first | rfl | (rcases r with r | r <;> rfl) | (rcases r with r | r | r <;> rfl) | (rcases r with r | r | r | r <;> rfl)
  have h3 := (hx (valO (g_Ls_StoDo_0 y0 y2 (y1,y3)))).symm.trans h2
  have e3 := congrArg Prod.fst h3
  have e4 := congrArg Prod.snd h3
  simp only at e3 e4
  rw [← e3,← e4]
  exact key
 ·exact .inl ⟨xt,h1,h2⟩)
noncomputable def g_As_StoDo (a0:List (ByteArray×(List Int))) (a1:List (ByteArray×(Bool×(List Int)))):Bool := g_As_StoOk a0&&(!g_Vs_StoOk_0 a0 || g_As_l1Copy a0&&(okO (g_Ls_StoDo_0 a1 [] ((0:Int),g_Vs_l1Copy_0 a0))&&(isL (valO (g_Ls_StoDo_0 a1 [] ((0:Int),g_Vs_l1Copy_0 a0))) || g_As_l1Copy (getR (valO (g_Ls_StoDo_0 a1 [] ((0:Int),g_Vs_l1Copy_0 a0)))))))
noncomputable def g_Vs_StoDo_0 (a0:List (ByteArray×(List Int))) (a1:List (ByteArray×(Bool×(List Int)))):List (ByteArray×(List Int)) := bif !g_Vs_StoOk_0 a0 then [] else bif isL (valO (g_Ls_StoDo_0 a1 [] ((0:Int),g_Vs_l1Copy_0 a0))) then (getL (valO (g_Ls_StoDo_0 a1 [] ((0:Int),g_Vs_l1Copy_0 a0)))).1 else g_Vs_l1Copy_0 (getR (valO (g_Ls_StoDo_0 a1 [] ((0:Int),g_Vs_l1Copy_0 a0))))
noncomputable def Fs_StoDo:FSem := fun ys => match ys with
 | [.val true [.sl .any 49 (.pair .str (.sl 3 (.int .i64))) a0],.val false [.sl .any 39 (.pair .str (.pair .bool (.sl 3 (.int .i64)))) a1]] => some ((g_As_StoDo a0 a1),.val true [.own .any true 49 (.pair .str (.sl 3 (.int .i64))) (g_Vs_StoDo_0 a0 a1)],[])
 | _ => none
theorem vs_StoDo (a0:List (ByteArray×(List Int))) (a1:List (ByteArray×(Bool×(List Int)))):collapseH .std Es_StoDo Os_StoDo_1 (execFn Es_StoDo Tryz.f67 mss_StoDo [.val true [.sl .any 49 (.pair .str (.sl 3 (.int .i64))) a0],.val false [.sl .any 39 (.pair .str (.pair .bool (.sl 3 (.int .i64)))) a1]]) = some ((g_As_StoDo a0 a1),.val true [.own .any true 49 (.pair .str (.sl 3 (.int .i64))) (g_Vs_StoDo_0 a0 a1)],[]) := by kernel_rfl
theorem ss_StoDo:Sound Tryz.prog 67 mss_StoDo Fs_StoDo := by
 refine fn_gen goods_StoDo (by kernel_rfl) .std (fn := Tryz.f67) (c := (Tryz.f67.body.getD .skip)) (o := Os_StoDo_1) (k := 1) (by kernel_rfl) (by kernel_rfl) (by kernel_rfl) (by kernel_rfl) (by decide) ks_StoDo_1 ?_
 intro ys r outs h
 unfold Fs_StoDo at h
 split at h
 ·exact (vs_StoDo _ _).trans h
 ·cases h
noncomputable def Es_l2Ready:Env where
 tt := mkTI Tryz.prog
 fn := fun _ => none
 bxf := fun _ => none
 mv := []
 keep := fun b => match b with
  | 0 => [(0,false),(1,false),(4,false),(6,false)]
  | _ => []
 keepB := fun b => match b with
  | 0 => [(4,false)]
  | _ => []
 keepX := fun b => match b with
  | 0 => [(4,false),(5,false)]
  | _ => []
 keepXB := fun b => match b with
  | 0 => [(4,false)]
  | _ => []
theorem goodFs_l2Ready:∀ f ms F,Es_l2Ready.fn f = some (ms,F) → Sound Tryz.prog f ms F := fun f ms F h => by cases h
theorem goodBs_l2Ready:∀ f ms F,Es_l2Ready.bxf f = some (ms,F) → SoundB Tryz.prog f ms F := fun f ms F h => by cases h
theorem goods_l2Ready:Good Tryz.prog Es_l2Ready := ⟨rfl,goodFs_l2Ready,goodBs_l2Ready⟩
noncomputable def Os_l2Ready_0:Orc := fun _ _ => none
noncomputable def mss_l2Ready:List PM := [.fz,.own]
noncomputable def lss_l2Ready:List (Nat×Code) := loopsAll 0 (Tryz.f66.body.getD .skip)
noncomputable def cs_l2Ready_0:Code := (loopOf 0 (Tryz.f66.body.getD .skip)).getD .skip
theorem lseqs_l2Ready:lss_l2Ready = [(0,cs_l2Ready_0)] := by kernel_rfl
theorem ms_l2Ready_0:∀ p,p ∈ lss_l2Ready → p.1 = 0 → p.2 = cs_l2Ready_0 := by
 intro p hp
 rw [lseqs_l2Ready] at hp
 simp only [List.mem_cons,List.not_mem_nil,or_false] at hp
 subst hp; simp
theorem ks_l2Ready_0:OrcOk Es_l2Ready Os_l2Ready_0 lss_l2Ready 0 := orcOk_none
noncomputable def hs_l2Ready_0 (y0:List (Int×(Int×((List ByteArray)×(List (ByteArray×(Bool×(List Int)))))))) (y1:Int) (y2:Int) (y3:Int) (y4:Int) (y5:List ByteArray) (y6:List (ByteArray×(Bool×(List Int)))):List (Pl×LV) := [(.T 0,.t (.val false [.sl .any 72 (.pair (.int .i64) (.pair (.int .i64) (.pair (.sl 9 .str) (.sl 39 (.pair .str (.pair .bool (.sl 3 (.int .i64)))))))) y0])),(.T 1,.t (.val false [.int .i64 y1])),(.T 4,.t (.val false [.ptr 4 0 0])),(.T 6,.t (.val false [.int .i64 y2])),(.B 4,.b 0 false [.int .i64 y3,.int .i64 y4,.row 4 5 0,.row 4 7 0]),(.R 4 5,.r 0 (some ⟨false,.any,true,9,.str,y5⟩)),(.R 4 7,.r 0 (some ⟨false,.any,true,39,(.pair .str (.pair .bool (.sl 3 (.int .i64)))),y6⟩))]
noncomputable def g_Ss_l2Ready_0 (y0:List (Int×(Int×((List ByteArray)×(List (ByteArray×(Bool×(List Int)))))))) (y1:Int) (y3:Int) (y4:Int) (y5:List ByteArray) (y6:List (ByteArray×(Bool×(List Int)))):(Int) → RT (Int) ((Bool×Int×Int×(List ByteArray)×(List (ByteArray×(Bool×(List Int))))) ⊕ (Unit))
 | y2 => .br (true) (.br (decide (y2 ≥ (0:Int))) (.br (decide ((0:Int) ≤ y2 ∧ y2 < (↑(List.length y0):Int))) (.br (true) (.br ((at_ (Ty.pair (Ty.int IntKind.i64) (Ty.pair (Ty.int IntKind.i64) (Ty.pair (Ty.sl (nat_lit 9) Ty.str) (Ty.sl (nat_lit 39) (Ty.pair Ty.str (Ty.pair Ty.bool (Ty.sl (nat_lit 3) (Ty.int IntKind.i64)))))))) y0 (Int.toNat y2)).1 == (1:Int)) (.br (decide ((0:Int) ≤ y2 ∧ y2 < (↑(List.length y0):Int))) (.br (true) (.br ((at_ (Ty.pair (Ty.int IntKind.i64) (Ty.pair (Ty.int IntKind.i64) (Ty.pair (Ty.sl (nat_lit 9) Ty.str) (Ty.sl (nat_lit 39) (Ty.pair Ty.str (Ty.pair Ty.bool (Ty.sl (nat_lit 3) (Ty.int IntKind.i64)))))))) y0 (Int.toNat y2)).2.1 == y1) (.br (decide ((0:Int) ≤ y2 ∧ y2 < (↑(List.length y0):Int))) (.out (.inl ((true,(at_ (Ty.pair (Ty.int IntKind.i64) (Ty.pair (Ty.int IntKind.i64) (Ty.pair (Ty.sl (nat_lit 9) Ty.str) (Ty.sl (nat_lit 39) (Ty.pair Ty.str (Ty.pair Ty.bool (Ty.sl (nat_lit 3) (Ty.int IntKind.i64)))))))) y0 (Int.toNat y2)).1,(at_ (Ty.pair (Ty.int IntKind.i64) (Ty.pair (Ty.int IntKind.i64) (Ty.pair (Ty.sl (nat_lit 9) Ty.str) (Ty.sl (nat_lit 39) (Ty.pair Ty.str (Ty.pair Ty.bool (Ty.sl (nat_lit 3) (Ty.int IntKind.i64)))))))) y0 (Int.toNat y2)).2.1,(at_ (Ty.pair (Ty.int IntKind.i64) (Ty.pair (Ty.int IntKind.i64) (Ty.pair (Ty.sl (nat_lit 9) Ty.str) (Ty.sl (nat_lit 39) (Ty.pair Ty.str (Ty.pair Ty.bool (Ty.sl (nat_lit 3) (Ty.int IntKind.i64)))))))) y0 (Int.toNat y2)).2.2.1,(at_ (Ty.pair (Ty.int IntKind.i64) (Ty.pair (Ty.int IntKind.i64) (Ty.pair (Ty.sl (nat_lit 9) Ty.str) (Ty.sl (nat_lit 39) (Ty.pair Ty.str (Ty.pair Ty.bool (Ty.sl (nat_lit 3) (Ty.int IntKind.i64)))))))) y0 (Int.toNat y2)).2.2.2)))) .bad) (.br (true) (.go (IntKind.wrap IntKind.i64 (y2 - (1:Int)))) .bad)) .bad) .bad) (.br (true) (.go (IntKind.wrap IntKind.i64 (y2 - (1:Int)))) .bad)) .bad) .bad) (.out (.inr (())))) .bad
noncomputable def g_Ls_l2Ready_0 (y0:List (Int×(Int×((List ByteArray)×(List (ByteArray×(Bool×(List Int)))))))) (y1:Int) (y3:Int) (y4:Int) (y5:List ByteArray) (y6:List (ByteArray×(Bool×(List Int)))) (x:Int):Option ((Bool×Int×Int×(List ByteArray)×(List (ByteArray×(Bool×(List Int))))) ⊕ (Unit)) := loopO (g_Ss_l2Ready_0 y0 y1 y3 y4 y5 y6) x
noncomputable def xs_l2Ready_0 (y0:List (Int×(Int×((List ByteArray)×(List (ByteArray×(Bool×(List Int)))))))) (y1:Int) (y3:Int) (y4:Int) (y5:List ByteArray) (y6:List (ByteArray×(Bool×(List Int)))):((Bool×Int×Int×(List ByteArray)×(List (ByteArray×(Bool×(List Int))))) ⊕ (Unit)) → Ex×List (Pl×LV) := fun
 | .inl r => (.ret,[(.T 4,.t (.val false [.ptr 4 0 0])),(.T 5,.t (.val false [.bool r.1])),(.B 4,.b 0 false [.int .i64 r.2.1,.int .i64 r.2.2.1,.sl .any 9 .str r.2.2.2.1,.sl .any 39 (.pair .str (.pair .bool (.sl 3 (.int .i64)))) r.2.2.2.2])])
 | .inr (r) => (.exit 0,[(.T 4,.t (.val false [.ptr 4 0 0])),(.T 5,.t (.val false [.undef])),(.B 4,.b 0 false [.int .i64 y3,.int .i64 y4,.row 4 5 0,.row 4 7 0]),(.R 4 5,.r 0 (some ⟨false,.any,true,9,.str,y5⟩)),(.R 4 7,.r 0 (some ⟨false,.any,true,39,(.pair .str (.pair .bool (.sl 3 (.int .i64)))),y6⟩))])
noncomputable def Os_l2Ready_1:Orc := fun b h => match b,h with
 | 0,[(.T 0,.t (.val false [.sl .any 72 (.pair (.int .i64) (.pair (.int .i64) (.pair (.sl 9 .str) (.sl 39 (.pair .str (.pair .bool (.sl 3 (.int .i64)))))))) y0])),(.T 1,.t (.val false [.int .i64 y1])),(.T 4,.t (.val false [.ptr 4 0 0])),(.T 6,.t (.val false [.int .i64 y2])),(.B 4,.b 0 false [.int .i64 y3,.int .i64 y4,.row 4 5 0,.row 4 7 0]),(.R 4 5,.r 0 (some ⟨false,.any,true,9,.str,y5⟩)),(.R 4 7,.r 0 (some ⟨false,.any,true,39,(.pair .str (.pair .bool (.sl 3 (.int .i64)))),y6⟩))] => some (okO (g_Ls_l2Ready_0 y0 y1 y3 y4 y5 y6 y2),(.br (isL (valO (g_Ls_l2Ready_0 y0 y1 y3 y4 y5 y6 y2))) (.leaf .ret [(.T 4,.t (.val false [.ptr 4 0 0])),(.T 5,.t (.val false [.bool (getL (valO (g_Ls_l2Ready_0 y0 y1 y3 y4 y5 y6 y2))).1])),(.B 4,.b 0 false [.int .i64 (getL (valO (g_Ls_l2Ready_0 y0 y1 y3 y4 y5 y6 y2))).2.1,.int .i64 (getL (valO (g_Ls_l2Ready_0 y0 y1 y3 y4 y5 y6 y2))).2.2.1,.sl .any 9 .str (getL (valO (g_Ls_l2Ready_0 y0 y1 y3 y4 y5 y6 y2))).2.2.2.1,.sl .any 39 (.pair .str (.pair .bool (.sl 3 (.int .i64)))) (getL (valO (g_Ls_l2Ready_0 y0 y1 y3 y4 y5 y6 y2))).2.2.2.2])]) (.leaf (.exit 0) [(.T 4,.t (.val false [.ptr 4 0 0])),(.T 5,.t (.val false [.undef])),(.B 4,.b 0 false [.int .i64 y3,.int .i64 y4,.row 4 5 0,.row 4 7 0]),(.R 4 5,.r 0 (some ⟨false,.any,true,9,.str,y5⟩)),(.R 4 7,.r 0 (some ⟨false,.any,true,39,(.pair .str (.pair .bool (.sl 3 (.int .i64)))),y6⟩))])))
 | b,h => Os_l2Ready_0 b h
theorem bs_l2Ready_0 (y0:List (Int×(Int×((List ByteArray)×(List (ByteArray×(Bool×(List Int)))))))) (y1:Int) (y2:Int) (y3:Int) (y4:Int) (y5:List ByteArray) (y6:List (ByteArray×(Bool×(List Int)))):Tr.bt Es_l2Ready Os_l2Ready_0 (exec Es_l2Ready 0 cs_l2Ready_0 (St.of (hs_l2Ready_0 y0 y1 y2 y3 y4 y5 y6)) (leafRd Es_l2Ready 0)) = (g_Ss_l2Ready_0 y0 y1 y3 y4 y5 y6 y2).bt (fun (y2:Int) => (hs_l2Ready_0 y0 y1 y2 y3 y4 y5 y6)) (xs_l2Ready_0 y0 y1 y3 y4 y5 y6) := by kernel_rfl
theorem ks_l2Ready_1:OrcOk Es_l2Ready Os_l2Ready_1 lss_l2Ready 1 := orc_add ks_l2Ready_0 (fun n p hp h ex h' ho => by
 obtain ⟨b,c⟩ := p
 obtain ⟨xt,h1,h2⟩ := ho
 have h1:Os_l2Ready_1 b h = some (true,xt) := h1
 unfold Os_l2Ready_1 at h1
 split at h1
 ·injection h1 with h1
  injection h1 with e1 e2
  subst e2
  have hc:c = cs_l2Ready_0 := ms_l2Ready_0 _ hp rfl
  subst hc
  right
  rename_i y0 y1 y2 y3 y4 y5 y6
  have key := LT_step ks_l2Ready_0 hp (fun q hq => loopsAll_in _ _ _ _ hp hq) (fun (y2:Int) => (hs_l2Ready_0 y0 y1 y2 y3 y4 y5 y6)) (xs_l2Ready_0 y0 y1 y3 y4 y5 y6) (g_Ss_l2Ready_0 y0 y1 y3 y4 y5 y6) (fun x => by first | exact bs_l2Ready_0 y0 y1 x y3 y4 y5 y6) n (x := y2) (okO_some e1)
  have hx:∀ r,XT.sel (.br (isL r) (.leaf .ret [(.T 4,.t (.val false [.ptr 4 0 0])),(.T 5,.t (.val false [.bool (getL r).1])),(.B 4,.b 0 false [.int .i64 (getL r).2.1,.int .i64 (getL r).2.2.1,.sl .any 9 .str (getL r).2.2.2.1,.sl .any 39 (.pair .str (.pair .bool (.sl 3 (.int .i64)))) (getL r).2.2.2.2])]) (.leaf (.exit 0) [(.T 4,.t (.val false [.ptr 4 0 0])),(.T 5,.t (.val false [.undef])),(.B 4,.b 0 false [.int .i64 y3,.int .i64 y4,.row 4 5 0,.row 4 7 0]),(.R 4 5,.r 0 (some ⟨false,.any,true,9,.str,y5⟩)),(.R 4 7,.r 0 (some ⟨false,.any,true,39,(.pair .str (.pair .bool (.sl 3 (.int .i64)))),y6⟩))])) = xs_l2Ready_0 y0 y1 y3 y4 y5 y6 r := fun r => by first | rfl | (rcases r with r | r <;> rfl) | (rcases r with r | r | r <;> rfl) | (rcases r with r | r | r | r <;> rfl)
  have h3 := (hx (valO (g_Ls_l2Ready_0 y0 y1 y3 y4 y5 y6 y2))).symm.trans h2
  have e3 := congrArg Prod.fst h3
  have e4 := congrArg Prod.snd h3
  simp only at e3 e4
  rw [← e3,← e4]
  exact key
 ·exact .inl ⟨xt,h1,h2⟩)
noncomputable def g_As_l2Ready (a0:List (Int×(Int×((List ByteArray)×(List (ByteArray×(Bool×(List Int)))))))) (a1:Int):Bool := okO (g_Ls_l2Ready_0 a0 a1 (0:Int) (0:Int) [] [] (IntKind.wrap IntKind.i64 ((↑(List.length a0):Int) - (1:Int))))
noncomputable def g_Vs_l2Ready_0 (a0:List (Int×(Int×((List ByteArray)×(List (ByteArray×(Bool×(List Int)))))))) (a1:Int):Int := bif isL (valO (g_Ls_l2Ready_0 a0 a1 (0:Int) (0:Int) [] [] (IntKind.wrap IntKind.i64 ((↑(List.length a0):Int) - (1:Int))))) then (getL (valO (g_Ls_l2Ready_0 a0 a1 (0:Int) (0:Int) [] [] (IntKind.wrap IntKind.i64 ((↑(List.length a0):Int) - (1:Int)))))).2.1 else (0:Int)
noncomputable def g_Vs_l2Ready_1 (a0:List (Int×(Int×((List ByteArray)×(List (ByteArray×(Bool×(List Int)))))))) (a1:Int):Int := bif isL (valO (g_Ls_l2Ready_0 a0 a1 (0:Int) (0:Int) [] [] (IntKind.wrap IntKind.i64 ((↑(List.length a0):Int) - (1:Int))))) then (getL (valO (g_Ls_l2Ready_0 a0 a1 (0:Int) (0:Int) [] [] (IntKind.wrap IntKind.i64 ((↑(List.length a0):Int) - (1:Int)))))).2.2.1 else (0:Int)
noncomputable def g_Vs_l2Ready_2 (a0:List (Int×(Int×((List ByteArray)×(List (ByteArray×(Bool×(List Int)))))))) (a1:Int):List ByteArray := bif isL (valO (g_Ls_l2Ready_0 a0 a1 (0:Int) (0:Int) [] [] (IntKind.wrap IntKind.i64 ((↑(List.length a0):Int) - (1:Int))))) then (getL (valO (g_Ls_l2Ready_0 a0 a1 (0:Int) (0:Int) [] [] (IntKind.wrap IntKind.i64 ((↑(List.length a0):Int) - (1:Int)))))).2.2.2.1 else []
noncomputable def g_Vs_l2Ready_3 (a0:List (Int×(Int×((List ByteArray)×(List (ByteArray×(Bool×(List Int)))))))) (a1:Int):List (ByteArray×(Bool×(List Int))) := bif isL (valO (g_Ls_l2Ready_0 a0 a1 (0:Int) (0:Int) [] [] (IntKind.wrap IntKind.i64 ((↑(List.length a0):Int) - (1:Int))))) then (getL (valO (g_Ls_l2Ready_0 a0 a1 (0:Int) (0:Int) [] [] (IntKind.wrap IntKind.i64 ((↑(List.length a0):Int) - (1:Int)))))).2.2.2.2 else []
noncomputable def g_Vs_l2Ready_4 (a0:List (Int×(Int×((List ByteArray)×(List (ByteArray×(Bool×(List Int)))))))) (a1:Int):Bool := bif isL (valO (g_Ls_l2Ready_0 a0 a1 (0:Int) (0:Int) [] [] (IntKind.wrap IntKind.i64 ((↑(List.length a0):Int) - (1:Int))))) then (getL (valO (g_Ls_l2Ready_0 a0 a1 (0:Int) (0:Int) [] [] (IntKind.wrap IntKind.i64 ((↑(List.length a0):Int) - (1:Int)))))).1 else false
noncomputable def Fs_l2Ready:FSem := fun ys => match ys with
 | [.val false [.sl .any 72 (.pair (.int .i64) (.pair (.int .i64) (.pair (.sl 9 .str) (.sl 39 (.pair .str (.pair .bool (.sl 3 (.int .i64)))))))) a0],.val false [.int .i64 a1]] => some ((g_As_l2Ready a0 a1),.tup [(true,[.int .i64 (g_Vs_l2Ready_0 a0 a1),.int .i64 (g_Vs_l2Ready_1 a0 a1),.sl .any 9 .str (g_Vs_l2Ready_2 a0 a1),.sl .any 39 (.pair .str (.pair .bool (.sl 3 (.int .i64)))) (g_Vs_l2Ready_3 a0 a1)]),(false,[.bool (g_Vs_l2Ready_4 a0 a1)])],[])
 | _ => none
theorem vs_l2Ready (a0:List (Int×(Int×((List ByteArray)×(List (ByteArray×(Bool×(List Int)))))))) (a1:Int):collapseH .fr Es_l2Ready Os_l2Ready_1 (execFn Es_l2Ready Tryz.f66 mss_l2Ready [.val false [.sl .any 72 (.pair (.int .i64) (.pair (.int .i64) (.pair (.sl 9 .str) (.sl 39 (.pair .str (.pair .bool (.sl 3 (.int .i64)))))))) a0],.val false [.int .i64 a1]]) = some ((g_As_l2Ready a0 a1),.tup [(true,[.int .i64 (g_Vs_l2Ready_0 a0 a1),.int .i64 (g_Vs_l2Ready_1 a0 a1),.sl .any 9 .str (g_Vs_l2Ready_2 a0 a1),.sl .any 39 (.pair .str (.pair .bool (.sl 3 (.int .i64)))) (g_Vs_l2Ready_3 a0 a1)]),(false,[.bool (g_Vs_l2Ready_4 a0 a1)])],[]) := by kernel_rfl
theorem ss_l2Ready:Sound Tryz.prog 66 mss_l2Ready Fs_l2Ready := by
 refine fn_gen goods_l2Ready (by kernel_rfl) .fr (fn := Tryz.f66) (c := (Tryz.f66.body.getD .skip)) (o := Os_l2Ready_1) (k := 1) (by kernel_rfl) (by kernel_rfl) (by kernel_rfl) (by kernel_rfl) (by decide) ks_l2Ready_1 ?_
 intro ys r outs h
 unfold Fs_l2Ready at h
 split at h
 ·exact (vs_l2Ready _ _).trans h
 ·cases h
noncomputable def Es_DiskFold:Env where
 tt := mkTI Tryz.prog
 fn := fun f => match f with
  | 33 => some (mss_DiskOk,FSem.wk mss_DiskOk Fs_DiskOk)
  | 66 => some (mss_l2Ready,FSem.wk mss_l2Ready Fs_l2Ready)
  | 67 => some (mss_StoDo,FSem.wk mss_StoDo Fs_StoDo)
  | _ => none
 bxf := fun _ => none
 mv := []
 keep := fun b => match b with
  | 0 => [(1,false),(2,false),(3,false),(4,false)]
  | _ => []
 keepB := fun b => match b with
  | 0 => [(1,false),(2,false),(3,false)]
  | _ => []
 keepX := fun b => match b with
  | 0 => [(2,false),(3,false)]
  | _ => []
 keepXB := fun b => match b with
  | 0 => [(2,false),(3,false)]
  | _ => []
theorem goodFs_DiskFold:∀ f ms F,Es_DiskFold.fn f = some (ms,F) → Sound Tryz.prog f ms F := fun f ms F h => by
 unfold Es_DiskFold at h
 dsimp only at h
 split at h
 ·injection h with h; injection h with e1 e2; subst e1 e2; exact Sound.wk ss_DiskOk
 ·injection h with h; injection h with e1 e2; subst e1 e2; exact Sound.wk ss_l2Ready
 ·injection h with h; injection h with e1 e2; subst e1 e2; exact Sound.wk ss_StoDo
 ·cases h
theorem goodBs_DiskFold:∀ f ms F,Es_DiskFold.bxf f = some (ms,F) → SoundB Tryz.prog f ms F := fun f ms F h => by cases h
theorem goods_DiskFold:Good Tryz.prog Es_DiskFold := ⟨rfl,goodFs_DiskFold,goodBs_DiskFold⟩
noncomputable def Os_DiskFold_0:Orc := fun _ _ => none
noncomputable def mss_DiskFold:List PM := [.rd]
noncomputable def lss_DiskFold:List (Nat×Code) := loopsAll 0 (Tryz.f23.body.getD .skip)
noncomputable def cs_DiskFold_0:Code := (loopOf 0 (Tryz.f23.body.getD .skip)).getD .skip
theorem lseqs_DiskFold:lss_DiskFold = [(0,cs_DiskFold_0)] := by kernel_rfl
theorem ms_DiskFold_0:∀ p,p ∈ lss_DiskFold → p.1 = 0 → p.2 = cs_DiskFold_0 := by
 intro p hp
 rw [lseqs_DiskFold] at hp
 simp only [List.mem_cons,List.not_mem_nil,or_false] at hp
 subst hp; simp
theorem ks_DiskFold_0:OrcOk Es_DiskFold Os_DiskFold_0 lss_DiskFold 0 := orcOk_none
noncomputable def hs_DiskFold_0 (y0:Int) (y1:List (Int×(Int×((List ByteArray)×(List (ByteArray×(Bool×(List Int)))))))) (y2:Int) (y3:List (ByteArray×(List Int))) (y4:List (ByteArray×(List Int))):List (Pl×LV) := [(.T 1,.t (.val false [.ptr 1 0 0])),(.T 2,.t (.val false [.ptr 2 0 0])),(.T 3,.t (.val false [.ptr 3 0 0])),(.T 4,.t (.val false [.int .i64 y0])),(.B 1,.b 0 false [.sl .any 72 (.pair (.int .i64) (.pair (.int .i64) (.pair (.sl 9 .str) (.sl 39 (.pair .str (.pair .bool (.sl 3 (.int .i64)))))))) y1,.int .i64 y2]),(.B 2,.b 0 false [.row 2 1 0]),(.R 2 1,.r 0 (some ⟨false,.any,true,49,(.pair .str (.sl 3 (.int .i64))),y3⟩)),(.B 3,.b 0 false [.row 3 1 0]),(.R 3 1,.r 0 (some ⟨false,.any,true,49,(.pair .str (.sl 3 (.int .i64))),y4⟩))]
noncomputable def g_Ss_DiskFold_0 (y1:List (Int×(Int×((List ByteArray)×(List (ByteArray×(Bool×(List Int)))))))) (y2:Int) (y3:List (ByteArray×(List Int))):(Int×(List (ByteArray×(List Int)))) → RT (Int×(List (ByteArray×(List Int)))) (((List (ByteArray×(List Int)))))
 | (y0,y4) => .br (true) (.br (decide (y0 < (↑(List.length y1):Int))) (.br (decide ((0:Int) ≤ y0 ∧ y0 < (↑(List.length y1):Int))) (.br (true) (.br ((at_ (Ty.pair (Ty.int IntKind.i64) (Ty.pair (Ty.int IntKind.i64) (Ty.pair (Ty.sl (nat_lit 9) Ty.str) (Ty.sl (nat_lit 39) (Ty.pair Ty.str (Ty.pair Ty.bool (Ty.sl (nat_lit 3) (Ty.int IntKind.i64)))))))) y1 (Int.toNat y0)).1 != (2:Int)) (.br (true) (.go ((IntKind.wrap IntKind.i64 (y0 + (1:Int)),y4))) .bad) (.br (decide ((0:Int) ≤ y0 ∧ y0 ≤ (↑(List.length y1):Int))) (.br (decide ((0:Int) ≤ y0 ∧ y0 < (↑(List.length y1):Int))) (.br (g_As_l2Ready (List.drop (nat_lit 0) (List.take (Int.toNat y0) y1)) (at_ (Ty.pair (Ty.int IntKind.i64) (Ty.pair (Ty.int IntKind.i64) (Ty.pair (Ty.sl (nat_lit 9) Ty.str) (Ty.sl (nat_lit 39) (Ty.pair Ty.str (Ty.pair Ty.bool (Ty.sl (nat_lit 3) (Ty.int IntKind.i64)))))))) y1 (Int.toNat y0)).2.1) (.br (g_Vs_l2Ready_4 (List.drop (nat_lit 0) (List.take (Int.toNat y0) y1)) (at_ (Ty.pair (Ty.int IntKind.i64) (Ty.pair (Ty.int IntKind.i64) (Ty.pair (Ty.sl (nat_lit 9) Ty.str) (Ty.sl (nat_lit 39) (Ty.pair Ty.str (Ty.pair Ty.bool (Ty.sl (nat_lit 3) (Ty.int IntKind.i64)))))))) y1 (Int.toNat y0)).2.1) (.br (g_As_StoDo y4 (g_Vs_l2Ready_3 (List.drop (nat_lit 0) (List.take (Int.toNat y0) y1)) (at_ (Ty.pair (Ty.int IntKind.i64) (Ty.pair (Ty.int IntKind.i64) (Ty.pair (Ty.sl (nat_lit 9) Ty.str) (Ty.sl (nat_lit 39) (Ty.pair Ty.str (Ty.pair Ty.bool (Ty.sl (nat_lit 3) (Ty.int IntKind.i64)))))))) y1 (Int.toNat y0)).2.1)) (.br (true) (.go ((IntKind.wrap IntKind.i64 (y0 + (1:Int)),g_Vs_StoDo_0 y4 (g_Vs_l2Ready_3 (List.drop (nat_lit 0) (List.take (Int.toNat y0) y1)) (at_ (Ty.pair (Ty.int IntKind.i64) (Ty.pair (Ty.int IntKind.i64) (Ty.pair (Ty.sl (nat_lit 9) Ty.str) (Ty.sl (nat_lit 39) (Ty.pair Ty.str (Ty.pair Ty.bool (Ty.sl (nat_lit 3) (Ty.int IntKind.i64)))))))) y1 (Int.toNat y0)).2.1)))) .bad) .bad) (.br (true) (.go ((IntKind.wrap IntKind.i64 (y0 + (1:Int)),y4))) .bad)) .bad) .bad) .bad)) .bad) .bad) (.out (y4))) .bad
noncomputable def g_Ls_DiskFold_0 (y1:List (Int×(Int×((List ByteArray)×(List (ByteArray×(Bool×(List Int)))))))) (y2:Int) (y3:List (ByteArray×(List Int))) (x:Int×(List (ByteArray×(List Int)))):Option (((List (ByteArray×(List Int))))) := loopO (g_Ss_DiskFold_0 y1 y2 y3) x
noncomputable def xs_DiskFold_0 (y1:List (Int×(Int×((List ByteArray)×(List (ByteArray×(Bool×(List Int)))))))) (y2:Int) (y3:List (ByteArray×(List Int))):(((List (ByteArray×(List Int))))) → Ex×List (Pl×LV) := fun r => (.exit 0,[(.T 2,.t (.val false [.ptr 2 0 0])),(.T 3,.t (.val false [.ptr 3 0 0])),(.B 2,.b 0 false [.row 2 1 0]),(.R 2 1,.r 0 (some ⟨false,.any,true,49,(.pair .str (.sl 3 (.int .i64))),y3⟩)),(.B 3,.b 0 false [.row 3 1 0]),(.R 3 1,.r 0 (some ⟨false,.any,true,49,(.pair .str (.sl 3 (.int .i64))),r⟩))])
noncomputable def Os_DiskFold_1:Orc := fun b h => match b,h with
 | 0,[(.T 1,.t (.val false [.ptr 1 0 0])),(.T 2,.t (.val false [.ptr 2 0 0])),(.T 3,.t (.val false [.ptr 3 0 0])),(.T 4,.t (.val false [.int .i64 y0])),(.B 1,.b 0 false [.sl .any 72 (.pair (.int .i64) (.pair (.int .i64) (.pair (.sl 9 .str) (.sl 39 (.pair .str (.pair .bool (.sl 3 (.int .i64)))))))) y1,.int .i64 y2]),(.B 2,.b 0 false [.row 2 1 0]),(.R 2 1,.r 0 (some ⟨false,.any,true,49,(.pair .str (.sl 3 (.int .i64))),y3⟩)),(.B 3,.b 0 false [.row 3 1 0]),(.R 3 1,.r 0 (some ⟨false,.any,true,49,(.pair .str (.sl 3 (.int .i64))),y4⟩))] => some (okO (g_Ls_DiskFold_0 y1 y2 y3 (y0,y4)),(.leaf (.exit 0) [(.T 2,.t (.val false [.ptr 2 0 0])),(.T 3,.t (.val false [.ptr 3 0 0])),(.B 2,.b 0 false [.row 2 1 0]),(.R 2 1,.r 0 (some ⟨false,.any,true,49,(.pair .str (.sl 3 (.int .i64))),y3⟩)),(.B 3,.b 0 false [.row 3 1 0]),(.R 3 1,.r 0 (some ⟨false,.any,true,49,(.pair .str (.sl 3 (.int .i64))),(valO (g_Ls_DiskFold_0 y1 y2 y3 (y0,y4)))⟩))]))
 | b,h => Os_DiskFold_0 b h
theorem bs_DiskFold_0 (y0:Int) (y1:List (Int×(Int×((List ByteArray)×(List (ByteArray×(Bool×(List Int)))))))) (y2:Int) (y3:List (ByteArray×(List Int))) (y4:List (ByteArray×(List Int))):Tr.bt Es_DiskFold Os_DiskFold_0 (exec Es_DiskFold 0 cs_DiskFold_0 (St.of (hs_DiskFold_0 y0 y1 y2 y3 y4)) (leafRd Es_DiskFold 0)) = (g_Ss_DiskFold_0 y1 y2 y3 (y0,y4)).bt (fun ((y0,y4):Int×(List (ByteArray×(List Int)))) => (hs_DiskFold_0 y0 y1 y2 y3 y4)) (xs_DiskFold_0 y1 y2 y3) := by kernel_rfl
theorem ks_DiskFold_1:OrcOk Es_DiskFold Os_DiskFold_1 lss_DiskFold 1 := orc_add ks_DiskFold_0 (fun n p hp h ex h' ho => by
 obtain ⟨b,c⟩ := p
 obtain ⟨xt,h1,h2⟩ := ho
 have h1:Os_DiskFold_1 b h = some (true,xt) := h1
 unfold Os_DiskFold_1 at h1
 split at h1
 ·injection h1 with h1
  injection h1 with e1 e2
  subst e2
  have hc:c = cs_DiskFold_0 := ms_DiskFold_0 _ hp rfl
  subst hc
  right
  rename_i y0 y1 y2 y3 y4
  have key := LT_step ks_DiskFold_0 hp (fun q hq => loopsAll_in _ _ _ _ hp hq) (fun ((y0,y4):Int×(List (ByteArray×(List Int)))) => (hs_DiskFold_0 y0 y1 y2 y3 y4)) (xs_DiskFold_0 y1 y2 y3) (g_Ss_DiskFold_0 y1 y2 y3) (fun x => by first | exact bs_DiskFold_0 x.1 y1 y2 y3 x.2) n (x := (y0,y4)) (okO_some e1)
  have hx:∀ r,XT.sel (.leaf (.exit 0) [(.T 2,.t (.val false [.ptr 2 0 0])),(.T 3,.t (.val false [.ptr 3 0 0])),(.B 2,.b 0 false [.row 2 1 0]),(.R 2 1,.r 0 (some ⟨false,.any,true,49,(.pair .str (.sl 3 (.int .i64))),y3⟩)),(.B 3,.b 0 false [.row 3 1 0]),(.R 3 1,.r 0 (some ⟨false,.any,true,49,(.pair .str (.sl 3 (.int .i64))),r⟩))]) = xs_DiskFold_0 y1 y2 y3 r := fun r => by first | rfl | (rcases r with r | r <;> rfl) | (rcases r with r | r | r <;> rfl) | (rcases r with r | r | r | r <;> rfl)
  have h3 := (hx (valO (g_Ls_DiskFold_0 y1 y2 y3 (y0,y4)))).symm.trans h2
  have e3 := congrArg Prod.fst h3
  have e4 := congrArg Prod.snd h3
  simp only at e3 e4
  rw [← e3,← e4]
  exact key
 ·exact .inl ⟨xt,h1,h2⟩)
noncomputable def g_As_DiskFold (a0:List (Int×(Int×((List ByteArray)×(List (ByteArray×(Bool×(List Int)))))))) (a1:Int):Bool := g_As_DiskOk a0 a1&&(!g_Vs_DiskOk_0 a0 a1 || okO (g_Ls_DiskFold_0 a0 a1 [] ((0:Int),[])))
noncomputable def g_Vs_DiskFold_0 (a0:List (Int×(Int×((List ByteArray)×(List (ByteArray×(Bool×(List Int)))))))) (a1:Int):List (ByteArray×(List Int)) := bif !g_Vs_DiskOk_0 a0 a1 then [] else valO (g_Ls_DiskFold_0 a0 a1 [] ((0:Int),[]))
noncomputable def Fs_DiskFold:FSem := fun ys => match ys with
 | [.val true [.sl .any 72 (.pair (.int .i64) (.pair (.int .i64) (.pair (.sl 9 .str) (.sl 39 (.pair .str (.pair .bool (.sl 3 (.int .i64)))))))) a0,.int .i64 a1]] => some ((g_As_DiskFold a0 a1),.val true [.own .any true 49 (.pair .str (.sl 3 (.int .i64))) (g_Vs_DiskFold_0 a0 a1)],[])
 | _ => none
theorem vs_DiskFold (a0:List (Int×(Int×((List ByteArray)×(List (ByteArray×(Bool×(List Int)))))))) (a1:Int):collapseH .std Es_DiskFold Os_DiskFold_1 (execFn Es_DiskFold Tryz.f23 mss_DiskFold [.val true [.sl .any 72 (.pair (.int .i64) (.pair (.int .i64) (.pair (.sl 9 .str) (.sl 39 (.pair .str (.pair .bool (.sl 3 (.int .i64)))))))) a0,.int .i64 a1]]) = some ((g_As_DiskFold a0 a1),.val true [.own .any true 49 (.pair .str (.sl 3 (.int .i64))) (g_Vs_DiskFold_0 a0 a1)],[]) := by kernel_rfl
theorem ss_DiskFold:Sound Tryz.prog 23 mss_DiskFold Fs_DiskFold := by
 refine fn_gen goods_DiskFold (by kernel_rfl) .std (fn := Tryz.f23) (c := (Tryz.f23.body.getD .skip)) (o := Os_DiskFold_1) (k := 1) (by kernel_rfl) (by kernel_rfl) (by kernel_rfl) (by kernel_rfl) (by decide) ks_DiskFold_1 ?_
 intro ys r outs h
 unfold Fs_DiskFold at h
 split at h
 ·exact (vs_DiskFold _ _).trans h
 ·cases h
noncomputable def Es_l2Note:Env where
 tt := mkTI Tryz.prog
 fn := fun _ => none
 bxf := fun _ => none
 mv := []
 keep := fun b => match b with
  | 0 => [(1,false),(2,false),(3,false),(4,false)]
  | _ => []
 keepB := fun b => match b with
  | 0 => [(1,false),(2,false),(3,false)]
  | _ => []
 keepX := fun b => match b with
  | 0 => [(2,false),(3,false)]
  | _ => []
 keepXB := fun b => match b with
  | 0 => [(2,false),(3,false)]
  | _ => []
theorem goodFs_l2Note:∀ f ms F,Es_l2Note.fn f = some (ms,F) → Sound Tryz.prog f ms F := fun f ms F h => by cases h
theorem goodBs_l2Note:∀ f ms F,Es_l2Note.bxf f = some (ms,F) → SoundB Tryz.prog f ms F := fun f ms F h => by cases h
theorem goods_l2Note:Good Tryz.prog Es_l2Note := ⟨rfl,goodFs_l2Note,goodBs_l2Note⟩
noncomputable def Os_l2Note_0:Orc := fun _ _ => none
noncomputable def mss_l2Note:List PM := [.rd]
noncomputable def lss_l2Note:List (Nat×Code) := loopsAll 0 (Tryz.f165.body.getD .skip)
noncomputable def cs_l2Note_0:Code := (loopOf 0 (Tryz.f165.body.getD .skip)).getD .skip
theorem lseqs_l2Note:lss_l2Note = [(0,cs_l2Note_0)] := by kernel_rfl
theorem ms_l2Note_0:∀ p,p ∈ lss_l2Note → p.1 = 0 → p.2 = cs_l2Note_0 := by
 intro p hp
 rw [lseqs_l2Note] at hp
 simp only [List.mem_cons,List.not_mem_nil,or_false] at hp
 subst hp; simp
theorem ks_l2Note_0:OrcOk Es_l2Note Os_l2Note_0 lss_l2Note 0 := orcOk_none
noncomputable def hs_l2Note_0 (y0:Int) (y1:Int) (y2:Int) (y3:List ByteArray) (y4:List (ByteArray×(Bool×(List Int)))) (y5:Int) (y6:Int) (y7:List ByteArray) (y8:List (ByteArray×(Bool×(List Int)))) (y9:Int) (y10:Int) (y11:List ByteArray) (y12:List (ByteArray×(Bool×(List Int)))):List (Pl×LV) := [(.T 1,.t (.val false [.ptr 1 0 0])),(.T 2,.t (.val false [.ptr 2 0 0])),(.T 3,.t (.val false [.ptr 3 0 0])),(.T 4,.t (.val false [.int .i64 y0])),(.B 1,.b 0 false [.int .i64 y1,.int .i64 y2,.sl .any 9 .str y3,.sl .any 39 (.pair .str (.pair .bool (.sl 3 (.int .i64)))) y4]),(.B 2,.b 0 false [.int .i64 y5,.int .i64 y6,.row 2 5 0,.row 2 7 0]),(.R 2 5,.r 0 (some ⟨false,.any,true,9,.str,y7⟩)),(.R 2 7,.r 0 (some ⟨false,.any,true,39,(.pair .str (.pair .bool (.sl 3 (.int .i64)))),y8⟩)),(.B 3,.b 0 false [.int .i64 y9,.int .i64 y10,.row 3 5 0,.row 3 7 0]),(.R 3 5,.r 0 (some ⟨false,.non,true,9,.str,y11⟩)),(.R 3 7,.r 0 (some ⟨false,.any,true,39,(.pair .str (.pair .bool (.sl 3 (.int .i64)))),y12⟩))]
noncomputable def g_Ss_l2Note_0 (y1:Int) (y2:Int) (y3:List ByteArray) (y4:List (ByteArray×(Bool×(List Int)))) (y5:Int) (y6:Int) (y7:List ByteArray) (y8:List (ByteArray×(Bool×(List Int)))) (y9:Int) (y10:Int) (y11:List ByteArray):(Int×(List (ByteArray×(Bool×(List Int))))) → RT (Int×(List (ByteArray×(Bool×(List Int))))) (((List (ByteArray×(Bool×(List Int))))))
 | (y0,y12) => .br (true) (.br (decide (y0 < (↑(List.length y4):Int))) (.br (decide ((0:Int) ≤ y0 ∧ y0 < (↑(List.length y4):Int))) (.br (decide ((nat_lit 0 + List.length (at_ (Ty.pair Ty.str (Ty.pair Ty.bool (Ty.sl (nat_lit 3) (Ty.int IntKind.i64)))) y4 (Int.toNat y0)).2.2) * nat_lit 8 ≤ nat_lit 140737488355328 ∧ nat_lit 0 + List.length (at_ (Ty.pair Ty.str (Ty.pair Ty.bool (Ty.sl (nat_lit 3) (Ty.int IntKind.i64)))) y4 (Int.toNat y0)).2.2 ≤ nat_lit 9223372036854775807)) (.br (decide ((List.length y12 + List.length [((at_ (Ty.pair Ty.str (Ty.pair Ty.bool (Ty.sl (nat_lit 3) (Ty.int IntKind.i64)))) y4 (Int.toNat y0)).1,(at_ (Ty.pair Ty.str (Ty.pair Ty.bool (Ty.sl (nat_lit 3) (Ty.int IntKind.i64)))) y4 (Int.toNat y0)).2.1,[] ++ (at_ (Ty.pair Ty.str (Ty.pair Ty.bool (Ty.sl (nat_lit 3) (Ty.int IntKind.i64)))) y4 (Int.toNat y0)).2.2)]) * nat_lit 48 ≤ nat_lit 140737488355328 ∧ List.length y12 + List.length [((at_ (Ty.pair Ty.str (Ty.pair Ty.bool (Ty.sl (nat_lit 3) (Ty.int IntKind.i64)))) y4 (Int.toNat y0)).1,(at_ (Ty.pair Ty.str (Ty.pair Ty.bool (Ty.sl (nat_lit 3) (Ty.int IntKind.i64)))) y4 (Int.toNat y0)).2.1,[] ++ (at_ (Ty.pair Ty.str (Ty.pair Ty.bool (Ty.sl (nat_lit 3) (Ty.int IntKind.i64)))) y4 (Int.toNat y0)).2.2)] ≤ nat_lit 9223372036854775807)) (.br (true) (.go ((IntKind.wrap IntKind.i64 (y0 + (1:Int)),y12 ++ [((at_ (Ty.pair Ty.str (Ty.pair Ty.bool (Ty.sl (nat_lit 3) (Ty.int IntKind.i64)))) y4 (Int.toNat y0)).1,(at_ (Ty.pair Ty.str (Ty.pair Ty.bool (Ty.sl (nat_lit 3) (Ty.int IntKind.i64)))) y4 (Int.toNat y0)).2.1,[] ++ (at_ (Ty.pair Ty.str (Ty.pair Ty.bool (Ty.sl (nat_lit 3) (Ty.int IntKind.i64)))) y4 (Int.toNat y0)).2.2)]))) .bad) .bad) .bad) .bad) (.out (y12))) .bad
noncomputable def g_Ls_l2Note_0 (y1:Int) (y2:Int) (y3:List ByteArray) (y4:List (ByteArray×(Bool×(List Int)))) (y5:Int) (y6:Int) (y7:List ByteArray) (y8:List (ByteArray×(Bool×(List Int)))) (y9:Int) (y10:Int) (y11:List ByteArray) (x:Int×(List (ByteArray×(Bool×(List Int))))):Option (((List (ByteArray×(Bool×(List Int)))))) := loopO (g_Ss_l2Note_0 y1 y2 y3 y4 y5 y6 y7 y8 y9 y10 y11) x
noncomputable def xs_l2Note_0 (y1:Int) (y2:Int) (y3:List ByteArray) (y4:List (ByteArray×(Bool×(List Int)))) (y5:Int) (y6:Int) (y7:List ByteArray) (y8:List (ByteArray×(Bool×(List Int)))) (y9:Int) (y10:Int) (y11:List ByteArray):(((List (ByteArray×(Bool×(List Int)))))) → Ex×List (Pl×LV) := fun r => (.exit 0,[(.T 2,.t (.val false [.ptr 2 0 0])),(.T 3,.t (.val false [.ptr 3 0 0])),(.B 2,.b 0 false [.int .i64 y5,.int .i64 y6,.row 2 5 0,.row 2 7 0]),(.R 2 5,.r 0 (some ⟨false,.any,true,9,.str,y7⟩)),(.R 2 7,.r 0 (some ⟨false,.any,true,39,(.pair .str (.pair .bool (.sl 3 (.int .i64)))),y8⟩)),(.B 3,.b 0 false [.int .i64 y9,.int .i64 y10,.row 3 5 0,.row 3 7 0]),(.R 3 5,.r 0 (some ⟨false,.non,true,9,.str,y11⟩)),(.R 3 7,.r 0 (some ⟨false,.any,true,39,(.pair .str (.pair .bool (.sl 3 (.int .i64)))),r⟩))])
noncomputable def Os_l2Note_1:Orc := fun b h => match b,h with
 | 0,[(.T 1,.t (.val false [.ptr 1 0 0])),(.T 2,.t (.val false [.ptr 2 0 0])),(.T 3,.t (.val false [.ptr 3 0 0])),(.T 4,.t (.val false [.int .i64 y0])),(.B 1,.b 0 false [.int .i64 y1,.int .i64 y2,.sl .any 9 .str y3,.sl .any 39 (.pair .str (.pair .bool (.sl 3 (.int .i64)))) y4]),(.B 2,.b 0 false [.int .i64 y5,.int .i64 y6,.row 2 5 0,.row 2 7 0]),(.R 2 5,.r 0 (some ⟨false,.any,true,9,.str,y7⟩)),(.R 2 7,.r 0 (some ⟨false,.any,true,39,(.pair .str (.pair .bool (.sl 3 (.int .i64)))),y8⟩)),(.B 3,.b 0 false [.int .i64 y9,.int .i64 y10,.row 3 5 0,.row 3 7 0]),(.R 3 5,.r 0 (some ⟨false,.non,true,9,.str,y11⟩)),(.R 3 7,.r 0 (some ⟨false,.any,true,39,(.pair .str (.pair .bool (.sl 3 (.int .i64)))),y12⟩))] => some (okO (g_Ls_l2Note_0 y1 y2 y3 y4 y5 y6 y7 y8 y9 y10 y11 (y0,y12)),(.leaf (.exit 0) [(.T 2,.t (.val false [.ptr 2 0 0])),(.T 3,.t (.val false [.ptr 3 0 0])),(.B 2,.b 0 false [.int .i64 y5,.int .i64 y6,.row 2 5 0,.row 2 7 0]),(.R 2 5,.r 0 (some ⟨false,.any,true,9,.str,y7⟩)),(.R 2 7,.r 0 (some ⟨false,.any,true,39,(.pair .str (.pair .bool (.sl 3 (.int .i64)))),y8⟩)),(.B 3,.b 0 false [.int .i64 y9,.int .i64 y10,.row 3 5 0,.row 3 7 0]),(.R 3 5,.r 0 (some ⟨false,.non,true,9,.str,y11⟩)),(.R 3 7,.r 0 (some ⟨false,.any,true,39,(.pair .str (.pair .bool (.sl 3 (.int .i64)))),(valO (g_Ls_l2Note_0 y1 y2 y3 y4 y5 y6 y7 y8 y9 y10 y11 (y0,y12)))⟩))]))
 | b,h => Os_l2Note_0 b h
theorem bs_l2Note_0 (y0:Int) (y1:Int) (y2:Int) (y3:List ByteArray) (y4:List (ByteArray×(Bool×(List Int)))) (y5:Int) (y6:Int) (y7:List ByteArray) (y8:List (ByteArray×(Bool×(List Int)))) (y9:Int) (y10:Int) (y11:List ByteArray) (y12:List (ByteArray×(Bool×(List Int)))):Tr.bt Es_l2Note Os_l2Note_0 (exec Es_l2Note 0 cs_l2Note_0 (St.of (hs_l2Note_0 y0 y1 y2 y3 y4 y5 y6 y7 y8 y9 y10 y11 y12)) (leafRd Es_l2Note 0)) = (g_Ss_l2Note_0 y1 y2 y3 y4 y5 y6 y7 y8 y9 y10 y11 (y0,y12)).bt (fun ((y0,y12):Int×(List (ByteArray×(Bool×(List Int))))) => (hs_l2Note_0 y0 y1 y2 y3 y4 y5 y6 y7 y8 y9 y10 y11 y12)) (xs_l2Note_0 y1 y2 y3 y4 y5 y6 y7 y8 y9 y10 y11) := by kernel_rfl
theorem ks_l2Note_1:OrcOk Es_l2Note Os_l2Note_1 lss_l2Note 1 := orc_add ks_l2Note_0 (fun n p hp h ex h' ho => by
 obtain ⟨b,c⟩ := p
 obtain ⟨xt,h1,h2⟩ := ho
 have h1:Os_l2Note_1 b h = some (true,xt) := h1
 unfold Os_l2Note_1 at h1
 split at h1
 ·injection h1 with h1
  injection h1 with e1 e2
  subst e2
  have hc:c = cs_l2Note_0 := ms_l2Note_0 _ hp rfl
  subst hc
  right
  rename_i y0 y1 y2 y3 y4 y5 y6 y7 y8 y9 y10 y11 y12
  have key := LT_step ks_l2Note_0 hp (fun q hq => loopsAll_in _ _ _ _ hp hq) (fun ((y0,y12):Int×(List (ByteArray×(Bool×(List Int))))) => (hs_l2Note_0 y0 y1 y2 y3 y4 y5 y6 y7 y8 y9 y10 y11 y12)) (xs_l2Note_0 y1 y2 y3 y4 y5 y6 y7 y8 y9 y10 y11) (g_Ss_l2Note_0 y1 y2 y3 y4 y5 y6 y7 y8 y9 y10 y11) (fun x => by first | exact bs_l2Note_0 x.1 y1 y2 y3 y4 y5 y6 y7 y8 y9 y10 y11 x.2) n (x := (y0,y12)) (okO_some e1)
  have hx:∀ r,XT.sel (.leaf (.exit 0) [(.T 2,.t (.val false [.ptr 2 0 0])),(.T 3,.t (.val false [.ptr 3 0 0])),(.B 2,.b 0 false [.int .i64 y5,.int .i64 y6,.row 2 5 0,.row 2 7 0]),(.R 2 5,.r 0 (some ⟨false,.any,true,9,.str,y7⟩)),(.R 2 7,.r 0 (some ⟨false,.any,true,39,(.pair .str (.pair .bool (.sl 3 (.int .i64)))),y8⟩)),(.B 3,.b 0 false [.int .i64 y9,.int .i64 y10,.row 3 5 0,.row 3 7 0]),(.R 3 5,.r 0 (some ⟨false,.non,true,9,.str,y11⟩)),(.R 3 7,.r 0 (some ⟨false,.any,true,39,(.pair .str (.pair .bool (.sl 3 (.int .i64)))),r⟩))]) = xs_l2Note_0 y1 y2 y3 y4 y5 y6 y7 y8 y9 y10 y11 r := fun r => by first | rfl | (rcases r with r | r <;> rfl) | (rcases r with r | r | r <;> rfl) | (rcases r with r | r | r | r <;> rfl)
  have h3 := (hx (valO (g_Ls_l2Note_0 y1 y2 y3 y4 y5 y6 y7 y8 y9 y10 y11 (y0,y12)))).symm.trans h2
  have e3 := congrArg Prod.fst h3
  have e4 := congrArg Prod.snd h3
  simp only at e3 e4
  rw [← e3,← e4]
  exact key
 ·exact .inl ⟨xt,h1,h2⟩)
noncomputable def g_As_l2Note (a0:Int) (a1:Int) (a2:List ByteArray) (a3:List (ByteArray×(Bool×(List Int)))):Bool := decide ((nat_lit 0 + List.length a2) * nat_lit 16 ≤ nat_lit 140737488355328 ∧ nat_lit 0 + List.length a2 ≤ nat_lit 9223372036854775807)&&okO (g_Ls_l2Note_0 a0 a1 a2 a3 (0:Int) (0:Int) [] [] a0 a1 ([] ++ a2) ((0:Int),[]))
noncomputable def g_Vs_l2Note_0 (a0:Int) (a1:Int) (a2:List ByteArray) (a3:List (ByteArray×(Bool×(List Int)))):List ByteArray := [] ++ a2
noncomputable def g_Vs_l2Note_1 (a0:Int) (a1:Int) (a2:List ByteArray) (a3:List (ByteArray×(Bool×(List Int)))):List (ByteArray×(Bool×(List Int))) := valO (g_Ls_l2Note_0 a0 a1 a2 a3 (0:Int) (0:Int) [] [] a0 a1 ([] ++ a2) ((0:Int),[]))
noncomputable def Fs_l2Note:FSem := fun ys => match ys with
 | [.val true [.int .i64 a0,.int .i64 a1,.sl .any 9 .str a2,.sl .any 39 (.pair .str (.pair .bool (.sl 3 (.int .i64)))) a3]] => some ((g_As_l2Note a0 a1 a2 a3),.val true [.int .i64 a0,.int .i64 a1,.own .any true 9 .str (g_Vs_l2Note_0 a0 a1 a2 a3),.own .any true 39 (.pair .str (.pair .bool (.sl 3 (.int .i64)))) (g_Vs_l2Note_1 a0 a1 a2 a3)],[])
 | _ => none
theorem vs_l2Note (a0:Int) (a1:Int) (a2:List ByteArray) (a3:List (ByteArray×(Bool×(List Int)))):collapseH .std Es_l2Note Os_l2Note_1 (execFn Es_l2Note Tryz.f165 mss_l2Note [.val true [.int .i64 a0,.int .i64 a1,.sl .any 9 .str a2,.sl .any 39 (.pair .str (.pair .bool (.sl 3 (.int .i64)))) a3]]) = some ((g_As_l2Note a0 a1 a2 a3),.val true [.int .i64 a0,.int .i64 a1,.own .any true 9 .str (g_Vs_l2Note_0 a0 a1 a2 a3),.own .any true 39 (.pair .str (.pair .bool (.sl 3 (.int .i64)))) (g_Vs_l2Note_1 a0 a1 a2 a3)],[]) := by kernel_rfl
theorem ss_l2Note:Sound Tryz.prog 165 mss_l2Note Fs_l2Note := by
 refine fn_gen goods_l2Note (by kernel_rfl) .std (fn := Tryz.f165) (c := (Tryz.f165.body.getD .skip)) (o := Os_l2Note_1) (k := 1) (by kernel_rfl) (by kernel_rfl) (by kernel_rfl) (by kernel_rfl) (by decide) ks_l2Note_1 ?_
 intro ys r outs h
 unfold Fs_l2Note at h
 split at h
 ·exact (vs_l2Note _ _ _ _).trans h
 ·cases h
noncomputable def Es_l2Copy:Env where
 tt := mkTI Tryz.prog
 fn := fun f => match f with
  | 165 => some (mss_l2Note,FSem.wk mss_l2Note Fs_l2Note)
  | _ => none
 bxf := fun _ => none
 mv := []
 keep := fun b => match b with
  | 0 => [(1,false),(2,false),(3,false),(4,false)]
  | _ => []
 keepB := fun b => match b with
  | 0 => [(1,false),(2,false),(3,false)]
  | _ => []
 keepX := fun b => match b with
  | 0 => [(2,false),(3,false)]
  | _ => []
 keepXB := fun b => match b with
  | 0 => [(2,false),(3,false)]
  | _ => []
theorem goodFs_l2Copy:∀ f ms F,Es_l2Copy.fn f = some (ms,F) → Sound Tryz.prog f ms F := fun f ms F h => by
 unfold Es_l2Copy at h
 dsimp only at h
 split at h
 ·injection h with h; injection h with e1 e2; subst e1 e2; exact Sound.wk ss_l2Note
 ·cases h
theorem goodBs_l2Copy:∀ f ms F,Es_l2Copy.bxf f = some (ms,F) → SoundB Tryz.prog f ms F := fun f ms F h => by cases h
theorem goods_l2Copy:Good Tryz.prog Es_l2Copy := ⟨rfl,goodFs_l2Copy,goodBs_l2Copy⟩
noncomputable def Os_l2Copy_0:Orc := fun _ _ => none
noncomputable def mss_l2Copy:List PM := [.rd]
noncomputable def lss_l2Copy:List (Nat×Code) := loopsAll 0 (Tryz.f164.body.getD .skip)
noncomputable def cs_l2Copy_0:Code := (loopOf 0 (Tryz.f164.body.getD .skip)).getD .skip
theorem lseqs_l2Copy:lss_l2Copy = [(0,cs_l2Copy_0)] := by kernel_rfl
theorem ms_l2Copy_0:∀ p,p ∈ lss_l2Copy → p.1 = 0 → p.2 = cs_l2Copy_0 := by
 intro p hp
 rw [lseqs_l2Copy] at hp
 simp only [List.mem_cons,List.not_mem_nil,or_false] at hp
 subst hp; simp
theorem ks_l2Copy_0:OrcOk Es_l2Copy Os_l2Copy_0 lss_l2Copy 0 := orcOk_none
noncomputable def hs_l2Copy_0 (y0:Int) (y1:List (Int×(Int×((List ByteArray)×(List (ByteArray×(Bool×(List Int)))))))) (y2:Int) (y3:Int) (y4:List (Int×(Int×((List ByteArray)×(List (ByteArray×(Bool×(List Int)))))))) (y5:Int) (y6:List (Int×(Int×((List ByteArray)×(List (ByteArray×(Bool×(List Int)))))))):List (Pl×LV) := [(.T 1,.t (.val false [.ptr 1 0 0])),(.T 2,.t (.val false [.ptr 2 0 0])),(.T 3,.t (.val false [.ptr 3 0 0])),(.T 4,.t (.val false [.int .i64 y0])),(.B 1,.b 0 false [.sl .any 72 (.pair (.int .i64) (.pair (.int .i64) (.pair (.sl 9 .str) (.sl 39 (.pair .str (.pair .bool (.sl 3 (.int .i64)))))))) y1,.int .i64 y2]),(.B 2,.b 0 false [.row 2 1 0,.int .i64 y3]),(.R 2 1,.r 0 (some ⟨false,.any,true,72,(.pair (.int .i64) (.pair (.int .i64) (.pair (.sl 9 .str) (.sl 39 (.pair .str (.pair .bool (.sl 3 (.int .i64)))))))),y4⟩)),(.B 3,.b 0 false [.row 3 1 0,.int .i64 y5]),(.R 3 1,.r 0 (some ⟨false,.any,true,72,(.pair (.int .i64) (.pair (.int .i64) (.pair (.sl 9 .str) (.sl 39 (.pair .str (.pair .bool (.sl 3 (.int .i64)))))))),y6⟩))]
noncomputable def g_Ss_l2Copy_0 (y1:List (Int×(Int×((List ByteArray)×(List (ByteArray×(Bool×(List Int)))))))) (y2:Int) (y3:Int) (y4:List (Int×(Int×((List ByteArray)×(List (ByteArray×(Bool×(List Int)))))))) (y5:Int):(Int×(List (Int×(Int×((List ByteArray)×(List (ByteArray×(Bool×(List Int))))))))) → RT (Int×(List (Int×(Int×((List ByteArray)×(List (ByteArray×(Bool×(List Int))))))))) (((List (Int×(Int×((List ByteArray)×(List (ByteArray×(Bool×(List Int))))))))))
 | (y0,y6) => .br (true) (.br (decide (y0 < (↑(List.length y1):Int))) (.br (decide ((0:Int) ≤ y0 ∧ y0 < (↑(List.length y1):Int))) (.br (g_As_l2Note (at_ (Ty.pair (Ty.int IntKind.i64) (Ty.pair (Ty.int IntKind.i64) (Ty.pair (Ty.sl (nat_lit 9) Ty.str) (Ty.sl (nat_lit 39) (Ty.pair Ty.str (Ty.pair Ty.bool (Ty.sl (nat_lit 3) (Ty.int IntKind.i64)))))))) y1 (Int.toNat y0)).1 (at_ (Ty.pair (Ty.int IntKind.i64) (Ty.pair (Ty.int IntKind.i64) (Ty.pair (Ty.sl (nat_lit 9) Ty.str) (Ty.sl (nat_lit 39) (Ty.pair Ty.str (Ty.pair Ty.bool (Ty.sl (nat_lit 3) (Ty.int IntKind.i64)))))))) y1 (Int.toNat y0)).2.1 (at_ (Ty.pair (Ty.int IntKind.i64) (Ty.pair (Ty.int IntKind.i64) (Ty.pair (Ty.sl (nat_lit 9) Ty.str) (Ty.sl (nat_lit 39) (Ty.pair Ty.str (Ty.pair Ty.bool (Ty.sl (nat_lit 3) (Ty.int IntKind.i64)))))))) y1 (Int.toNat y0)).2.2.1 (at_ (Ty.pair (Ty.int IntKind.i64) (Ty.pair (Ty.int IntKind.i64) (Ty.pair (Ty.sl (nat_lit 9) Ty.str) (Ty.sl (nat_lit 39) (Ty.pair Ty.str (Ty.pair Ty.bool (Ty.sl (nat_lit 3) (Ty.int IntKind.i64)))))))) y1 (Int.toNat y0)).2.2.2) (.br (decide ((List.length y6 + List.length [((at_ (Ty.pair (Ty.int IntKind.i64) (Ty.pair (Ty.int IntKind.i64) (Ty.pair (Ty.sl (nat_lit 9) Ty.str) (Ty.sl (nat_lit 39) (Ty.pair Ty.str (Ty.pair Ty.bool (Ty.sl (nat_lit 3) (Ty.int IntKind.i64)))))))) y1 (Int.toNat y0)).1,(at_ (Ty.pair (Ty.int IntKind.i64) (Ty.pair (Ty.int IntKind.i64) (Ty.pair (Ty.sl (nat_lit 9) Ty.str) (Ty.sl (nat_lit 39) (Ty.pair Ty.str (Ty.pair Ty.bool (Ty.sl (nat_lit 3) (Ty.int IntKind.i64)))))))) y1 (Int.toNat y0)).2.1,g_Vs_l2Note_0 (at_ (Ty.pair (Ty.int IntKind.i64) (Ty.pair (Ty.int IntKind.i64) (Ty.pair (Ty.sl (nat_lit 9) Ty.str) (Ty.sl (nat_lit 39) (Ty.pair Ty.str (Ty.pair Ty.bool (Ty.sl (nat_lit 3) (Ty.int IntKind.i64)))))))) y1 (Int.toNat y0)).1 (at_ (Ty.pair (Ty.int IntKind.i64) (Ty.pair (Ty.int IntKind.i64) (Ty.pair (Ty.sl (nat_lit 9) Ty.str) (Ty.sl (nat_lit 39) (Ty.pair Ty.str (Ty.pair Ty.bool (Ty.sl (nat_lit 3) (Ty.int IntKind.i64)))))))) y1 (Int.toNat y0)).2.1 (at_ (Ty.pair (Ty.int IntKind.i64) (Ty.pair (Ty.int IntKind.i64) (Ty.pair (Ty.sl (nat_lit 9) Ty.str) (Ty.sl (nat_lit 39) (Ty.pair Ty.str (Ty.pair Ty.bool (Ty.sl (nat_lit 3) (Ty.int IntKind.i64)))))))) y1 (Int.toNat y0)).2.2.1 (at_ (Ty.pair (Ty.int IntKind.i64) (Ty.pair (Ty.int IntKind.i64) (Ty.pair (Ty.sl (nat_lit 9) Ty.str) (Ty.sl (nat_lit 39) (Ty.pair Ty.str (Ty.pair Ty.bool (Ty.sl (nat_lit 3) (Ty.int IntKind.i64)))))))) y1 (Int.toNat y0)).2.2.2,g_Vs_l2Note_1 (at_ (Ty.pair (Ty.int IntKind.i64) (Ty.pair (Ty.int IntKind.i64) (Ty.pair (Ty.sl (nat_lit 9) Ty.str) (Ty.sl (nat_lit 39) (Ty.pair Ty.str (Ty.pair Ty.bool (Ty.sl (nat_lit 3) (Ty.int IntKind.i64)))))))) y1 (Int.toNat y0)).1 (at_ (Ty.pair (Ty.int IntKind.i64) (Ty.pair (Ty.int IntKind.i64) (Ty.pair (Ty.sl (nat_lit 9) Ty.str) (Ty.sl (nat_lit 39) (Ty.pair Ty.str (Ty.pair Ty.bool (Ty.sl (nat_lit 3) (Ty.int IntKind.i64)))))))) y1 (Int.toNat y0)).2.1 (at_ (Ty.pair (Ty.int IntKind.i64) (Ty.pair (Ty.int IntKind.i64) (Ty.pair (Ty.sl (nat_lit 9) Ty.str) (Ty.sl (nat_lit 39) (Ty.pair Ty.str (Ty.pair Ty.bool (Ty.sl (nat_lit 3) (Ty.int IntKind.i64)))))))) y1 (Int.toNat y0)).2.2.1 (at_ (Ty.pair (Ty.int IntKind.i64) (Ty.pair (Ty.int IntKind.i64) (Ty.pair (Ty.sl (nat_lit 9) Ty.str) (Ty.sl (nat_lit 39) (Ty.pair Ty.str (Ty.pair Ty.bool (Ty.sl (nat_lit 3) (Ty.int IntKind.i64)))))))) y1 (Int.toNat y0)).2.2.2)]) * nat_lit 64 ≤ nat_lit 140737488355328 ∧ List.length y6 + List.length [((at_ (Ty.pair (Ty.int IntKind.i64) (Ty.pair (Ty.int IntKind.i64) (Ty.pair (Ty.sl (nat_lit 9) Ty.str) (Ty.sl (nat_lit 39) (Ty.pair Ty.str (Ty.pair Ty.bool (Ty.sl (nat_lit 3) (Ty.int IntKind.i64)))))))) y1 (Int.toNat y0)).1,(at_ (Ty.pair (Ty.int IntKind.i64) (Ty.pair (Ty.int IntKind.i64) (Ty.pair (Ty.sl (nat_lit 9) Ty.str) (Ty.sl (nat_lit 39) (Ty.pair Ty.str (Ty.pair Ty.bool (Ty.sl (nat_lit 3) (Ty.int IntKind.i64)))))))) y1 (Int.toNat y0)).2.1,g_Vs_l2Note_0 (at_ (Ty.pair (Ty.int IntKind.i64) (Ty.pair (Ty.int IntKind.i64) (Ty.pair (Ty.sl (nat_lit 9) Ty.str) (Ty.sl (nat_lit 39) (Ty.pair Ty.str (Ty.pair Ty.bool (Ty.sl (nat_lit 3) (Ty.int IntKind.i64)))))))) y1 (Int.toNat y0)).1 (at_ (Ty.pair (Ty.int IntKind.i64) (Ty.pair (Ty.int IntKind.i64) (Ty.pair (Ty.sl (nat_lit 9) Ty.str) (Ty.sl (nat_lit 39) (Ty.pair Ty.str (Ty.pair Ty.bool (Ty.sl (nat_lit 3) (Ty.int IntKind.i64)))))))) y1 (Int.toNat y0)).2.1 (at_ (Ty.pair (Ty.int IntKind.i64) (Ty.pair (Ty.int IntKind.i64) (Ty.pair (Ty.sl (nat_lit 9) Ty.str) (Ty.sl (nat_lit 39) (Ty.pair Ty.str (Ty.pair Ty.bool (Ty.sl (nat_lit 3) (Ty.int IntKind.i64)))))))) y1 (Int.toNat y0)).2.2.1 (at_ (Ty.pair (Ty.int IntKind.i64) (Ty.pair (Ty.int IntKind.i64) (Ty.pair (Ty.sl (nat_lit 9) Ty.str) (Ty.sl (nat_lit 39) (Ty.pair Ty.str (Ty.pair Ty.bool (Ty.sl (nat_lit 3) (Ty.int IntKind.i64)))))))) y1 (Int.toNat y0)).2.2.2,g_Vs_l2Note_1 (at_ (Ty.pair (Ty.int IntKind.i64) (Ty.pair (Ty.int IntKind.i64) (Ty.pair (Ty.sl (nat_lit 9) Ty.str) (Ty.sl (nat_lit 39) (Ty.pair Ty.str (Ty.pair Ty.bool (Ty.sl (nat_lit 3) (Ty.int IntKind.i64)))))))) y1 (Int.toNat y0)).1 (at_ (Ty.pair (Ty.int IntKind.i64) (Ty.pair (Ty.int IntKind.i64) (Ty.pair (Ty.sl (nat_lit 9) Ty.str) (Ty.sl (nat_lit 39) (Ty.pair Ty.str (Ty.pair Ty.bool (Ty.sl (nat_lit 3) (Ty.int IntKind.i64)))))))) y1 (Int.toNat y0)).2.1 (at_ (Ty.pair (Ty.int IntKind.i64) (Ty.pair (Ty.int IntKind.i64) (Ty.pair (Ty.sl (nat_lit 9) Ty.str) (Ty.sl (nat_lit 39) (Ty.pair Ty.str (Ty.pair Ty.bool (Ty.sl (nat_lit 3) (Ty.int IntKind.i64)))))))) y1 (Int.toNat y0)).2.2.1 (at_ (Ty.pair (Ty.int IntKind.i64) (Ty.pair (Ty.int IntKind.i64) (Ty.pair (Ty.sl (nat_lit 9) Ty.str) (Ty.sl (nat_lit 39) (Ty.pair Ty.str (Ty.pair Ty.bool (Ty.sl (nat_lit 3) (Ty.int IntKind.i64)))))))) y1 (Int.toNat y0)).2.2.2)] ≤ nat_lit 9223372036854775807)) (.br (true) (.go ((IntKind.wrap IntKind.i64 (y0 + (1:Int)),y6 ++ [((at_ (Ty.pair (Ty.int IntKind.i64) (Ty.pair (Ty.int IntKind.i64) (Ty.pair (Ty.sl (nat_lit 9) Ty.str) (Ty.sl (nat_lit 39) (Ty.pair Ty.str (Ty.pair Ty.bool (Ty.sl (nat_lit 3) (Ty.int IntKind.i64)))))))) y1 (Int.toNat y0)).1,(at_ (Ty.pair (Ty.int IntKind.i64) (Ty.pair (Ty.int IntKind.i64) (Ty.pair (Ty.sl (nat_lit 9) Ty.str) (Ty.sl (nat_lit 39) (Ty.pair Ty.str (Ty.pair Ty.bool (Ty.sl (nat_lit 3) (Ty.int IntKind.i64)))))))) y1 (Int.toNat y0)).2.1,g_Vs_l2Note_0 (at_ (Ty.pair (Ty.int IntKind.i64) (Ty.pair (Ty.int IntKind.i64) (Ty.pair (Ty.sl (nat_lit 9) Ty.str) (Ty.sl (nat_lit 39) (Ty.pair Ty.str (Ty.pair Ty.bool (Ty.sl (nat_lit 3) (Ty.int IntKind.i64)))))))) y1 (Int.toNat y0)).1 (at_ (Ty.pair (Ty.int IntKind.i64) (Ty.pair (Ty.int IntKind.i64) (Ty.pair (Ty.sl (nat_lit 9) Ty.str) (Ty.sl (nat_lit 39) (Ty.pair Ty.str (Ty.pair Ty.bool (Ty.sl (nat_lit 3) (Ty.int IntKind.i64)))))))) y1 (Int.toNat y0)).2.1 (at_ (Ty.pair (Ty.int IntKind.i64) (Ty.pair (Ty.int IntKind.i64) (Ty.pair (Ty.sl (nat_lit 9) Ty.str) (Ty.sl (nat_lit 39) (Ty.pair Ty.str (Ty.pair Ty.bool (Ty.sl (nat_lit 3) (Ty.int IntKind.i64)))))))) y1 (Int.toNat y0)).2.2.1 (at_ (Ty.pair (Ty.int IntKind.i64) (Ty.pair (Ty.int IntKind.i64) (Ty.pair (Ty.sl (nat_lit 9) Ty.str) (Ty.sl (nat_lit 39) (Ty.pair Ty.str (Ty.pair Ty.bool (Ty.sl (nat_lit 3) (Ty.int IntKind.i64)))))))) y1 (Int.toNat y0)).2.2.2,g_Vs_l2Note_1 (at_ (Ty.pair (Ty.int IntKind.i64) (Ty.pair (Ty.int IntKind.i64) (Ty.pair (Ty.sl (nat_lit 9) Ty.str) (Ty.sl (nat_lit 39) (Ty.pair Ty.str (Ty.pair Ty.bool (Ty.sl (nat_lit 3) (Ty.int IntKind.i64)))))))) y1 (Int.toNat y0)).1 (at_ (Ty.pair (Ty.int IntKind.i64) (Ty.pair (Ty.int IntKind.i64) (Ty.pair (Ty.sl (nat_lit 9) Ty.str) (Ty.sl (nat_lit 39) (Ty.pair Ty.str (Ty.pair Ty.bool (Ty.sl (nat_lit 3) (Ty.int IntKind.i64)))))))) y1 (Int.toNat y0)).2.1 (at_ (Ty.pair (Ty.int IntKind.i64) (Ty.pair (Ty.int IntKind.i64) (Ty.pair (Ty.sl (nat_lit 9) Ty.str) (Ty.sl (nat_lit 39) (Ty.pair Ty.str (Ty.pair Ty.bool (Ty.sl (nat_lit 3) (Ty.int IntKind.i64)))))))) y1 (Int.toNat y0)).2.2.1 (at_ (Ty.pair (Ty.int IntKind.i64) (Ty.pair (Ty.int IntKind.i64) (Ty.pair (Ty.sl (nat_lit 9) Ty.str) (Ty.sl (nat_lit 39) (Ty.pair Ty.str (Ty.pair Ty.bool (Ty.sl (nat_lit 3) (Ty.int IntKind.i64)))))))) y1 (Int.toNat y0)).2.2.2)]))) .bad) .bad) .bad) .bad) (.out (y6))) .bad
noncomputable def g_Ls_l2Copy_0 (y1:List (Int×(Int×((List ByteArray)×(List (ByteArray×(Bool×(List Int)))))))) (y2:Int) (y3:Int) (y4:List (Int×(Int×((List ByteArray)×(List (ByteArray×(Bool×(List Int)))))))) (y5:Int) (x:Int×(List (Int×(Int×((List ByteArray)×(List (ByteArray×(Bool×(List Int))))))))):Option (((List (Int×(Int×((List ByteArray)×(List (ByteArray×(Bool×(List Int)))))))))) := loopO (g_Ss_l2Copy_0 y1 y2 y3 y4 y5) x
noncomputable def xs_l2Copy_0 (y1:List (Int×(Int×((List ByteArray)×(List (ByteArray×(Bool×(List Int)))))))) (y2:Int) (y3:Int) (y4:List (Int×(Int×((List ByteArray)×(List (ByteArray×(Bool×(List Int)))))))) (y5:Int):(((List (Int×(Int×((List ByteArray)×(List (ByteArray×(Bool×(List Int)))))))))) → Ex×List (Pl×LV) := fun r => (.exit 0,[(.T 2,.t (.val false [.ptr 2 0 0])),(.T 3,.t (.val false [.ptr 3 0 0])),(.B 2,.b 0 false [.row 2 1 0,.int .i64 y3]),(.R 2 1,.r 0 (some ⟨false,.any,true,72,(.pair (.int .i64) (.pair (.int .i64) (.pair (.sl 9 .str) (.sl 39 (.pair .str (.pair .bool (.sl 3 (.int .i64)))))))),y4⟩)),(.B 3,.b 0 false [.row 3 1 0,.int .i64 y5]),(.R 3 1,.r 0 (some ⟨false,.any,true,72,(.pair (.int .i64) (.pair (.int .i64) (.pair (.sl 9 .str) (.sl 39 (.pair .str (.pair .bool (.sl 3 (.int .i64)))))))),r⟩))])
noncomputable def Os_l2Copy_1:Orc := fun b h => match b,h with
 | 0,[(.T 1,.t (.val false [.ptr 1 0 0])),(.T 2,.t (.val false [.ptr 2 0 0])),(.T 3,.t (.val false [.ptr 3 0 0])),(.T 4,.t (.val false [.int .i64 y0])),(.B 1,.b 0 false [.sl .any 72 (.pair (.int .i64) (.pair (.int .i64) (.pair (.sl 9 .str) (.sl 39 (.pair .str (.pair .bool (.sl 3 (.int .i64)))))))) y1,.int .i64 y2]),(.B 2,.b 0 false [.row 2 1 0,.int .i64 y3]),(.R 2 1,.r 0 (some ⟨false,.any,true,72,(.pair (.int .i64) (.pair (.int .i64) (.pair (.sl 9 .str) (.sl 39 (.pair .str (.pair .bool (.sl 3 (.int .i64)))))))),y4⟩)),(.B 3,.b 0 false [.row 3 1 0,.int .i64 y5]),(.R 3 1,.r 0 (some ⟨false,.any,true,72,(.pair (.int .i64) (.pair (.int .i64) (.pair (.sl 9 .str) (.sl 39 (.pair .str (.pair .bool (.sl 3 (.int .i64)))))))),y6⟩))] => some (okO (g_Ls_l2Copy_0 y1 y2 y3 y4 y5 (y0,y6)),(.leaf (.exit 0) [(.T 2,.t (.val false [.ptr 2 0 0])),(.T 3,.t (.val false [.ptr 3 0 0])),(.B 2,.b 0 false [.row 2 1 0,.int .i64 y3]),(.R 2 1,.r 0 (some ⟨false,.any,true,72,(.pair (.int .i64) (.pair (.int .i64) (.pair (.sl 9 .str) (.sl 39 (.pair .str (.pair .bool (.sl 3 (.int .i64)))))))),y4⟩)),(.B 3,.b 0 false [.row 3 1 0,.int .i64 y5]),(.R 3 1,.r 0 (some ⟨false,.any,true,72,(.pair (.int .i64) (.pair (.int .i64) (.pair (.sl 9 .str) (.sl 39 (.pair .str (.pair .bool (.sl 3 (.int .i64)))))))),(valO (g_Ls_l2Copy_0 y1 y2 y3 y4 y5 (y0,y6)))⟩))]))
 | b,h => Os_l2Copy_0 b h
theorem bs_l2Copy_0 (y0:Int) (y1:List (Int×(Int×((List ByteArray)×(List (ByteArray×(Bool×(List Int)))))))) (y2:Int) (y3:Int) (y4:List (Int×(Int×((List ByteArray)×(List (ByteArray×(Bool×(List Int)))))))) (y5:Int) (y6:List (Int×(Int×((List ByteArray)×(List (ByteArray×(Bool×(List Int)))))))):Tr.bt Es_l2Copy Os_l2Copy_0 (exec Es_l2Copy 0 cs_l2Copy_0 (St.of (hs_l2Copy_0 y0 y1 y2 y3 y4 y5 y6)) (leafRd Es_l2Copy 0)) = (g_Ss_l2Copy_0 y1 y2 y3 y4 y5 (y0,y6)).bt (fun ((y0,y6):Int×(List (Int×(Int×((List ByteArray)×(List (ByteArray×(Bool×(List Int))))))))) => (hs_l2Copy_0 y0 y1 y2 y3 y4 y5 y6)) (xs_l2Copy_0 y1 y2 y3 y4 y5) := by kernel_rfl
theorem ks_l2Copy_1:OrcOk Es_l2Copy Os_l2Copy_1 lss_l2Copy 1 := orc_add ks_l2Copy_0 (fun n p hp h ex h' ho => by
 obtain ⟨b,c⟩ := p
 obtain ⟨xt,h1,h2⟩ := ho
 have h1:Os_l2Copy_1 b h = some (true,xt) := h1
 unfold Os_l2Copy_1 at h1
 split at h1
 ·injection h1 with h1
  injection h1 with e1 e2
  subst e2
  have hc:c = cs_l2Copy_0 := ms_l2Copy_0 _ hp rfl
  subst hc
  right
  rename_i y0 y1 y2 y3 y4 y5 y6
  have key := LT_step ks_l2Copy_0 hp (fun q hq => loopsAll_in _ _ _ _ hp hq) (fun ((y0,y6):Int×(List (Int×(Int×((List ByteArray)×(List (ByteArray×(Bool×(List Int))))))))) => (hs_l2Copy_0 y0 y1 y2 y3 y4 y5 y6)) (xs_l2Copy_0 y1 y2 y3 y4 y5) (g_Ss_l2Copy_0 y1 y2 y3 y4 y5) (fun x => by first | exact bs_l2Copy_0 x.1 y1 y2 y3 y4 y5 x.2) n (x := (y0,y6)) (okO_some e1)
  have hx:∀ r,XT.sel (.leaf (.exit 0) [(.T 2,.t (.val false [.ptr 2 0 0])),(.T 3,.t (.val false [.ptr 3 0 0])),(.B 2,.b 0 false [.row 2 1 0,.int .i64 y3]),(.R 2 1,.r 0 (some ⟨false,.any,true,72,(.pair (.int .i64) (.pair (.int .i64) (.pair (.sl 9 .str) (.sl 39 (.pair .str (.pair .bool (.sl 3 (.int .i64)))))))),y4⟩)),(.B 3,.b 0 false [.row 3 1 0,.int .i64 y5]),(.R 3 1,.r 0 (some ⟨false,.any,true,72,(.pair (.int .i64) (.pair (.int .i64) (.pair (.sl 9 .str) (.sl 39 (.pair .str (.pair .bool (.sl 3 (.int .i64)))))))),r⟩))]) = xs_l2Copy_0 y1 y2 y3 y4 y5 r := fun r => by first | rfl | (rcases r with r | r <;> rfl) | (rcases r with r | r | r <;> rfl) | (rcases r with r | r | r | r <;> rfl)
  have h3 := (hx (valO (g_Ls_l2Copy_0 y1 y2 y3 y4 y5 (y0,y6)))).symm.trans h2
  have e3 := congrArg Prod.fst h3
  have e4 := congrArg Prod.snd h3
  simp only at e3 e4
  rw [← e3,← e4]
  exact key
 ·exact .inl ⟨xt,h1,h2⟩)
noncomputable def g_As_l2Copy (a0:List (Int×(Int×((List ByteArray)×(List (ByteArray×(Bool×(List Int)))))))) (a1:Int):Bool := okO (g_Ls_l2Copy_0 a0 a1 (0:Int) [] a1 ((0:Int),[]))
noncomputable def g_Vs_l2Copy_0 (a0:List (Int×(Int×((List ByteArray)×(List (ByteArray×(Bool×(List Int)))))))) (a1:Int):List (Int×(Int×((List ByteArray)×(List (ByteArray×(Bool×(List Int))))))) := valO (g_Ls_l2Copy_0 a0 a1 (0:Int) [] a1 ((0:Int),[]))
noncomputable def Fs_l2Copy:FSem := fun ys => match ys with
 | [.val true [.sl .any 72 (.pair (.int .i64) (.pair (.int .i64) (.pair (.sl 9 .str) (.sl 39 (.pair .str (.pair .bool (.sl 3 (.int .i64)))))))) a0,.int .i64 a1]] => some ((g_As_l2Copy a0 a1),.val true [.own .any true 72 (.pair (.int .i64) (.pair (.int .i64) (.pair (.sl 9 .str) (.sl 39 (.pair .str (.pair .bool (.sl 3 (.int .i64)))))))) (g_Vs_l2Copy_0 a0 a1),.int .i64 a1],[])
 | _ => none
theorem vs_l2Copy (a0:List (Int×(Int×((List ByteArray)×(List (ByteArray×(Bool×(List Int)))))))) (a1:Int):collapseH .std Es_l2Copy Os_l2Copy_1 (execFn Es_l2Copy Tryz.f164 mss_l2Copy [.val true [.sl .any 72 (.pair (.int .i64) (.pair (.int .i64) (.pair (.sl 9 .str) (.sl 39 (.pair .str (.pair .bool (.sl 3 (.int .i64)))))))) a0,.int .i64 a1]]) = some ((g_As_l2Copy a0 a1),.val true [.own .any true 72 (.pair (.int .i64) (.pair (.int .i64) (.pair (.sl 9 .str) (.sl 39 (.pair .str (.pair .bool (.sl 3 (.int .i64)))))))) (g_Vs_l2Copy_0 a0 a1),.int .i64 a1],[]) := by kernel_rfl
theorem ss_l2Copy:Sound Tryz.prog 164 mss_l2Copy Fs_l2Copy := by
 refine fn_gen goods_l2Copy (by kernel_rfl) .std (fn := Tryz.f164) (c := (Tryz.f164.body.getD .skip)) (o := Os_l2Copy_1) (k := 1) (by kernel_rfl) (by kernel_rfl) (by kernel_rfl) (by kernel_rfl) (by decide) ks_l2Copy_1 ?_
 intro ys r outs h
 unfold Fs_l2Copy at h
 split at h
 ·exact (vs_l2Copy _ _).trans h
 ·cases h
noncomputable def Es_DiskAdd:Env where
 tt := mkTI Tryz.prog
 fn := fun f => match f with
  | 33 => some (mss_DiskOk,FSem.wk mss_DiskOk Fs_DiskOk)
  | 77 => some (mss_NoteOk,FSem.wk mss_NoteOk Fs_NoteOk)
  | 164 => some (mss_l2Copy,FSem.wk mss_l2Copy Fs_l2Copy)
  | 165 => some (mss_l2Note,FSem.wk mss_l2Note Fs_l2Note)
  | _ => none
 bxf := fun _ => none
 mv := []
 keep := fun _ => []
 keepB := fun _ => []
 keepX := fun _ => []
 keepXB := fun _ => []
theorem goodFs_DiskAdd:∀ f ms F,Es_DiskAdd.fn f = some (ms,F) → Sound Tryz.prog f ms F := fun f ms F h => by
 unfold Es_DiskAdd at h
 dsimp only at h
 split at h
 ·injection h with h; injection h with e1 e2; subst e1 e2; exact Sound.wk ss_DiskOk
 ·injection h with h; injection h with e1 e2; subst e1 e2; exact Sound.wk ss_NoteOk
 ·injection h with h; injection h with e1 e2; subst e1 e2; exact Sound.wk ss_l2Copy
 ·injection h with h; injection h with e1 e2; subst e1 e2; exact Sound.wk ss_l2Note
 ·cases h
theorem goodBs_DiskAdd:∀ f ms F,Es_DiskAdd.bxf f = some (ms,F) → SoundB Tryz.prog f ms F := fun f ms F h => by cases h
theorem goods_DiskAdd:Good Tryz.prog Es_DiskAdd := ⟨rfl,goodFs_DiskAdd,goodBs_DiskAdd⟩
noncomputable def Os_DiskAdd_0:Orc := fun _ _ => none
noncomputable def mss_DiskAdd:List PM := [.rd,.rd,.own]
noncomputable def lss_DiskAdd:List (Nat×Code) := loopsAll 0 (Tryz.f126.body.getD .skip)
theorem ks_DiskAdd_0:OrcOk Es_DiskAdd Os_DiskAdd_0 lss_DiskAdd 0 := orcOk_none
noncomputable def g_As_DiskAdd (a0:List (Int×(Int×((List ByteArray)×(List (ByteArray×(Bool×(List Int)))))))) (a1:Int) (a2:Int) (a3:Int) (a4:List ByteArray) (a5:List (ByteArray×(Bool×(List Int)))) (a6:Bool):Bool := g_As_DiskOk a0 a1&&(!g_Vs_DiskOk_0 a0 a1 || g_As_NoteOk a2 a3 a4 a5&&(!g_Vs_NoteOk_0 a2 a3 a4 a5 || g_As_l2Copy a0 a1&&((↑(List.length (g_Vs_l2Copy_0 a0 a1)):Int) == (120:Int) || g_As_l2Note a2 a3 a4 a5&&decide ((List.length (g_Vs_l2Copy_0 a0 a1) + List.length [(a2,a3,g_Vs_l2Note_0 a2 a3 a4 a5,g_Vs_l2Note_1 a2 a3 a4 a5)]) * nat_lit 64 ≤ nat_lit 140737488355328 ∧ List.length (g_Vs_l2Copy_0 a0 a1) + List.length [(a2,a3,g_Vs_l2Note_0 a2 a3 a4 a5,g_Vs_l2Note_1 a2 a3 a4 a5)] ≤ nat_lit 9223372036854775807))))
noncomputable def g_Vs_DiskAdd_0 (a0:List (Int×(Int×((List ByteArray)×(List (ByteArray×(Bool×(List Int)))))))) (a1:Int) (a2:Int) (a3:Int) (a4:List ByteArray) (a5:List (ByteArray×(Bool×(List Int)))) (a6:Bool):List (Int×(Int×((List ByteArray)×(List (ByteArray×(Bool×(List Int))))))) := bif !g_Vs_DiskOk_0 a0 a1 then [] else bif !g_Vs_NoteOk_0 a2 a3 a4 a5 then [] else bif (↑(List.length (g_Vs_l2Copy_0 a0 a1)):Int) == (120:Int) then g_Vs_l2Copy_0 a0 a1 else bif a6 then g_Vs_l2Copy_0 a0 a1 ++ [(a2,a3,g_Vs_l2Note_0 a2 a3 a4 a5,g_Vs_l2Note_1 a2 a3 a4 a5)] else g_Vs_l2Copy_0 a0 a1 ++ [(a2,a3,g_Vs_l2Note_0 a2 a3 a4 a5,g_Vs_l2Note_1 a2 a3 a4 a5)]
noncomputable def g_Vs_DiskAdd_1 (a0:List (Int×(Int×((List ByteArray)×(List (ByteArray×(Bool×(List Int)))))))) (a1:Int) (a2:Int) (a3:Int) (a4:List ByteArray) (a5:List (ByteArray×(Bool×(List Int)))) (a6:Bool):Int := bif !g_Vs_DiskOk_0 a0 a1 then (0:Int) else bif !g_Vs_NoteOk_0 a2 a3 a4 a5 then (0:Int) else bif (↑(List.length (g_Vs_l2Copy_0 a0 a1)):Int) == (120:Int) then a1 else bif a6 then (↑(List.length (g_Vs_l2Copy_0 a0 a1 ++ [(a2,a3,g_Vs_l2Note_0 a2 a3 a4 a5,g_Vs_l2Note_1 a2 a3 a4 a5)])):Int) else a1
noncomputable def g_Vs_DiskAdd_2 (a0:List (Int×(Int×((List ByteArray)×(List (ByteArray×(Bool×(List Int)))))))) (a1:Int) (a2:Int) (a3:Int) (a4:List ByteArray) (a5:List (ByteArray×(Bool×(List Int)))) (a6:Bool):Bool := bif !g_Vs_DiskOk_0 a0 a1 then false else bif !g_Vs_NoteOk_0 a2 a3 a4 a5 then false else bif (↑(List.length (g_Vs_l2Copy_0 a0 a1)):Int) == (120:Int) then false else bif a6 then true else true
noncomputable def Fs_DiskAdd:FSem := fun ys => match ys with
 | [.val true [.sl .any 72 (.pair (.int .i64) (.pair (.int .i64) (.pair (.sl 9 .str) (.sl 39 (.pair .str (.pair .bool (.sl 3 (.int .i64)))))))) a0,.int .i64 a1],.val true [.int .i64 a2,.int .i64 a3,.sl .any 9 .str a4,.sl .any 39 (.pair .str (.pair .bool (.sl 3 (.int .i64)))) a5],.val false [.bool a6]] => some ((g_As_DiskAdd a0 a1 a2 a3 a4 a5 a6),.tup [(true,[.own .any true 72 (.pair (.int .i64) (.pair (.int .i64) (.pair (.sl 9 .str) (.sl 39 (.pair .str (.pair .bool (.sl 3 (.int .i64)))))))) (g_Vs_DiskAdd_0 a0 a1 a2 a3 a4 a5 a6),.int .i64 (g_Vs_DiskAdd_1 a0 a1 a2 a3 a4 a5 a6)]),(false,[.bool (g_Vs_DiskAdd_2 a0 a1 a2 a3 a4 a5 a6)])],[])
 | _ => none
theorem vs_DiskAdd (a0:List (Int×(Int×((List ByteArray)×(List (ByteArray×(Bool×(List Int)))))))) (a1:Int) (a2:Int) (a3:Int) (a4:List ByteArray) (a5:List (ByteArray×(Bool×(List Int)))) (a6:Bool):collapseH .std Es_DiskAdd Os_DiskAdd_0 (execFn Es_DiskAdd Tryz.f126 mss_DiskAdd [.val true [.sl .any 72 (.pair (.int .i64) (.pair (.int .i64) (.pair (.sl 9 .str) (.sl 39 (.pair .str (.pair .bool (.sl 3 (.int .i64)))))))) a0,.int .i64 a1],.val true [.int .i64 a2,.int .i64 a3,.sl .any 9 .str a4,.sl .any 39 (.pair .str (.pair .bool (.sl 3 (.int .i64)))) a5],.val false [.bool a6]]) = some ((g_As_DiskAdd a0 a1 a2 a3 a4 a5 a6),.tup [(true,[.own .any true 72 (.pair (.int .i64) (.pair (.int .i64) (.pair (.sl 9 .str) (.sl 39 (.pair .str (.pair .bool (.sl 3 (.int .i64)))))))) (g_Vs_DiskAdd_0 a0 a1 a2 a3 a4 a5 a6),.int .i64 (g_Vs_DiskAdd_1 a0 a1 a2 a3 a4 a5 a6)]),(false,[.bool (g_Vs_DiskAdd_2 a0 a1 a2 a3 a4 a5 a6)])],[]) := by kernel_rfl
theorem ss_DiskAdd:Sound Tryz.prog 126 mss_DiskAdd Fs_DiskAdd := by
 refine fn_gen goods_DiskAdd (by kernel_rfl) .std (fn := Tryz.f126) (c := (Tryz.f126.body.getD .skip)) (o := Os_DiskAdd_0) (k := 0) (by kernel_rfl) (by kernel_rfl) (by kernel_rfl) (by kernel_rfl) (by decide) ks_DiskAdd_0 ?_
 intro ys r outs h
 unfold Fs_DiskAdd at h
 split at h
 ·exact (vs_DiskAdd _ _ _ _ _ _ _).trans h
 ·cases h
noncomputable def Es_l20Rd_pick0:Env where
 tt := mkTI Tryz.prog
 fn := fun _ => none
 bxf := fun _ => none
 mv := []
 keep := fun _ => []
 keepB := fun _ => []
 keepX := fun _ => []
 keepXB := fun _ => []
theorem goodFs_l20Rd_pick0:∀ f ms F,Es_l20Rd_pick0.fn f = some (ms,F) → Sound Tryz.prog f ms F := fun f ms F h => by cases h
theorem goodBs_l20Rd_pick0:∀ f ms F,Es_l20Rd_pick0.bxf f = some (ms,F) → SoundB Tryz.prog f ms F := fun f ms F h => by cases h
theorem goods_l20Rd_pick0:Good Tryz.prog Es_l20Rd_pick0 := ⟨rfl,goodFs_l20Rd_pick0,goodBs_l20Rd_pick0⟩
noncomputable def Os_l20Rd_pick0_0:Orc := fun _ _ => none
noncomputable def mss_l20Rd_pick0:List PM := [.bx,.own]
noncomputable def lss_l20Rd_pick0:List (Nat×Code) := loopsAll 0 (Tryz.f42.body.getD .skip)
theorem ks_l20Rd_pick0_0:OrcOk Es_l20Rd_pick0 Os_l20Rd_pick0_0 lss_l20Rd_pick0 0 := orcOk_none
noncomputable def g_As_l20Rd_pick0 (r0:List Int) (r1:Int) (a2:Int):Bool := decide (a2 < (1:Int)) || ((↑(List.length r0):Int) == (0:Int) || bif decide (IntKind.wrap IntKind.i64 (IntKind.wrap IntKind.i64 (r1 + (1:Int)) - (1:Int)) < (↑(List.length r0):Int)) then decide ((0:Int) ≤ IntKind.wrap IntKind.i64 (IntKind.wrap IntKind.i64 (r1 + (1:Int)) - (1:Int)) ∧ IntKind.wrap IntKind.i64 (IntKind.wrap IntKind.i64 (r1 + (1:Int)) - (1:Int)) < (↑(List.length r0):Int))&&!a2 == (0:Int) else !(↑(List.length r0):Int) == (0:Int)&&(decide ((0:Int) ≤ Int.tmod (IntKind.wrap IntKind.i64 (IntKind.wrap IntKind.i64 (r1 + (1:Int)) - (1:Int))) (↑(List.length r0):Int) ∧ Int.tmod (IntKind.wrap IntKind.i64 (IntKind.wrap IntKind.i64 (r1 + (1:Int)) - (1:Int))) (↑(List.length r0):Int) < (↑(List.length r0):Int))&&(!(↑(List.length r0):Int) == (0:Int)&&(decide ((0:Int) ≤ Int.tmod (IntKind.wrap IntKind.i64 (IntKind.wrap IntKind.i64 (IntKind.wrap IntKind.i64 (IntKind.wrap IntKind.i64 (r1 + (1:Int)) - (1:Int)) * (7:Int)) + (3:Int))) (↑(List.length r0):Int) ∧ Int.tmod (IntKind.wrap IntKind.i64 (IntKind.wrap IntKind.i64 (IntKind.wrap IntKind.i64 (IntKind.wrap IntKind.i64 (r1 + (1:Int)) - (1:Int)) * (7:Int)) + (3:Int))) (↑(List.length r0):Int) < (↑(List.length r0):Int))&&(!(↑(List.length r0):Int) == (0:Int)&&!a2 == (0:Int))))))
noncomputable def g_Vs_l20Rd_pick0_0 (r0:List Int) (r1:Int) (a2:Int):Int := bif decide (a2 < (1:Int)) then (0:Int) else bif (↑(List.length r0):Int) == (0:Int) then (0:Int) else bif decide (IntKind.wrap IntKind.i64 (IntKind.wrap IntKind.i64 (r1 + (1:Int)) - (1:Int)) < (↑(List.length r0):Int)) then Int.tmod (IntKind.wrap IntKind.i64 (at_ (Ty.int IntKind.u8) r0 (Int.toNat (IntKind.wrap IntKind.i64 (IntKind.wrap IntKind.i64 (r1 + (1:Int)) - (1:Int)))))) a2 else Int.tmod (IntKind.wrap IntKind.i64 (↑(BitVec.toNat (BitVec.ofInt (nat_lit 64) (IntKind.wrap IntKind.i64 (IntKind.wrap IntKind.i64 (IntKind.wrap IntKind.i64 (IntKind.wrap IntKind.i64 (IntKind.wrap IntKind.i64 (at_ (Ty.int IntKind.u8) r0 (Int.toNat (Int.tmod (IntKind.wrap IntKind.i64 (IntKind.wrap IntKind.i64 (r1 + (1:Int)) - (1:Int))) (↑(List.length r0):Int)))) * (131:Int)) + IntKind.wrap IntKind.i64 (IntKind.wrap IntKind.i64 (at_ (Ty.int IntKind.u8) r0 (Int.toNat (Int.tmod (IntKind.wrap IntKind.i64 (IntKind.wrap IntKind.i64 (IntKind.wrap IntKind.i64 (IntKind.wrap IntKind.i64 (r1 + (1:Int)) - (1:Int)) * (7:Int)) + (3:Int))) (↑(List.length r0):Int)))) * (1117:Int))) + IntKind.wrap IntKind.i64 (IntKind.wrap IntKind.i64 (IntKind.wrap IntKind.i64 (r1 + (1:Int)) - (1:Int)) * (29:Int))) + IntKind.wrap IntKind.i64 (IntKind.wrap IntKind.i64 (Int.tdiv (IntKind.wrap IntKind.i64 (IntKind.wrap IntKind.i64 (r1 + (1:Int)) - (1:Int))) (↑(List.length r0):Int)) * (53:Int)))) ^^^ BitVec.ofInt (nat_lit 64) (IntKind.wrap IntKind.i64 (Int.tdiv (IntKind.wrap IntKind.i64 (IntKind.wrap IntKind.i64 (IntKind.wrap IntKind.i64 (IntKind.wrap IntKind.i64 (IntKind.wrap IntKind.i64 (at_ (Ty.int IntKind.u8) r0 (Int.toNat (Int.tmod (IntKind.wrap IntKind.i64 (IntKind.wrap IntKind.i64 (r1 + (1:Int)) - (1:Int))) (↑(List.length r0):Int)))) * (131:Int)) + IntKind.wrap IntKind.i64 (IntKind.wrap IntKind.i64 (at_ (Ty.int IntKind.u8) r0 (Int.toNat (Int.tmod (IntKind.wrap IntKind.i64 (IntKind.wrap IntKind.i64 (IntKind.wrap IntKind.i64 (IntKind.wrap IntKind.i64 (r1 + (1:Int)) - (1:Int)) * (7:Int)) + (3:Int))) (↑(List.length r0):Int)))) * (1117:Int))) + IntKind.wrap IntKind.i64 (IntKind.wrap IntKind.i64 (IntKind.wrap IntKind.i64 (r1 + (1:Int)) - (1:Int)) * (29:Int))) + IntKind.wrap IntKind.i64 (IntKind.wrap IntKind.i64 (Int.tdiv (IntKind.wrap IntKind.i64 (IntKind.wrap IntKind.i64 (r1 + (1:Int)) - (1:Int))) (↑(List.length r0):Int)) * (53:Int)))) (64:Int))))):Int)) a2
noncomputable def g_Vs_l20Rd_pick0_1 (r0:List Int) (r1:Int) (a2:Int):List Int := bif decide (a2 < (1:Int)) then r0 else bif (↑(List.length r0):Int) == (0:Int) then r0 else bif decide (IntKind.wrap IntKind.i64 (IntKind.wrap IntKind.i64 (r1 + (1:Int)) - (1:Int)) < (↑(List.length r0):Int)) then r0 else r0
noncomputable def g_Vs_l20Rd_pick0_2 (r0:List Int) (r1:Int) (a2:Int):Int := bif decide (a2 < (1:Int)) then IntKind.wrap IntKind.i64 (r1 + (1:Int)) else bif (↑(List.length r0):Int) == (0:Int) then IntKind.wrap IntKind.i64 (r1 + (1:Int)) else bif decide (IntKind.wrap IntKind.i64 (IntKind.wrap IntKind.i64 (r1 + (1:Int)) - (1:Int)) < (↑(List.length r0):Int)) then IntKind.wrap IntKind.i64 (r1 + (1:Int)) else IntKind.wrap IntKind.i64 (r1 + (1:Int))
noncomputable def Fs_l20Rd_pick0:FSem := fun ys => match ys with
 | [.val true [.sl .any 5 (.int .u8) r0,.int .i64 r1],.val false [.int .i64 a2]] => some ((g_As_l20Rd_pick0 r0 r1 a2),.val false [.int .i64 (g_Vs_l20Rd_pick0_0 r0 r1 a2)],[[.sl .any 5 (.int .u8) (g_Vs_l20Rd_pick0_1 r0 r1 a2),.int .i64 (g_Vs_l20Rd_pick0_2 r0 r1 a2)]])
 | _ => none
theorem vs_l20Rd_pick0 (r0:List Int) (r1:Int) (a2:Int):collapseH .std Es_l20Rd_pick0 Os_l20Rd_pick0_0 (execFn Es_l20Rd_pick0 Tryz.f42 mss_l20Rd_pick0 [.val true [.sl .any 5 (.int .u8) r0,.int .i64 r1],.val false [.int .i64 a2]]) = some ((g_As_l20Rd_pick0 r0 r1 a2),.val false [.int .i64 (g_Vs_l20Rd_pick0_0 r0 r1 a2)],[[.sl .any 5 (.int .u8) (g_Vs_l20Rd_pick0_1 r0 r1 a2),.int .i64 (g_Vs_l20Rd_pick0_2 r0 r1 a2)]]) := by kernel_rfl
theorem ss_l20Rd_pick0:Sound Tryz.prog 42 mss_l20Rd_pick0 Fs_l20Rd_pick0 := by
 refine fn_gen goods_l20Rd_pick0 (by kernel_rfl) .std (fn := Tryz.f42) (c := (Tryz.f42.body.getD .skip)) (o := Os_l20Rd_pick0_0) (k := 0) (by kernel_rfl) (by kernel_rfl) (by kernel_rfl) (by kernel_rfl) (by decide) ks_l20Rd_pick0_0 ?_
 intro ys r outs h
 unfold Fs_l20Rd_pick0 at h
 split at h
 ·exact (vs_l20Rd_pick0 _ _ _).trans h
 ·cases h
noncomputable def mss_l20Rd_pick:List PM := mss_l20Rd_pick0
noncomputable def g_pick (r0:List Int) (r1:Int) (n:Int):Int := g_Vs_l20Rd_pick0_0 r0 r1 n
noncomputable def g_pickA (r0:List Int) (r1:Int) (n:Int):Bool := g_As_l20Rd_pick0 r0 r1 n
noncomputable def Fs_l20Rd_pick:FSem := fun ys => match ys with
 | [.val true [.sl .any 5 (.int .u8) r0,.int .i64 r1],.val false [.int .i64 a2]] => some (g_pickA r0 r1 a2,.val false [.int .i64 (g_pick r0 r1 a2)],[[.sl .any 5 (.int .u8) r0,.int .i64 (IntKind.wrap .i64 (r1 + 1))]])
 | _ => none
theorem ss_l20Rd_pick:Sound Tryz.prog 42 mss_l20Rd_pick Fs_l20Rd_pick := by
 refine ⟨ss_l20Rd_pick0.fn,fun w S ψ ys vs r outs hF hh hg => ss_l20Rd_pick0.calls w S ψ ys vs r outs (Eq.trans ?_ hF) hh hg⟩
 unfold Fs_l20Rd_pick at hF ⊢
 split at hF
 ·rename_i r0 r1 a2
  have e1:g_Vs_l20Rd_pick0_1 r0 r1 a2 = r0 := by unfold g_Vs_l20Rd_pick0_1; generalize decide (a2 < (1:Int)) = p; generalize ((r0.length:Int) == (0:Int)) = q; cases p <;> cases q <;> simp
  have e2:g_Vs_l20Rd_pick0_2 r0 r1 a2 = IntKind.wrap .i64 (r1 + 1) := by unfold g_Vs_l20Rd_pick0_2; generalize decide (a2 < (1:Int)) = p; generalize ((r0.length:Int) == (0:Int)) = q; cases p <;> cases q <;> simp
  show some (g_As_l20Rd_pick0 r0 r1 a2,RV.val false [Cell.int .i64 (g_Vs_l20Rd_pick0_0 r0 r1 a2)],[[Cell.sl .any 5 (.int .u8) (g_Vs_l20Rd_pick0_1 r0 r1 a2),Cell.int .i64 (g_Vs_l20Rd_pick0_2 r0 r1 a2)]]) = _
  rw [e1,e2]
  rfl
 ·cases hF
noncomputable def Es_l20Rd_odd:Env where
 tt := mkTI Tryz.prog
 fn := fun f => match f with
  | 42 => some (mss_l20Rd_pick,FSem.wk mss_l20Rd_pick Fs_l20Rd_pick)
  | _ => none
 bxf := fun _ => none
 mv := []
 keep := fun _ => []
 keepB := fun _ => []
 keepX := fun _ => []
 keepXB := fun _ => []
theorem goodFs_l20Rd_odd:∀ f ms F,Es_l20Rd_odd.fn f = some (ms,F) → Sound Tryz.prog f ms F := fun f ms F h => by
 unfold Es_l20Rd_odd at h
 dsimp only at h
 split at h
 ·injection h with h; injection h with e1 e2; subst e1 e2; exact Sound.wk ss_l20Rd_pick
 ·cases h
theorem goodBs_l20Rd_odd:∀ f ms F,Es_l20Rd_odd.bxf f = some (ms,F) → SoundB Tryz.prog f ms F := fun f ms F h => by cases h
theorem goods_l20Rd_odd:Good Tryz.prog Es_l20Rd_odd := ⟨rfl,goodFs_l20Rd_odd,goodBs_l20Rd_odd⟩
noncomputable def Os_l20Rd_odd_0:Orc := fun _ _ => none
noncomputable def mss_l20Rd_odd:List PM := [.bx,.own]
noncomputable def lss_l20Rd_odd:List (Nat×Code) := loopsAll 0 (Tryz.f43.body.getD .skip)
theorem ks_l20Rd_odd_0:OrcOk Es_l20Rd_odd Os_l20Rd_odd_0 lss_l20Rd_odd 0 := orcOk_none
noncomputable def g_As_l20Rd_odd (r0:List Int) (r1:Int) (a2:Int):Bool := !decide (a2 > (0:Int)) || g_pickA r0 r1 a2&&true
noncomputable def g_Vs_l20Rd_odd_0 (r0:List Int) (r1:Int) (a2:Int):Bool := bif decide (a2 > (0:Int)) then g_pick r0 r1 a2 == IntKind.wrap IntKind.i64 (a2 - (1:Int)) else false
noncomputable def g_Vs_l20Rd_odd_1 (r0:List Int) (r1:Int) (a2:Int):List Int := bif decide (a2 > (0:Int)) then r0 else r0
noncomputable def g_Vs_l20Rd_odd_2 (r0:List Int) (r1:Int) (a2:Int):Int := bif decide (a2 > (0:Int)) then IntKind.wrap IntKind.i64 (r1 + (1:Int)) else r1
noncomputable def Fs_l20Rd_odd:FSem := fun ys => match ys with
 | [.val true [.sl .any 5 (.int .u8) r0,.int .i64 r1],.val false [.int .i64 a2]] => some ((g_As_l20Rd_odd r0 r1 a2),.val false [.bool (g_Vs_l20Rd_odd_0 r0 r1 a2)],[[.sl .any 5 (.int .u8) (g_Vs_l20Rd_odd_1 r0 r1 a2),.int .i64 (g_Vs_l20Rd_odd_2 r0 r1 a2)]])
 | _ => none
theorem vs_l20Rd_odd (r0:List Int) (r1:Int) (a2:Int):collapseH .std Es_l20Rd_odd Os_l20Rd_odd_0 (execFn Es_l20Rd_odd Tryz.f43 mss_l20Rd_odd [.val true [.sl .any 5 (.int .u8) r0,.int .i64 r1],.val false [.int .i64 a2]]) = some ((g_As_l20Rd_odd r0 r1 a2),.val false [.bool (g_Vs_l20Rd_odd_0 r0 r1 a2)],[[.sl .any 5 (.int .u8) (g_Vs_l20Rd_odd_1 r0 r1 a2),.int .i64 (g_Vs_l20Rd_odd_2 r0 r1 a2)]]) := by kernel_rfl
theorem ss_l20Rd_odd:Sound Tryz.prog 43 mss_l20Rd_odd Fs_l20Rd_odd := by
 refine fn_gen goods_l20Rd_odd (by kernel_rfl) .std (fn := Tryz.f43) (c := (Tryz.f43.body.getD .skip)) (o := Os_l20Rd_odd_0) (k := 0) (by kernel_rfl) (by kernel_rfl) (by kernel_rfl) (by kernel_rfl) (by decide) ks_l20Rd_odd_0 ?_
 intro ys r outs h
 unfold Fs_l20Rd_odd at h
 split at h
 ·exact (vs_l20Rd_odd _ _ _).trans h
 ·cases h
noncomputable def mss_l20Rd_oddR:List PM := mss_l20Rd_odd
theorem sames_l20Rd_odd (r0:List Int) (r1:Int) (a2:Int):g_Vs_l20Rd_odd_1 r0 r1 a2 = r0 := by
 unfold g_Vs_l20Rd_odd_1
 simp only [Bool.cond_self]
noncomputable def Fs_l20Rd_oddR:FSem := fun ys => match ys with
 | [.val true [.sl .any 5 (.int .u8) r0,.int .i64 r1],.val false [.int .i64 a2]] => some ((g_As_l20Rd_odd r0 r1 a2),.val false [.bool (g_Vs_l20Rd_odd_0 r0 r1 a2)],[[.sl .any 5 (.int .u8) r0,.int .i64 (g_Vs_l20Rd_odd_2 r0 r1 a2)]])
 | _ => none
theorem ss_l20Rd_oddR:Sound Tryz.prog 43 mss_l20Rd_oddR Fs_l20Rd_oddR := by
 refine ⟨ss_l20Rd_odd.fn,fun w S ψ ys vs r outs hF hh hg => ss_l20Rd_odd.calls w S ψ ys vs r outs (Eq.trans ?_ hF) hh hg⟩
 unfold Fs_l20Rd_oddR at hF ⊢
 split at hF
 ·rename_i  r0 r1 a2
  show (some ((g_As_l20Rd_odd r0 r1 a2),.val false [.bool (g_Vs_l20Rd_odd_0 r0 r1 a2)],[[.sl .any 5 (.int .u8) (g_Vs_l20Rd_odd_1 r0 r1 a2),.int .i64 (g_Vs_l20Rd_odd_2 r0 r1 a2)]]):Option (Bool×RV×List (List Cell))) = _
  rw [sames_l20Rd_odd]
 ·cases hF
noncomputable def Es_l3Digit:Env where
 tt := mkTI Tryz.prog
 fn := fun _ => none
 bxf := fun _ => none
 mv := []
 keep := fun _ => []
 keepB := fun _ => []
 keepX := fun _ => []
 keepXB := fun _ => []
theorem goodFs_l3Digit:∀ f ms F,Es_l3Digit.fn f = some (ms,F) → Sound Tryz.prog f ms F := fun f ms F h => by cases h
theorem goodBs_l3Digit:∀ f ms F,Es_l3Digit.bxf f = some (ms,F) → SoundB Tryz.prog f ms F := fun f ms F h => by cases h
theorem goods_l3Digit:Good Tryz.prog Es_l3Digit := ⟨rfl,goodFs_l3Digit,goodBs_l3Digit⟩
noncomputable def Os_l3Digit_0:Orc := fun _ _ => none
noncomputable def mss_l3Digit:List PM := [.own]
noncomputable def lss_l3Digit:List (Nat×Code) := loopsAll 0 (Tryz.f147.body.getD .skip)
theorem ks_l3Digit_0:OrcOk Es_l3Digit Os_l3Digit_0 lss_l3Digit 0 := orcOk_none
noncomputable def g_Vs_l3Digit_0 (a0:Int):ByteArray := { data := List.toArray (List.map (fun n => UInt8.ofNat (Int.toNat n)) [IntKind.wrap IntKind.u8 (IntKind.wrap IntKind.i64 ((48:Int) + a0))]) }
noncomputable def Fs_l3Digit:FSem := fun ys => match ys with
 | [.val false [.int .i64 a0]] => some (true,.val false [.str (g_Vs_l3Digit_0 a0)],[])
 | _ => none
theorem vs_l3Digit (a0:Int):collapseH .std Es_l3Digit Os_l3Digit_0 (execFn Es_l3Digit Tryz.f147 mss_l3Digit [.val false [.int .i64 a0]]) = some (true,.val false [.str (g_Vs_l3Digit_0 a0)],[]) := by kernel_rfl
theorem ss_l3Digit:Sound Tryz.prog 147 mss_l3Digit Fs_l3Digit := by
 refine fn_gen goods_l3Digit (by kernel_rfl) .std (fn := Tryz.f147) (c := (Tryz.f147.body.getD .skip)) (o := Os_l3Digit_0) (k := 0) (by kernel_rfl) (by kernel_rfl) (by kernel_rfl) (by kernel_rfl) (by decide) ks_l3Digit_0 ?_
 intro ys r outs h
 unfold Fs_l3Digit at h
 split at h
 ·exact (vs_l3Digit _).trans h
 ·cases h
noncomputable def Es_l3Plain:Env where
 tt := mkTI Tryz.prog
 fn := fun f => match f with
  | 147 => some (mss_l3Digit,FSem.wk mss_l3Digit Fs_l3Digit)
  | _ => none
 bxf := fun _ => none
 mv := []
 keep := fun b => match b with
  | 0 => [(0,false),(3,false)]
  | _ => []
 keepB := fun b => match b with
  | 0 => []
  | _ => []
 keepX := fun b => match b with
  | 0 => [(0,false),(3,false)]
  | _ => []
 keepXB := fun b => match b with
  | 0 => []
  | _ => []
theorem goodFs_l3Plain:∀ f ms F,Es_l3Plain.fn f = some (ms,F) → Sound Tryz.prog f ms F := fun f ms F h => by
 unfold Es_l3Plain at h
 dsimp only at h
 split at h
 ·injection h with h; injection h with e1 e2; subst e1 e2; exact Sound.wk ss_l3Digit
 ·cases h
theorem goodBs_l3Plain:∀ f ms F,Es_l3Plain.bxf f = some (ms,F) → SoundB Tryz.prog f ms F := fun f ms F h => by cases h
theorem goods_l3Plain:Good Tryz.prog Es_l3Plain := ⟨rfl,goodFs_l3Plain,goodBs_l3Plain⟩
noncomputable def Os_l3Plain_0:Orc := fun _ _ => none
noncomputable def mss_l3Plain:List PM := [.own]
noncomputable def lss_l3Plain:List (Nat×Code) := loopsAll 0 (Tryz.f106.body.getD .skip)
noncomputable def cs_l3Plain_0:Code := (loopOf 0 (Tryz.f106.body.getD .skip)).getD .skip
theorem lseqs_l3Plain:lss_l3Plain = [(0,cs_l3Plain_0)] := by kernel_rfl
theorem ms_l3Plain_0:∀ p,p ∈ lss_l3Plain → p.1 = 0 → p.2 = cs_l3Plain_0 := by
 intro p hp
 rw [lseqs_l3Plain] at hp
 simp only [List.mem_cons,List.not_mem_nil,or_false] at hp
 subst hp; simp
theorem ks_l3Plain_0:OrcOk Es_l3Plain Os_l3Plain_0 lss_l3Plain 0 := orcOk_none
noncomputable def hs_l3Plain_0 (y0:Int) (y1:ByteArray):List (Pl×LV) := [(.T 0,.t (.val false [.int .i64 y0])),(.T 3,.t (.val false [.str y1]))]
noncomputable def g_Ss_l3Plain_0:(Int×ByteArray) → RT (Int×ByteArray) ((Int×ByteArray))
 | (y0,y1) => .br (true) (.br (decide (y0 > (9:Int))) (.br (true) (.br (true) (.br (decide (ByteArray.size (g_Vs_l3Digit_0 (Int.tmod y0 (10:Int))) + ByteArray.size y1 ≤ nat_lit 9223372036854775807)) (.br (true) (.go ((IntKind.wrap IntKind.i64 (Int.tdiv y0 (10:Int)),g_Vs_l3Digit_0 (Int.tmod y0 (10:Int)) ++ y1))) .bad) .bad) .bad) .bad) (.out ((y0,y1)))) .bad
noncomputable def g_Ls_l3Plain_0 (x:Int×ByteArray):Option ((Int×ByteArray)) := loopO (g_Ss_l3Plain_0) x
noncomputable def xs_l3Plain_0:((Int×ByteArray)) → Ex×List (Pl×LV) := fun r => (.exit 0,[(.T 0,.t (.val false [.int .i64 r.1])),(.T 3,.t (.val false [.str r.2]))])
noncomputable def Os_l3Plain_1:Orc := fun b h => match b,h with
 | 0,[(.T 0,.t (.val false [.int .i64 y0])),(.T 3,.t (.val false [.str y1]))] => some (okO (g_Ls_l3Plain_0 (y0,y1)),(.leaf (.exit 0) [(.T 0,.t (.val false [.int .i64 (valO (g_Ls_l3Plain_0 (y0,y1))).1])),(.T 3,.t (.val false [.str (valO (g_Ls_l3Plain_0 (y0,y1))).2]))]))
 | b,h => Os_l3Plain_0 b h
theorem bs_l3Plain_0 (y0:Int) (y1:ByteArray):Tr.bt Es_l3Plain Os_l3Plain_0 (exec Es_l3Plain 0 cs_l3Plain_0 (St.of (hs_l3Plain_0 y0 y1)) (leafRd Es_l3Plain 0)) = (g_Ss_l3Plain_0 (y0,y1)).bt (fun ((y0,y1):Int×ByteArray) => (hs_l3Plain_0 y0 y1)) (xs_l3Plain_0) := by kernel_rfl
theorem ks_l3Plain_1:OrcOk Es_l3Plain Os_l3Plain_1 lss_l3Plain 1 := orc_add ks_l3Plain_0 (fun n p hp h ex h' ho => by
 obtain ⟨b,c⟩ := p
 obtain ⟨xt,h1,h2⟩ := ho
 have h1:Os_l3Plain_1 b h = some (true,xt) := h1
 unfold Os_l3Plain_1 at h1
 split at h1
 ·injection h1 with h1
  injection h1 with e1 e2
  subst e2
  have hc:c = cs_l3Plain_0 := ms_l3Plain_0 _ hp rfl
  subst hc
  right
  rename_i y0 y1
  have key := LT_step ks_l3Plain_0 hp (fun q hq => loopsAll_in _ _ _ _ hp hq) (fun ((y0,y1):Int×ByteArray) => (hs_l3Plain_0 y0 y1)) (xs_l3Plain_0) (g_Ss_l3Plain_0) (fun x => by first | exact bs_l3Plain_0 x.1 x.2) n (x := (y0,y1)) (okO_some e1)
  have hx:∀ r,XT.sel (.leaf (.exit 0) [(.T 0,.t (.val false [.int .i64 r.1])),(.T 3,.t (.val false [.str r.2]))]) = xs_l3Plain_0 r := fun r => by first | rfl | (rcases r with r | r <;> rfl) | (rcases r with r | r | r <;> rfl) | (rcases r with r | r | r | r <;> rfl)
  have h3 := (hx (valO (g_Ls_l3Plain_0 (y0,y1)))).symm.trans h2
  have e3 := congrArg Prod.fst h3
  have e4 := congrArg Prod.snd h3
  simp only at e3 e4
  rw [← e3,← e4]
  exact key
 ·exact .inl ⟨xt,h1,h2⟩)
noncomputable def g_As_l3Plain (a0:Int):Bool := okO (g_Ls_l3Plain_0 (a0,lit []))&&decide (ByteArray.size (g_Vs_l3Digit_0 (valO (g_Ls_l3Plain_0 (a0,lit []))).1) + ByteArray.size (valO (g_Ls_l3Plain_0 (a0,lit []))).2 ≤ nat_lit 9223372036854775807)
noncomputable def g_Vs_l3Plain_0 (a0:Int):ByteArray := g_Vs_l3Digit_0 (valO (g_Ls_l3Plain_0 (a0,lit []))).1 ++ (valO (g_Ls_l3Plain_0 (a0,lit []))).2
noncomputable def Fs_l3Plain:FSem := fun ys => match ys with
 | [.val false [.int .i64 a0]] => some ((g_As_l3Plain a0),.val false [.str (g_Vs_l3Plain_0 a0)],[])
 | _ => none
theorem vs_l3Plain (a0:Int):collapseH .std Es_l3Plain Os_l3Plain_1 (execFn Es_l3Plain Tryz.f106 mss_l3Plain [.val false [.int .i64 a0]]) = some ((g_As_l3Plain a0),.val false [.str (g_Vs_l3Plain_0 a0)],[]) := by kernel_rfl
theorem ss_l3Plain:Sound Tryz.prog 106 mss_l3Plain Fs_l3Plain := by
 refine fn_gen goods_l3Plain (by kernel_rfl) .std (fn := Tryz.f106) (c := (Tryz.f106.body.getD .skip)) (o := Os_l3Plain_1) (k := 1) (by kernel_rfl) (by kernel_rfl) (by kernel_rfl) (by kernel_rfl) (by decide) ks_l3Plain_1 ?_
 intro ys r outs h
 unfold Fs_l3Plain at h
 split at h
 ·exact (vs_l3Plain _).trans h
 ·cases h
noncomputable def Es_l20Key:Env where
 tt := mkTI Tryz.prog
 fn := fun f => match f with
  | 42 => some (mss_l20Rd_pick,FSem.wk mss_l20Rd_pick Fs_l20Rd_pick)
  | 43 => some (mss_l20Rd_oddR,FSem.wk mss_l20Rd_oddR Fs_l20Rd_oddR)
  | 106 => some (mss_l3Plain,FSem.wk mss_l3Plain Fs_l3Plain)
  | _ => none
 bxf := fun _ => none
 mv := []
 keep := fun _ => []
 keepB := fun _ => []
 keepX := fun _ => []
 keepXB := fun _ => []
theorem goodFs_l20Key:∀ f ms F,Es_l20Key.fn f = some (ms,F) → Sound Tryz.prog f ms F := fun f ms F h => by
 unfold Es_l20Key at h
 dsimp only at h
 split at h
 ·injection h with h; injection h with e1 e2; subst e1 e2; exact Sound.wk ss_l20Rd_pick
 ·injection h with h; injection h with e1 e2; subst e1 e2; exact Sound.wk ss_l20Rd_oddR
 ·injection h with h; injection h with e1 e2; subst e1 e2; exact Sound.wk ss_l3Plain
 ·cases h
theorem goodBs_l20Key:∀ f ms F,Es_l20Key.bxf f = some (ms,F) → SoundB Tryz.prog f ms F := fun f ms F h => by cases h
theorem goods_l20Key:Good Tryz.prog Es_l20Key := ⟨rfl,goodFs_l20Key,goodBs_l20Key⟩
noncomputable def Os_l20Key_0:Orc := fun _ _ => none
noncomputable def mss_l20Key:List PM := [.bx,.own]
noncomputable def lss_l20Key:List (Nat×Code) := loopsAll 0 (Tryz.f166.body.getD .skip)
theorem ks_l20Key_0:OrcOk Es_l20Key Os_l20Key_0 lss_l20Key 0 := orcOk_none
noncomputable def g_As_l20Key (r0:List Int) (r1:Int) (a2:Int):Bool := g_pickA r0 r1 (5:Int)&&(decide ((0:Int) ≤ g_pick r0 r1 (5:Int) ∧ g_pick r0 r1 (5:Int) < (5:Int))&&(decide (Int.toNat (g_pick r0 r1 (5:Int)) < nat_lit 5)&&(g_pickA r0 (IntKind.wrap IntKind.i64 (r1 + (1:Int))) (4:Int)&&(g_pickA r0 (IntKind.wrap IntKind.i64 (IntKind.wrap IntKind.i64 (r1 + (1:Int)) + (1:Int))) (30:Int)&&(g_pickA r0 (IntKind.wrap IntKind.i64 (IntKind.wrap IntKind.i64 (IntKind.wrap IntKind.i64 (r1 + (1:Int)) + (1:Int)) + (1:Int))) (2:Int)&&(decide ((0:Int) ≤ g_pick r0 (IntKind.wrap IntKind.i64 (IntKind.wrap IntKind.i64 (IntKind.wrap IntKind.i64 (r1 + (1:Int)) + (1:Int)) + (1:Int))) (2:Int) ∧ g_pick r0 (IntKind.wrap IntKind.i64 (IntKind.wrap IntKind.i64 (IntKind.wrap IntKind.i64 (r1 + (1:Int)) + (1:Int)) + (1:Int))) (2:Int) < (↑(List.length [g_pick r0 (IntKind.wrap IntKind.i64 (r1 + (1:Int))) (4:Int),g_pick r0 (IntKind.wrap IntKind.i64 (IntKind.wrap IntKind.i64 (r1 + (1:Int)) + (1:Int))) (30:Int)]):Int))&&(decide (Int.toNat (g_pick r0 (IntKind.wrap IntKind.i64 (IntKind.wrap IntKind.i64 (IntKind.wrap IntKind.i64 (r1 + (1:Int)) + (1:Int)) + (1:Int))) (2:Int)) < List.length [g_pick r0 (IntKind.wrap IntKind.i64 (r1 + (1:Int))) (4:Int),g_pick r0 (IntKind.wrap IntKind.i64 (IntKind.wrap IntKind.i64 (r1 + (1:Int)) + (1:Int))) (30:Int)])&&(g_As_l3Plain (at_ (Ty.int IntKind.i64) [g_pick r0 (IntKind.wrap IntKind.i64 (r1 + (1:Int))) (4:Int),g_pick r0 (IntKind.wrap IntKind.i64 (IntKind.wrap IntKind.i64 (r1 + (1:Int)) + (1:Int))) (30:Int)] (Int.toNat (g_pick r0 (IntKind.wrap IntKind.i64 (IntKind.wrap IntKind.i64 (IntKind.wrap IntKind.i64 (r1 + (1:Int)) + (1:Int)) + (1:Int))) (2:Int))))&&(decide (ByteArray.size (at_ Ty.str [lit [(115:Nat)],lit [(99:Nat)],lit [(102:Nat)],lit [(117:Nat)],lit [(97:Nat)]] (Int.toNat (g_pick r0 r1 (5:Int)))) + ByteArray.size (g_Vs_l3Plain_0 (at_ (Ty.int IntKind.i64) [g_pick r0 (IntKind.wrap IntKind.i64 (r1 + (1:Int))) (4:Int),g_pick r0 (IntKind.wrap IntKind.i64 (IntKind.wrap IntKind.i64 (r1 + (1:Int)) + (1:Int))) (30:Int)] (Int.toNat (g_pick r0 (IntKind.wrap IntKind.i64 (IntKind.wrap IntKind.i64 (IntKind.wrap IntKind.i64 (r1 + (1:Int)) + (1:Int)) + (1:Int))) (2:Int))))) ≤ nat_lit 9223372036854775807)&&(g_As_l20Rd_odd r0 (IntKind.wrap IntKind.i64 (IntKind.wrap IntKind.i64 (IntKind.wrap IntKind.i64 (IntKind.wrap IntKind.i64 (r1 + (1:Int)) + (1:Int)) + (1:Int)) + (1:Int))) a2&&(!g_Vs_l20Rd_odd_0 r0 (IntKind.wrap IntKind.i64 (IntKind.wrap IntKind.i64 (IntKind.wrap IntKind.i64 (IntKind.wrap IntKind.i64 (r1 + (1:Int)) + (1:Int)) + (1:Int)) + (1:Int))) a2 || g_pickA r0 (g_Vs_l20Rd_odd_2 r0 (IntKind.wrap IntKind.i64 (IntKind.wrap IntKind.i64 (IntKind.wrap IntKind.i64 (IntKind.wrap IntKind.i64 (r1 + (1:Int)) + (1:Int)) + (1:Int)) + (1:Int))) a2) (6:Int)&&(decide ((0:Int) ≤ g_pick r0 (g_Vs_l20Rd_odd_2 r0 (IntKind.wrap IntKind.i64 (IntKind.wrap IntKind.i64 (IntKind.wrap IntKind.i64 (IntKind.wrap IntKind.i64 (r1 + (1:Int)) + (1:Int)) + (1:Int)) + (1:Int))) a2) (6:Int) ∧ g_pick r0 (g_Vs_l20Rd_odd_2 r0 (IntKind.wrap IntKind.i64 (IntKind.wrap IntKind.i64 (IntKind.wrap IntKind.i64 (IntKind.wrap IntKind.i64 (r1 + (1:Int)) + (1:Int)) + (1:Int)) + (1:Int))) a2) (6:Int) < (6:Int))&&decide (Int.toNat (g_pick r0 (g_Vs_l20Rd_odd_2 r0 (IntKind.wrap IntKind.i64 (IntKind.wrap IntKind.i64 (IntKind.wrap IntKind.i64 (IntKind.wrap IntKind.i64 (r1 + (1:Int)) + (1:Int)) + (1:Int)) + (1:Int))) a2) (6:Int)) < nat_lit 6)))))))))))))
noncomputable def g_Vs_l20Key_0 (r0:List Int) (r1:Int) (a2:Int):ByteArray := bif g_Vs_l20Rd_odd_0 r0 (IntKind.wrap IntKind.i64 (IntKind.wrap IntKind.i64 (IntKind.wrap IntKind.i64 (IntKind.wrap IntKind.i64 (r1 + (1:Int)) + (1:Int)) + (1:Int)) + (1:Int))) a2 then at_ Ty.str [lit [],lit [(115:Nat)],lit [(83:Nat),(49:Nat)],lit [(115:Nat),(49:Nat),(50:Nat),(51:Nat)],lit [(49:Nat),(115:Nat)],lit [(115:Nat),(97:Nat)]] (Int.toNat (g_pick r0 (g_Vs_l20Rd_odd_2 r0 (IntKind.wrap IntKind.i64 (IntKind.wrap IntKind.i64 (IntKind.wrap IntKind.i64 (IntKind.wrap IntKind.i64 (r1 + (1:Int)) + (1:Int)) + (1:Int)) + (1:Int))) a2) (6:Int))) else at_ Ty.str [lit [(115:Nat)],lit [(99:Nat)],lit [(102:Nat)],lit [(117:Nat)],lit [(97:Nat)]] (Int.toNat (g_pick r0 r1 (5:Int))) ++ g_Vs_l3Plain_0 (at_ (Ty.int IntKind.i64) [g_pick r0 (IntKind.wrap IntKind.i64 (r1 + (1:Int))) (4:Int),g_pick r0 (IntKind.wrap IntKind.i64 (IntKind.wrap IntKind.i64 (r1 + (1:Int)) + (1:Int))) (30:Int)] (Int.toNat (g_pick r0 (IntKind.wrap IntKind.i64 (IntKind.wrap IntKind.i64 (IntKind.wrap IntKind.i64 (r1 + (1:Int)) + (1:Int)) + (1:Int))) (2:Int))))
noncomputable def g_Vs_l20Key_1 (r0:List Int) (r1:Int) (a2:Int):List Int := bif g_Vs_l20Rd_odd_0 r0 (IntKind.wrap IntKind.i64 (IntKind.wrap IntKind.i64 (IntKind.wrap IntKind.i64 (IntKind.wrap IntKind.i64 (r1 + (1:Int)) + (1:Int)) + (1:Int)) + (1:Int))) a2 then r0 else r0
noncomputable def g_Vs_l20Key_2 (r0:List Int) (r1:Int) (a2:Int):Int := bif g_Vs_l20Rd_odd_0 r0 (IntKind.wrap IntKind.i64 (IntKind.wrap IntKind.i64 (IntKind.wrap IntKind.i64 (IntKind.wrap IntKind.i64 (r1 + (1:Int)) + (1:Int)) + (1:Int)) + (1:Int))) a2 then IntKind.wrap IntKind.i64 (g_Vs_l20Rd_odd_2 r0 (IntKind.wrap IntKind.i64 (IntKind.wrap IntKind.i64 (IntKind.wrap IntKind.i64 (IntKind.wrap IntKind.i64 (r1 + (1:Int)) + (1:Int)) + (1:Int)) + (1:Int))) a2 + (1:Int)) else g_Vs_l20Rd_odd_2 r0 (IntKind.wrap IntKind.i64 (IntKind.wrap IntKind.i64 (IntKind.wrap IntKind.i64 (IntKind.wrap IntKind.i64 (r1 + (1:Int)) + (1:Int)) + (1:Int)) + (1:Int))) a2
noncomputable def Fs_l20Key:FSem := fun ys => match ys with
 | [.val true [.sl .any 5 (.int .u8) r0,.int .i64 r1],.val false [.int .i64 a2]] => some ((g_As_l20Key r0 r1 a2),.val false [.str (g_Vs_l20Key_0 r0 r1 a2)],[[.sl .any 5 (.int .u8) (g_Vs_l20Key_1 r0 r1 a2),.int .i64 (g_Vs_l20Key_2 r0 r1 a2)]])
 | _ => none
theorem vs_l20Key (r0:List Int) (r1:Int) (a2:Int):collapseH .std Es_l20Key Os_l20Key_0 (execFn Es_l20Key Tryz.f166 mss_l20Key [.val true [.sl .any 5 (.int .u8) r0,.int .i64 r1],.val false [.int .i64 a2]]) = some ((g_As_l20Key r0 r1 a2),.val false [.str (g_Vs_l20Key_0 r0 r1 a2)],[[.sl .any 5 (.int .u8) (g_Vs_l20Key_1 r0 r1 a2),.int .i64 (g_Vs_l20Key_2 r0 r1 a2)]]) := by kernel_rfl
theorem ss_l20Key:Sound Tryz.prog 166 mss_l20Key Fs_l20Key := by
 refine fn_gen goods_l20Key (by kernel_rfl) .std (fn := Tryz.f166) (c := (Tryz.f166.body.getD .skip)) (o := Os_l20Key_0) (k := 0) (by kernel_rfl) (by kernel_rfl) (by kernel_rfl) (by kernel_rfl) (by decide) ks_l20Key_0 ?_
 intro ys r outs h
 unfold Fs_l20Key at h
 split at h
 ·exact (vs_l20Key _ _ _).trans h
 ·cases h
noncomputable def mss_l20KeyR:List PM := mss_l20Key
theorem sames_l20Key (r0:List Int) (r1:Int) (a2:Int):g_Vs_l20Key_1 r0 r1 a2 = r0 := by
 unfold g_Vs_l20Key_1
 simp only [Bool.cond_self]
noncomputable def Fs_l20KeyR:FSem := fun ys => match ys with
 | [.val true [.sl .any 5 (.int .u8) r0,.int .i64 r1],.val false [.int .i64 a2]] => some ((g_As_l20Key r0 r1 a2),.val false [.str (g_Vs_l20Key_0 r0 r1 a2)],[[.sl .any 5 (.int .u8) r0,.int .i64 (g_Vs_l20Key_2 r0 r1 a2)]])
 | _ => none
theorem ss_l20KeyR:Sound Tryz.prog 166 mss_l20KeyR Fs_l20KeyR := by
 refine ⟨ss_l20Key.fn,fun w S ψ ys vs r outs hF hh hg => ss_l20Key.calls w S ψ ys vs r outs (Eq.trans ?_ hF) hh hg⟩
 unfold Fs_l20KeyR at hF ⊢
 split at hF
 ·rename_i  r0 r1 a2
  show (some ((g_As_l20Key r0 r1 a2),.val false [.str (g_Vs_l20Key_0 r0 r1 a2)],[[.sl .any 5 (.int .u8) (g_Vs_l20Key_1 r0 r1 a2),.int .i64 (g_Vs_l20Key_2 r0 r1 a2)]]):Option (Bool×RV×List (List Cell))) = _
  rw [sames_l20Key]
 ·cases hF
noncomputable def Es_l20Val:Env where
 tt := mkTI Tryz.prog
 fn := fun f => match f with
  | 42 => some (mss_l20Rd_pick,FSem.wk mss_l20Rd_pick Fs_l20Rd_pick)
  | 43 => some (mss_l20Rd_oddR,FSem.wk mss_l20Rd_oddR Fs_l20Rd_oddR)
  | _ => none
 bxf := fun _ => none
 mv := []
 keep := fun b => match b with
  | 0 => [(0,false),(1,false),(5,false),(6,false)]
  | _ => []
 keepB := fun b => match b with
  | 0 => [(0,false)]
  | _ => []
 keepX := fun b => match b with
  | 0 => [(0,false),(1,false),(5,false)]
  | _ => []
 keepXB := fun b => match b with
  | 0 => [(0,false)]
  | _ => []
theorem goodFs_l20Val:∀ f ms F,Es_l20Val.fn f = some (ms,F) → Sound Tryz.prog f ms F := fun f ms F h => by
 unfold Es_l20Val at h
 dsimp only at h
 split at h
 ·injection h with h; injection h with e1 e2; subst e1 e2; exact Sound.wk ss_l20Rd_pick
 ·injection h with h; injection h with e1 e2; subst e1 e2; exact Sound.wk ss_l20Rd_oddR
 ·cases h
theorem goodBs_l20Val:∀ f ms F,Es_l20Val.bxf f = some (ms,F) → SoundB Tryz.prog f ms F := fun f ms F h => by cases h
theorem goods_l20Val:Good Tryz.prog Es_l20Val := ⟨rfl,goodFs_l20Val,goodBs_l20Val⟩
noncomputable def Os_l20Val_0:Orc := fun _ _ => none
noncomputable def mss_l20Val:List PM := [.bx,.own]
noncomputable def lss_l20Val:List (Nat×Code) := loopsAll 0 (Tryz.f90.body.getD .skip)
noncomputable def cs_l20Val_0:Code := (loopOf 0 (Tryz.f90.body.getD .skip)).getD .skip
theorem lseqs_l20Val:lss_l20Val = [(0,cs_l20Val_0)] := by kernel_rfl
theorem ms_l20Val_0:∀ p,p ∈ lss_l20Val → p.1 = 0 → p.2 = cs_l20Val_0 := by
 intro p hp
 rw [lseqs_l20Val] at hp
 simp only [List.mem_cons,List.not_mem_nil,or_false] at hp
 subst hp; simp
theorem ks_l20Val_0:OrcOk Es_l20Val Os_l20Val_0 lss_l20Val 0 := orcOk_none
noncomputable def hs_l20Val_0 (y0:Int) (y1:List Int) (y2:Int) (y3:List Int) (y4:Int):List (Pl×LV) := [(.T 0,.t (.val false [.ptr 0 0 0])),(.T 1,.t (.val false [.int .i64 y0])),(.T 5,.t (.val false [.row 5 0 0])),(.R 5 0,.r 0 (some ⟨false,.non,true,3,(.int .i64),y1⟩)),(.T 6,.t (.val false [.int .i64 y2])),(.B 0,.b 0 false [.sl .any 5 (.int .u8) y3,.int .i64 y4])]
noncomputable def g_Ss_l20Val_0 (y0:Int) (y3:List Int):((List Int)×Int×Int) → RT ((List Int)×Int×Int) (((List Int)×Int))
 | (y1,y2,y4) => .br (true) (.br (decide (y2 > (0:Int))) (.br (g_pickA y3 y4 (12:Int)) (.br (decide ((List.length y1 + List.length [g_pick y3 y4 (12:Int)]) * nat_lit 8 ≤ nat_lit 140737488355328 ∧ List.length y1 + List.length [g_pick y3 y4 (12:Int)] ≤ nat_lit 9223372036854775807)) (.br (true) (.go ((y1 ++ [g_pick y3 y4 (12:Int)],IntKind.wrap IntKind.i64 (y2 - (1:Int)),IntKind.wrap IntKind.i64 (y4 + (1:Int))))) .bad) .bad) .bad) (.out ((y1,y4)))) .bad
noncomputable def g_Ls_l20Val_0 (y0:Int) (y3:List Int) (x:(List Int)×Int×Int):Option (((List Int)×Int)) := loopO (g_Ss_l20Val_0 y0 y3) x
noncomputable def xs_l20Val_0 (y0:Int) (y3:List Int):(((List Int)×Int)) → Ex×List (Pl×LV) := fun r => (.exit 0,[(.T 0,.t (.val false [.ptr 0 0 0])),(.T 1,.t (.val false [.int .i64 y0])),(.T 5,.t (.val false [.row 5 0 0])),(.R 5 0,.r 0 (some ⟨false,.non,true,3,(.int .i64),r.1⟩)),(.B 0,.b 0 false [.sl .any 5 (.int .u8) y3,.int .i64 r.2])])
noncomputable def Os_l20Val_1:Orc := fun b h => match b,h with
 | 0,[(.T 0,.t (.val false [.ptr 0 0 0])),(.T 1,.t (.val false [.int .i64 y0])),(.T 5,.t (.val false [.row 5 0 0])),(.R 5 0,.r 0 (some ⟨false,.non,true,3,(.int .i64),y1⟩)),(.T 6,.t (.val false [.int .i64 y2])),(.B 0,.b 0 false [.sl .any 5 (.int .u8) y3,.int .i64 y4])] => some (okO (g_Ls_l20Val_0 y0 y3 (y1,y2,y4)),(.leaf (.exit 0) [(.T 0,.t (.val false [.ptr 0 0 0])),(.T 1,.t (.val false [.int .i64 y0])),(.T 5,.t (.val false [.row 5 0 0])),(.R 5 0,.r 0 (some ⟨false,.non,true,3,(.int .i64),(valO (g_Ls_l20Val_0 y0 y3 (y1,y2,y4))).1⟩)),(.B 0,.b 0 false [.sl .any 5 (.int .u8) y3,.int .i64 (valO (g_Ls_l20Val_0 y0 y3 (y1,y2,y4))).2])]))
 | b,h => Os_l20Val_0 b h
theorem bs_l20Val_0 (y0:Int) (y1:List Int) (y2:Int) (y3:List Int) (y4:Int):Tr.bt Es_l20Val Os_l20Val_0 (exec Es_l20Val 0 cs_l20Val_0 (St.of (hs_l20Val_0 y0 y1 y2 y3 y4)) (leafRd Es_l20Val 0)) = (g_Ss_l20Val_0 y0 y3 (y1,y2,y4)).bt (fun ((y1,y2,y4):(List Int)×Int×Int) => (hs_l20Val_0 y0 y1 y2 y3 y4)) (xs_l20Val_0 y0 y3) := by kernel_rfl
theorem ks_l20Val_1:OrcOk Es_l20Val Os_l20Val_1 lss_l20Val 1 := orc_add ks_l20Val_0 (fun n p hp h ex h' ho => by
 obtain ⟨b,c⟩ := p
 obtain ⟨xt,h1,h2⟩ := ho
 have h1:Os_l20Val_1 b h = some (true,xt) := h1
 unfold Os_l20Val_1 at h1
 split at h1
 ·injection h1 with h1
  injection h1 with e1 e2
  subst e2
  have hc:c = cs_l20Val_0 := ms_l20Val_0 _ hp rfl
  subst hc
  right
  rename_i y0 y1 y2 y3 y4
  have key := LT_step ks_l20Val_0 hp (fun q hq => loopsAll_in _ _ _ _ hp hq) (fun ((y1,y2,y4):(List Int)×Int×Int) => (hs_l20Val_0 y0 y1 y2 y3 y4)) (xs_l20Val_0 y0 y3) (g_Ss_l20Val_0 y0 y3) (fun x => by first | exact bs_l20Val_0 y0 x.1 x.2.1 y3 x.2.2) n (x := (y1,y2,y4)) (okO_some e1)
  have hx:∀ r,XT.sel (.leaf (.exit 0) [(.T 0,.t (.val false [.ptr 0 0 0])),(.T 1,.t (.val false [.int .i64 y0])),(.T 5,.t (.val false [.row 5 0 0])),(.R 5 0,.r 0 (some ⟨false,.non,true,3,(.int .i64),r.1⟩)),(.B 0,.b 0 false [.sl .any 5 (.int .u8) y3,.int .i64 r.2])]) = xs_l20Val_0 y0 y3 r := fun r => by first | rfl | (rcases r with r | r <;> rfl) | (rcases r with r | r | r <;> rfl) | (rcases r with r | r | r | r <;> rfl)
  have h3 := (hx (valO (g_Ls_l20Val_0 y0 y3 (y1,y2,y4)))).symm.trans h2
  have e3 := congrArg Prod.fst h3
  have e4 := congrArg Prod.snd h3
  simp only at e3 e4
  rw [← e3,← e4]
  exact key
 ·exact .inl ⟨xt,h1,h2⟩)
noncomputable def g_As_l20Val (r0:List Int) (r1:Int) (a2:Int):Bool := g_pickA r0 r1 (4:Int)&&(g_pickA r0 (IntKind.wrap IntKind.i64 (r1 + (1:Int))) (3:Int)&&(okO (g_Ls_l20Val_0 a2 r0 ([g_pick r0 r1 (4:Int)],g_pick r0 (IntKind.wrap IntKind.i64 (r1 + (1:Int))) (3:Int),IntKind.wrap IntKind.i64 (IntKind.wrap IntKind.i64 (r1 + (1:Int)) + (1:Int))))&&(g_As_l20Rd_odd r0 (valO (g_Ls_l20Val_0 a2 r0 ([g_pick r0 r1 (4:Int)],g_pick r0 (IntKind.wrap IntKind.i64 (r1 + (1:Int))) (3:Int),IntKind.wrap IntKind.i64 (IntKind.wrap IntKind.i64 (r1 + (1:Int)) + (1:Int))))).2 a2&&(!g_Vs_l20Rd_odd_0 r0 (valO (g_Ls_l20Val_0 a2 r0 ([g_pick r0 r1 (4:Int)],g_pick r0 (IntKind.wrap IntKind.i64 (r1 + (1:Int))) (3:Int),IntKind.wrap IntKind.i64 (IntKind.wrap IntKind.i64 (r1 + (1:Int)) + (1:Int))))).2 a2 || g_pickA r0 (g_Vs_l20Rd_odd_2 r0 (valO (g_Ls_l20Val_0 a2 r0 ([g_pick r0 r1 (4:Int)],g_pick r0 (IntKind.wrap IntKind.i64 (r1 + (1:Int))) (3:Int),IntKind.wrap IntKind.i64 (IntKind.wrap IntKind.i64 (r1 + (1:Int)) + (1:Int))))).2 a2) (4:Int)&&(decide ((0:Int) ≤ g_pick r0 (g_Vs_l20Rd_odd_2 r0 (valO (g_Ls_l20Val_0 a2 r0 ([g_pick r0 r1 (4:Int)],g_pick r0 (IntKind.wrap IntKind.i64 (r1 + (1:Int))) (3:Int),IntKind.wrap IntKind.i64 (IntKind.wrap IntKind.i64 (r1 + (1:Int)) + (1:Int))))).2 a2) (4:Int) ∧ g_pick r0 (g_Vs_l20Rd_odd_2 r0 (valO (g_Ls_l20Val_0 a2 r0 ([g_pick r0 r1 (4:Int)],g_pick r0 (IntKind.wrap IntKind.i64 (r1 + (1:Int))) (3:Int),IntKind.wrap IntKind.i64 (IntKind.wrap IntKind.i64 (r1 + (1:Int)) + (1:Int))))).2 a2) (4:Int) < (4:Int))&&decide (Int.toNat (g_pick r0 (g_Vs_l20Rd_odd_2 r0 (valO (g_Ls_l20Val_0 a2 r0 ([g_pick r0 r1 (4:Int)],g_pick r0 (IntKind.wrap IntKind.i64 (r1 + (1:Int))) (3:Int),IntKind.wrap IntKind.i64 (IntKind.wrap IntKind.i64 (r1 + (1:Int)) + (1:Int))))).2 a2) (4:Int)) < nat_lit 4))))))
noncomputable def g_Vs_l20Val_0 (r0:List Int) (r1:Int) (a2:Int):List Int := bif g_Vs_l20Rd_odd_0 r0 (valO (g_Ls_l20Val_0 a2 r0 ([g_pick r0 r1 (4:Int)],g_pick r0 (IntKind.wrap IntKind.i64 (r1 + (1:Int))) (3:Int),IntKind.wrap IntKind.i64 (IntKind.wrap IntKind.i64 (r1 + (1:Int)) + (1:Int))))).2 a2 then at_ (Ty.sl (nat_lit 3) (Ty.int IntKind.i64)) [[],[(-1:Int)],[(10000:Int)],[(1:Int),(2:Int),(3:Int),(4:Int)]] (Int.toNat (g_pick r0 (g_Vs_l20Rd_odd_2 r0 (valO (g_Ls_l20Val_0 a2 r0 ([g_pick r0 r1 (4:Int)],g_pick r0 (IntKind.wrap IntKind.i64 (r1 + (1:Int))) (3:Int),IntKind.wrap IntKind.i64 (IntKind.wrap IntKind.i64 (r1 + (1:Int)) + (1:Int))))).2 a2) (4:Int))) else (valO (g_Ls_l20Val_0 a2 r0 ([g_pick r0 r1 (4:Int)],g_pick r0 (IntKind.wrap IntKind.i64 (r1 + (1:Int))) (3:Int),IntKind.wrap IntKind.i64 (IntKind.wrap IntKind.i64 (r1 + (1:Int)) + (1:Int))))).1
noncomputable def g_Vs_l20Val_1 (r0:List Int) (r1:Int) (a2:Int):List Int := bif g_Vs_l20Rd_odd_0 r0 (valO (g_Ls_l20Val_0 a2 r0 ([g_pick r0 r1 (4:Int)],g_pick r0 (IntKind.wrap IntKind.i64 (r1 + (1:Int))) (3:Int),IntKind.wrap IntKind.i64 (IntKind.wrap IntKind.i64 (r1 + (1:Int)) + (1:Int))))).2 a2 then r0 else r0
noncomputable def g_Vs_l20Val_2 (r0:List Int) (r1:Int) (a2:Int):Int := bif g_Vs_l20Rd_odd_0 r0 (valO (g_Ls_l20Val_0 a2 r0 ([g_pick r0 r1 (4:Int)],g_pick r0 (IntKind.wrap IntKind.i64 (r1 + (1:Int))) (3:Int),IntKind.wrap IntKind.i64 (IntKind.wrap IntKind.i64 (r1 + (1:Int)) + (1:Int))))).2 a2 then IntKind.wrap IntKind.i64 (g_Vs_l20Rd_odd_2 r0 (valO (g_Ls_l20Val_0 a2 r0 ([g_pick r0 r1 (4:Int)],g_pick r0 (IntKind.wrap IntKind.i64 (r1 + (1:Int))) (3:Int),IntKind.wrap IntKind.i64 (IntKind.wrap IntKind.i64 (r1 + (1:Int)) + (1:Int))))).2 a2 + (1:Int)) else g_Vs_l20Rd_odd_2 r0 (valO (g_Ls_l20Val_0 a2 r0 ([g_pick r0 r1 (4:Int)],g_pick r0 (IntKind.wrap IntKind.i64 (r1 + (1:Int))) (3:Int),IntKind.wrap IntKind.i64 (IntKind.wrap IntKind.i64 (r1 + (1:Int)) + (1:Int))))).2 a2
noncomputable def Fs_l20Val:FSem := fun ys => match ys with
 | [.val true [.sl .any 5 (.int .u8) r0,.int .i64 r1],.val false [.int .i64 a2]] => some ((g_As_l20Val r0 r1 a2),.val false [.sl .any 3 (.int .i64) (g_Vs_l20Val_0 r0 r1 a2)],[[.sl .any 5 (.int .u8) (g_Vs_l20Val_1 r0 r1 a2),.int .i64 (g_Vs_l20Val_2 r0 r1 a2)]])
 | _ => none
theorem vs_l20Val (r0:List Int) (r1:Int) (a2:Int):collapseH .fr Es_l20Val Os_l20Val_1 (execFn Es_l20Val Tryz.f90 mss_l20Val [.val true [.sl .any 5 (.int .u8) r0,.int .i64 r1],.val false [.int .i64 a2]]) = some ((g_As_l20Val r0 r1 a2),.val false [.sl .any 3 (.int .i64) (g_Vs_l20Val_0 r0 r1 a2)],[[.sl .any 5 (.int .u8) (g_Vs_l20Val_1 r0 r1 a2),.int .i64 (g_Vs_l20Val_2 r0 r1 a2)]]) := by kernel_rfl
theorem ss_l20Val:Sound Tryz.prog 90 mss_l20Val Fs_l20Val := by
 refine fn_gen goods_l20Val (by kernel_rfl) .fr (fn := Tryz.f90) (c := (Tryz.f90.body.getD .skip)) (o := Os_l20Val_1) (k := 1) (by kernel_rfl) (by kernel_rfl) (by kernel_rfl) (by kernel_rfl) (by decide) ks_l20Val_1 ?_
 intro ys r outs h
 unfold Fs_l20Val at h
 split at h
 ·exact (vs_l20Val _ _ _).trans h
 ·cases h
noncomputable def mss_l20ValR:List PM := mss_l20Val
theorem sames_l20Val (r0:List Int) (r1:Int) (a2:Int):g_Vs_l20Val_1 r0 r1 a2 = r0 := by
 unfold g_Vs_l20Val_1
 simp only [Bool.cond_self]
noncomputable def Fs_l20ValR:FSem := fun ys => match ys with
 | [.val true [.sl .any 5 (.int .u8) r0,.int .i64 r1],.val false [.int .i64 a2]] => some ((g_As_l20Val r0 r1 a2),.val false [.sl .any 3 (.int .i64) (g_Vs_l20Val_0 r0 r1 a2)],[[.sl .any 5 (.int .u8) r0,.int .i64 (g_Vs_l20Val_2 r0 r1 a2)]])
 | _ => none
theorem ss_l20ValR:Sound Tryz.prog 90 mss_l20ValR Fs_l20ValR := by
 refine ⟨ss_l20Val.fn,fun w S ψ ys vs r outs hF hh hg => ss_l20Val.calls w S ψ ys vs r outs (Eq.trans ?_ hF) hh hg⟩
 unfold Fs_l20ValR at hF ⊢
 split at hF
 ·rename_i  r0 r1 a2
  show (some ((g_As_l20Val r0 r1 a2),.val false [.sl .any 3 (.int .i64) (g_Vs_l20Val_0 r0 r1 a2)],[[.sl .any 5 (.int .u8) (g_Vs_l20Val_1 r0 r1 a2),.int .i64 (g_Vs_l20Val_2 r0 r1 a2)]]):Option (Bool×RV×List (List Cell))) = _
  rw [sames_l20Val]
 ·cases hF
noncomputable def Es_l20Write:Env where
 tt := mkTI Tryz.prog
 fn := fun f => match f with
  | 42 => some (mss_l20Rd_pick,FSem.wk mss_l20Rd_pick Fs_l20Rd_pick)
  | 43 => some (mss_l20Rd_oddR,FSem.wk mss_l20Rd_oddR Fs_l20Rd_oddR)
  | 90 => some (mss_l20ValR,FSem.wk mss_l20ValR Fs_l20ValR)
  | 166 => some (mss_l20KeyR,FSem.wk mss_l20KeyR Fs_l20KeyR)
  | _ => none
 bxf := fun _ => none
 mv := []
 keep := fun _ => []
 keepB := fun _ => []
 keepX := fun _ => []
 keepXB := fun _ => []
theorem goodFs_l20Write:∀ f ms F,Es_l20Write.fn f = some (ms,F) → Sound Tryz.prog f ms F := fun f ms F h => by
 unfold Es_l20Write at h
 dsimp only at h
 split at h
 ·injection h with h; injection h with e1 e2; subst e1 e2; exact Sound.wk ss_l20Rd_pick
 ·injection h with h; injection h with e1 e2; subst e1 e2; exact Sound.wk ss_l20Rd_oddR
 ·injection h with h; injection h with e1 e2; subst e1 e2; exact Sound.wk ss_l20ValR
 ·injection h with h; injection h with e1 e2; subst e1 e2; exact Sound.wk ss_l20KeyR
 ·cases h
theorem goodBs_l20Write:∀ f ms F,Es_l20Write.bxf f = some (ms,F) → SoundB Tryz.prog f ms F := fun f ms F h => by cases h
theorem goods_l20Write:Good Tryz.prog Es_l20Write := ⟨rfl,goodFs_l20Write,goodBs_l20Write⟩
noncomputable def Os_l20Write_0:Orc := fun _ _ => none
noncomputable def mss_l20Write:List PM := [.bx,.own]
noncomputable def lss_l20Write:List (Nat×Code) := loopsAll 0 (Tryz.f140.body.getD .skip)
theorem ks_l20Write_0:OrcOk Es_l20Write Os_l20Write_0 lss_l20Write 0 := orcOk_none
noncomputable def g_As_l20Write (r0:List Int) (r1:Int) (a2:Int):Bool := g_As_l20Key r0 r1 a2&&(g_pickA r0 (g_Vs_l20Key_2 r0 r1 a2) (3:Int)&&bif g_pick r0 (g_Vs_l20Key_2 r0 r1 a2) (3:Int) == (0:Int) then g_As_l20Rd_odd r0 (IntKind.wrap IntKind.i64 (g_Vs_l20Key_2 r0 r1 a2 + (1:Int))) a2 else g_As_l20Val r0 (IntKind.wrap IntKind.i64 (g_Vs_l20Key_2 r0 r1 a2 + (1:Int))) a2)
noncomputable def g_Vs_l20Write_0 (r0:List Int) (r1:Int) (a2:Int):ByteArray := bif g_pick r0 (g_Vs_l20Key_2 r0 r1 a2) (3:Int) == (0:Int) then bif g_Vs_l20Rd_odd_0 r0 (IntKind.wrap IntKind.i64 (g_Vs_l20Key_2 r0 r1 a2 + (1:Int))) a2 then g_Vs_l20Key_0 r0 r1 a2 else g_Vs_l20Key_0 r0 r1 a2 else g_Vs_l20Key_0 r0 r1 a2
noncomputable def g_Vs_l20Write_1 (r0:List Int) (r1:Int) (a2:Int):Bool := bif g_pick r0 (g_Vs_l20Key_2 r0 r1 a2) (3:Int) == (0:Int) then bif g_Vs_l20Rd_odd_0 r0 (IntKind.wrap IntKind.i64 (g_Vs_l20Key_2 r0 r1 a2 + (1:Int))) a2 then true else true else false
noncomputable def g_Vs_l20Write_2 (r0:List Int) (r1:Int) (a2:Int):List Int := bif g_pick r0 (g_Vs_l20Key_2 r0 r1 a2) (3:Int) == (0:Int) then bif g_Vs_l20Rd_odd_0 r0 (IntKind.wrap IntKind.i64 (g_Vs_l20Key_2 r0 r1 a2 + (1:Int))) a2 then [(1:Int)] else [] else g_Vs_l20Val_0 r0 (IntKind.wrap IntKind.i64 (g_Vs_l20Key_2 r0 r1 a2 + (1:Int))) a2
noncomputable def g_Vs_l20Write_3 (r0:List Int) (r1:Int) (a2:Int):List Int := bif g_pick r0 (g_Vs_l20Key_2 r0 r1 a2) (3:Int) == (0:Int) then bif g_Vs_l20Rd_odd_0 r0 (IntKind.wrap IntKind.i64 (g_Vs_l20Key_2 r0 r1 a2 + (1:Int))) a2 then r0 else r0 else r0
noncomputable def g_Vs_l20Write_4 (r0:List Int) (r1:Int) (a2:Int):Int := bif g_pick r0 (g_Vs_l20Key_2 r0 r1 a2) (3:Int) == (0:Int) then bif g_Vs_l20Rd_odd_0 r0 (IntKind.wrap IntKind.i64 (g_Vs_l20Key_2 r0 r1 a2 + (1:Int))) a2 then g_Vs_l20Rd_odd_2 r0 (IntKind.wrap IntKind.i64 (g_Vs_l20Key_2 r0 r1 a2 + (1:Int))) a2 else g_Vs_l20Rd_odd_2 r0 (IntKind.wrap IntKind.i64 (g_Vs_l20Key_2 r0 r1 a2 + (1:Int))) a2 else g_Vs_l20Val_2 r0 (IntKind.wrap IntKind.i64 (g_Vs_l20Key_2 r0 r1 a2 + (1:Int))) a2
noncomputable def Fs_l20Write:FSem := fun ys => match ys with
 | [.val true [.sl .any 5 (.int .u8) r0,.int .i64 r1],.val false [.int .i64 a2]] => some ((g_As_l20Write r0 r1 a2),.val true [.str (g_Vs_l20Write_0 r0 r1 a2),.bool (g_Vs_l20Write_1 r0 r1 a2),.sl .any 3 (.int .i64) (g_Vs_l20Write_2 r0 r1 a2)],[[.sl .any 5 (.int .u8) (g_Vs_l20Write_3 r0 r1 a2),.int .i64 (g_Vs_l20Write_4 r0 r1 a2)]])
 | _ => none
theorem vs_l20Write (r0:List Int) (r1:Int) (a2:Int):collapseH .fr Es_l20Write Os_l20Write_0 (execFn Es_l20Write Tryz.f140 mss_l20Write [.val true [.sl .any 5 (.int .u8) r0,.int .i64 r1],.val false [.int .i64 a2]]) = some ((g_As_l20Write r0 r1 a2),.val true [.str (g_Vs_l20Write_0 r0 r1 a2),.bool (g_Vs_l20Write_1 r0 r1 a2),.sl .any 3 (.int .i64) (g_Vs_l20Write_2 r0 r1 a2)],[[.sl .any 5 (.int .u8) (g_Vs_l20Write_3 r0 r1 a2),.int .i64 (g_Vs_l20Write_4 r0 r1 a2)]]) := by kernel_rfl
theorem ss_l20Write:Sound Tryz.prog 140 mss_l20Write Fs_l20Write := by
 refine fn_gen goods_l20Write (by kernel_rfl) .fr (fn := Tryz.f140) (c := (Tryz.f140.body.getD .skip)) (o := Os_l20Write_0) (k := 0) (by kernel_rfl) (by kernel_rfl) (by kernel_rfl) (by kernel_rfl) (by decide) ks_l20Write_0 ?_
 intro ys r outs h
 unfold Fs_l20Write at h
 split at h
 ·exact (vs_l20Write _ _ _).trans h
 ·cases h
noncomputable def mss_l20WriteR:List PM := mss_l20Write
theorem sames_l20Write (r0:List Int) (r1:Int) (a2:Int):g_Vs_l20Write_3 r0 r1 a2 = r0 := by
 unfold g_Vs_l20Write_3
 simp only [Bool.cond_self]
noncomputable def Fs_l20WriteR:FSem := fun ys => match ys with
 | [.val true [.sl .any 5 (.int .u8) r0,.int .i64 r1],.val false [.int .i64 a2]] => some ((g_As_l20Write r0 r1 a2),.val true [.str (g_Vs_l20Write_0 r0 r1 a2),.bool (g_Vs_l20Write_1 r0 r1 a2),.sl .any 3 (.int .i64) (g_Vs_l20Write_2 r0 r1 a2)],[[.sl .any 5 (.int .u8) r0,.int .i64 (g_Vs_l20Write_4 r0 r1 a2)]])
 | _ => none
theorem ss_l20WriteR:Sound Tryz.prog 140 mss_l20WriteR Fs_l20WriteR := by
 refine ⟨ss_l20Write.fn,fun w S ψ ys vs r outs hF hh hg => ss_l20Write.calls w S ψ ys vs r outs (Eq.trans ?_ hF) hh hg⟩
 unfold Fs_l20WriteR at hF ⊢
 split at hF
 ·rename_i  r0 r1 a2
  show (some ((g_As_l20Write r0 r1 a2),.val true [.str (g_Vs_l20Write_0 r0 r1 a2),.bool (g_Vs_l20Write_1 r0 r1 a2),.sl .any 3 (.int .i64) (g_Vs_l20Write_2 r0 r1 a2)],[[.sl .any 5 (.int .u8) (g_Vs_l20Write_3 r0 r1 a2),.int .i64 (g_Vs_l20Write_4 r0 r1 a2)]]):Option (Bool×RV×List (List Cell))) = _
  rw [sames_l20Write]
 ·cases hF
noncomputable def Es_l20Writes:Env where
 tt := mkTI Tryz.prog
 fn := fun f => match f with
  | 42 => some (mss_l20Rd_pick,FSem.wk mss_l20Rd_pick Fs_l20Rd_pick)
  | 43 => some (mss_l20Rd_oddR,FSem.wk mss_l20Rd_oddR Fs_l20Rd_oddR)
  | 140 => some (mss_l20WriteR,FSem.wk mss_l20WriteR Fs_l20WriteR)
  | _ => none
 bxf := fun _ => none
 mv := []
 keep := fun b => match b with
  | 0 => [(0,false),(1,false),(5,true),(6,false)]
  | _ => []
 keepB := fun b => match b with
  | 0 => [(0,false)]
  | _ => []
 keepX := fun b => match b with
  | 0 => [(0,false),(1,false),(5,true)]
  | _ => []
 keepXB := fun b => match b with
  | 0 => [(0,false)]
  | _ => []
theorem goodFs_l20Writes:∀ f ms F,Es_l20Writes.fn f = some (ms,F) → Sound Tryz.prog f ms F := fun f ms F h => by
 unfold Es_l20Writes at h
 dsimp only at h
 split at h
 ·injection h with h; injection h with e1 e2; subst e1 e2; exact Sound.wk ss_l20Rd_pick
 ·injection h with h; injection h with e1 e2; subst e1 e2; exact Sound.wk ss_l20Rd_oddR
 ·injection h with h; injection h with e1 e2; subst e1 e2; exact Sound.wk ss_l20WriteR
 ·cases h
theorem goodBs_l20Writes:∀ f ms F,Es_l20Writes.bxf f = some (ms,F) → SoundB Tryz.prog f ms F := fun f ms F h => by cases h
theorem goods_l20Writes:Good Tryz.prog Es_l20Writes := ⟨rfl,goodFs_l20Writes,goodBs_l20Writes⟩
noncomputable def Os_l20Writes_0:Orc := fun _ _ => none
noncomputable def mss_l20Writes:List PM := [.bx,.own]
noncomputable def lss_l20Writes:List (Nat×Code) := loopsAll 0 (Tryz.f89.body.getD .skip)
noncomputable def cs_l20Writes_0:Code := (loopOf 0 (Tryz.f89.body.getD .skip)).getD .skip
theorem lseqs_l20Writes:lss_l20Writes = [(0,cs_l20Writes_0)] := by kernel_rfl
theorem ms_l20Writes_0:∀ p,p ∈ lss_l20Writes → p.1 = 0 → p.2 = cs_l20Writes_0 := by
 intro p hp
 rw [lseqs_l20Writes] at hp
 simp only [List.mem_cons,List.not_mem_nil,or_false] at hp
 subst hp; simp
theorem ks_l20Writes_0:OrcOk Es_l20Writes Os_l20Writes_0 lss_l20Writes 0 := orcOk_none
noncomputable def hs_l20Writes_0 (y0:Int) (y1:List (ByteArray×(Bool×(List Int)))) (y2:Int) (y3:List Int) (y4:Int):List (Pl×LV) := [(.T 0,.t (.val false [.ptr 0 0 0])),(.T 1,.t (.val false [.int .i64 y0])),(.T 5,.t (.val false [.row 5 0 0])),(.R 5 0,.r 0 (some ⟨false,.non,false,39,(.pair .str (.pair .bool (.sl 3 (.int .i64)))),y1⟩)),(.T 6,.t (.val false [.int .i64 y2])),(.B 0,.b 0 false [.sl .any 5 (.int .u8) y3,.int .i64 y4])]
noncomputable def g_Ss_l20Writes_0 (y0:Int) (y3:List Int):((List (ByteArray×(Bool×(List Int))))×Int×Int) → RT ((List (ByteArray×(Bool×(List Int))))×Int×Int) (((List (ByteArray×(Bool×(List Int))))×Int))
 | (y1,y2,y4) => .br (true) (.br (decide (y2 > (0:Int))) (.br (g_As_l20Write y3 y4 (0:Int)) (.br (decide ((List.length y1 + List.length [(g_Vs_l20Write_0 y3 y4 (0:Int),g_Vs_l20Write_1 y3 y4 (0:Int),g_Vs_l20Write_2 y3 y4 (0:Int))]) * nat_lit 48 ≤ nat_lit 140737488355328 ∧ List.length y1 + List.length [(g_Vs_l20Write_0 y3 y4 (0:Int),g_Vs_l20Write_1 y3 y4 (0:Int),g_Vs_l20Write_2 y3 y4 (0:Int))] ≤ nat_lit 9223372036854775807)) (.br (true) (.go ((y1 ++ [(g_Vs_l20Write_0 y3 y4 (0:Int),g_Vs_l20Write_1 y3 y4 (0:Int),g_Vs_l20Write_2 y3 y4 (0:Int))],IntKind.wrap IntKind.i64 (y2 - (1:Int)),g_Vs_l20Write_4 y3 y4 (0:Int)))) .bad) .bad) .bad) (.out ((y1,y4)))) .bad
noncomputable def g_Ls_l20Writes_0 (y0:Int) (y3:List Int) (x:(List (ByteArray×(Bool×(List Int))))×Int×Int):Option (((List (ByteArray×(Bool×(List Int))))×Int)) := loopO (g_Ss_l20Writes_0 y0 y3) x
noncomputable def xs_l20Writes_0 (y0:Int) (y3:List Int):(((List (ByteArray×(Bool×(List Int))))×Int)) → Ex×List (Pl×LV) := fun r => (.exit 0,[(.T 0,.t (.val false [.ptr 0 0 0])),(.T 1,.t (.val false [.int .i64 y0])),(.T 5,.t (.val false [.row 5 0 0])),(.R 5 0,.r 0 (some ⟨false,.non,false,39,(.pair .str (.pair .bool (.sl 3 (.int .i64)))),r.1⟩)),(.B 0,.b 0 false [.sl .any 5 (.int .u8) y3,.int .i64 r.2])])
noncomputable def Os_l20Writes_1:Orc := fun b h => match b,h with
 | 0,[(.T 0,.t (.val false [.ptr 0 0 0])),(.T 1,.t (.val false [.int .i64 y0])),(.T 5,.t (.val false [.row 5 0 0])),(.R 5 0,.r 0 (some ⟨false,.non,false,39,(.pair .str (.pair .bool (.sl 3 (.int .i64)))),y1⟩)),(.T 6,.t (.val false [.int .i64 y2])),(.B 0,.b 0 false [.sl .any 5 (.int .u8) y3,.int .i64 y4])] => some (okO (g_Ls_l20Writes_0 y0 y3 (y1,y2,y4)),(.leaf (.exit 0) [(.T 0,.t (.val false [.ptr 0 0 0])),(.T 1,.t (.val false [.int .i64 y0])),(.T 5,.t (.val false [.row 5 0 0])),(.R 5 0,.r 0 (some ⟨false,.non,false,39,(.pair .str (.pair .bool (.sl 3 (.int .i64)))),(valO (g_Ls_l20Writes_0 y0 y3 (y1,y2,y4))).1⟩)),(.B 0,.b 0 false [.sl .any 5 (.int .u8) y3,.int .i64 (valO (g_Ls_l20Writes_0 y0 y3 (y1,y2,y4))).2])]))
 | b,h => Os_l20Writes_0 b h
theorem bs_l20Writes_0 (y0:Int) (y1:List (ByteArray×(Bool×(List Int)))) (y2:Int) (y3:List Int) (y4:Int):Tr.bt Es_l20Writes Os_l20Writes_0 (exec Es_l20Writes 0 cs_l20Writes_0 (St.of (hs_l20Writes_0 y0 y1 y2 y3 y4)) (leafRd Es_l20Writes 0)) = (g_Ss_l20Writes_0 y0 y3 (y1,y2,y4)).bt (fun ((y1,y2,y4):(List (ByteArray×(Bool×(List Int))))×Int×Int) => (hs_l20Writes_0 y0 y1 y2 y3 y4)) (xs_l20Writes_0 y0 y3) := by kernel_rfl
theorem ks_l20Writes_1:OrcOk Es_l20Writes Os_l20Writes_1 lss_l20Writes 1 := orc_add ks_l20Writes_0 (fun n p hp h ex h' ho => by
 obtain ⟨b,c⟩ := p
 obtain ⟨xt,h1,h2⟩ := ho
 have h1:Os_l20Writes_1 b h = some (true,xt) := h1
 unfold Os_l20Writes_1 at h1
 split at h1
 ·injection h1 with h1
  injection h1 with e1 e2
  subst e2
  have hc:c = cs_l20Writes_0 := ms_l20Writes_0 _ hp rfl
  subst hc
  right
  rename_i y0 y1 y2 y3 y4
  have key := LT_step ks_l20Writes_0 hp (fun q hq => loopsAll_in _ _ _ _ hp hq) (fun ((y1,y2,y4):(List (ByteArray×(Bool×(List Int))))×Int×Int) => (hs_l20Writes_0 y0 y1 y2 y3 y4)) (xs_l20Writes_0 y0 y3) (g_Ss_l20Writes_0 y0 y3) (fun x => by first | exact bs_l20Writes_0 y0 x.1 x.2.1 y3 x.2.2) n (x := (y1,y2,y4)) (okO_some e1)
  have hx:∀ r,XT.sel (.leaf (.exit 0) [(.T 0,.t (.val false [.ptr 0 0 0])),(.T 1,.t (.val false [.int .i64 y0])),(.T 5,.t (.val false [.row 5 0 0])),(.R 5 0,.r 0 (some ⟨false,.non,false,39,(.pair .str (.pair .bool (.sl 3 (.int .i64)))),r.1⟩)),(.B 0,.b 0 false [.sl .any 5 (.int .u8) y3,.int .i64 r.2])]) = xs_l20Writes_0 y0 y3 r := fun r => by first | rfl | (rcases r with r | r <;> rfl) | (rcases r with r | r | r <;> rfl) | (rcases r with r | r | r | r <;> rfl)
  have h3 := (hx (valO (g_Ls_l20Writes_0 y0 y3 (y1,y2,y4)))).symm.trans h2
  have e3 := congrArg Prod.fst h3
  have e4 := congrArg Prod.snd h3
  simp only at e3 e4
  rw [← e3,← e4]
  exact key
 ·exact .inl ⟨xt,h1,h2⟩)
noncomputable def g_As_l20Writes (r0:List Int) (r1:Int) (a2:Int):Bool := g_pickA r0 r1 (6:Int)&&(okO (g_Ls_l20Writes_0 a2 r0 ([],g_pick r0 r1 (6:Int),IntKind.wrap IntKind.i64 (r1 + (1:Int))))&&(g_As_l20Rd_odd r0 (valO (g_Ls_l20Writes_0 a2 r0 ([],g_pick r0 r1 (6:Int),IntKind.wrap IntKind.i64 (r1 + (1:Int))))).2 a2&&(!g_Vs_l20Rd_odd_0 r0 (valO (g_Ls_l20Writes_0 a2 r0 ([],g_pick r0 r1 (6:Int),IntKind.wrap IntKind.i64 (r1 + (1:Int))))).2 a2 || g_As_l20Write r0 (g_Vs_l20Rd_odd_2 r0 (valO (g_Ls_l20Writes_0 a2 r0 ([],g_pick r0 r1 (6:Int),IntKind.wrap IntKind.i64 (r1 + (1:Int))))).2 a2) (2:Int)&&decide ((List.length (valO (g_Ls_l20Writes_0 a2 r0 ([],g_pick r0 r1 (6:Int),IntKind.wrap IntKind.i64 (r1 + (1:Int))))).1 + List.length [(g_Vs_l20Write_0 r0 (g_Vs_l20Rd_odd_2 r0 (valO (g_Ls_l20Writes_0 a2 r0 ([],g_pick r0 r1 (6:Int),IntKind.wrap IntKind.i64 (r1 + (1:Int))))).2 a2) (2:Int),g_Vs_l20Write_1 r0 (g_Vs_l20Rd_odd_2 r0 (valO (g_Ls_l20Writes_0 a2 r0 ([],g_pick r0 r1 (6:Int),IntKind.wrap IntKind.i64 (r1 + (1:Int))))).2 a2) (2:Int),g_Vs_l20Write_2 r0 (g_Vs_l20Rd_odd_2 r0 (valO (g_Ls_l20Writes_0 a2 r0 ([],g_pick r0 r1 (6:Int),IntKind.wrap IntKind.i64 (r1 + (1:Int))))).2 a2) (2:Int))]) * nat_lit 48 ≤ nat_lit 140737488355328 ∧ List.length (valO (g_Ls_l20Writes_0 a2 r0 ([],g_pick r0 r1 (6:Int),IntKind.wrap IntKind.i64 (r1 + (1:Int))))).1 + List.length [(g_Vs_l20Write_0 r0 (g_Vs_l20Rd_odd_2 r0 (valO (g_Ls_l20Writes_0 a2 r0 ([],g_pick r0 r1 (6:Int),IntKind.wrap IntKind.i64 (r1 + (1:Int))))).2 a2) (2:Int),g_Vs_l20Write_1 r0 (g_Vs_l20Rd_odd_2 r0 (valO (g_Ls_l20Writes_0 a2 r0 ([],g_pick r0 r1 (6:Int),IntKind.wrap IntKind.i64 (r1 + (1:Int))))).2 a2) (2:Int),g_Vs_l20Write_2 r0 (g_Vs_l20Rd_odd_2 r0 (valO (g_Ls_l20Writes_0 a2 r0 ([],g_pick r0 r1 (6:Int),IntKind.wrap IntKind.i64 (r1 + (1:Int))))).2 a2) (2:Int))] ≤ nat_lit 9223372036854775807))))
noncomputable def g_Vs_l20Writes_0 (r0:List Int) (r1:Int) (a2:Int):List (ByteArray×(Bool×(List Int))) := bif g_Vs_l20Rd_odd_0 r0 (valO (g_Ls_l20Writes_0 a2 r0 ([],g_pick r0 r1 (6:Int),IntKind.wrap IntKind.i64 (r1 + (1:Int))))).2 a2 then (valO (g_Ls_l20Writes_0 a2 r0 ([],g_pick r0 r1 (6:Int),IntKind.wrap IntKind.i64 (r1 + (1:Int))))).1 ++ [(g_Vs_l20Write_0 r0 (g_Vs_l20Rd_odd_2 r0 (valO (g_Ls_l20Writes_0 a2 r0 ([],g_pick r0 r1 (6:Int),IntKind.wrap IntKind.i64 (r1 + (1:Int))))).2 a2) (2:Int),g_Vs_l20Write_1 r0 (g_Vs_l20Rd_odd_2 r0 (valO (g_Ls_l20Writes_0 a2 r0 ([],g_pick r0 r1 (6:Int),IntKind.wrap IntKind.i64 (r1 + (1:Int))))).2 a2) (2:Int),g_Vs_l20Write_2 r0 (g_Vs_l20Rd_odd_2 r0 (valO (g_Ls_l20Writes_0 a2 r0 ([],g_pick r0 r1 (6:Int),IntKind.wrap IntKind.i64 (r1 + (1:Int))))).2 a2) (2:Int))] else (valO (g_Ls_l20Writes_0 a2 r0 ([],g_pick r0 r1 (6:Int),IntKind.wrap IntKind.i64 (r1 + (1:Int))))).1
noncomputable def g_Vs_l20Writes_1 (r0:List Int) (r1:Int) (a2:Int):List Int := bif g_Vs_l20Rd_odd_0 r0 (valO (g_Ls_l20Writes_0 a2 r0 ([],g_pick r0 r1 (6:Int),IntKind.wrap IntKind.i64 (r1 + (1:Int))))).2 a2 then r0 else r0
noncomputable def g_Vs_l20Writes_2 (r0:List Int) (r1:Int) (a2:Int):Int := bif g_Vs_l20Rd_odd_0 r0 (valO (g_Ls_l20Writes_0 a2 r0 ([],g_pick r0 r1 (6:Int),IntKind.wrap IntKind.i64 (r1 + (1:Int))))).2 a2 then g_Vs_l20Write_4 r0 (g_Vs_l20Rd_odd_2 r0 (valO (g_Ls_l20Writes_0 a2 r0 ([],g_pick r0 r1 (6:Int),IntKind.wrap IntKind.i64 (r1 + (1:Int))))).2 a2) (2:Int) else g_Vs_l20Rd_odd_2 r0 (valO (g_Ls_l20Writes_0 a2 r0 ([],g_pick r0 r1 (6:Int),IntKind.wrap IntKind.i64 (r1 + (1:Int))))).2 a2
noncomputable def Fs_l20Writes:FSem := fun ys => match ys with
 | [.val true [.sl .any 5 (.int .u8) r0,.int .i64 r1],.val false [.int .i64 a2]] => some ((g_As_l20Writes r0 r1 a2),.val false [.own .any false 39 (.pair .str (.pair .bool (.sl 3 (.int .i64)))) (g_Vs_l20Writes_0 r0 r1 a2)],[[.sl .any 5 (.int .u8) (g_Vs_l20Writes_1 r0 r1 a2),.int .i64 (g_Vs_l20Writes_2 r0 r1 a2)]])
 | _ => none
theorem vs_l20Writes (r0:List Int) (r1:Int) (a2:Int):collapseH .std Es_l20Writes Os_l20Writes_1 (execFn Es_l20Writes Tryz.f89 mss_l20Writes [.val true [.sl .any 5 (.int .u8) r0,.int .i64 r1],.val false [.int .i64 a2]]) = some ((g_As_l20Writes r0 r1 a2),.val false [.own .any false 39 (.pair .str (.pair .bool (.sl 3 (.int .i64)))) (g_Vs_l20Writes_0 r0 r1 a2)],[[.sl .any 5 (.int .u8) (g_Vs_l20Writes_1 r0 r1 a2),.int .i64 (g_Vs_l20Writes_2 r0 r1 a2)]]) := by kernel_rfl
theorem ss_l20Writes:Sound Tryz.prog 89 mss_l20Writes Fs_l20Writes := by
 refine fn_gen goods_l20Writes (by kernel_rfl) .std (fn := Tryz.f89) (c := (Tryz.f89.body.getD .skip)) (o := Os_l20Writes_1) (k := 1) (by kernel_rfl) (by kernel_rfl) (by kernel_rfl) (by kernel_rfl) (by decide) ks_l20Writes_1 ?_
 intro ys r outs h
 unfold Fs_l20Writes at h
 split at h
 ·exact (vs_l20Writes _ _ _).trans h
 ·cases h
noncomputable def mss_l20WritesR:List PM := mss_l20Writes
theorem sames_l20Writes (r0:List Int) (r1:Int) (a2:Int):g_Vs_l20Writes_1 r0 r1 a2 = r0 := by
 unfold g_Vs_l20Writes_1
 simp only [Bool.cond_self]
noncomputable def Fs_l20WritesR:FSem := fun ys => match ys with
 | [.val true [.sl .any 5 (.int .u8) r0,.int .i64 r1],.val false [.int .i64 a2]] => some ((g_As_l20Writes r0 r1 a2),.val false [.own .any false 39 (.pair .str (.pair .bool (.sl 3 (.int .i64)))) (g_Vs_l20Writes_0 r0 r1 a2)],[[.sl .any 5 (.int .u8) r0,.int .i64 (g_Vs_l20Writes_2 r0 r1 a2)]])
 | _ => none
theorem ss_l20WritesR:Sound Tryz.prog 89 mss_l20WritesR Fs_l20WritesR := by
 refine ⟨ss_l20Writes.fn,fun w S ψ ys vs r outs hF hh hg => ss_l20Writes.calls w S ψ ys vs r outs (Eq.trans ?_ hF) hh hg⟩
 unfold Fs_l20WritesR at hF ⊢
 split at hF
 ·rename_i  r0 r1 a2
  show (some ((g_As_l20Writes r0 r1 a2),.val false [.own .any false 39 (.pair .str (.pair .bool (.sl 3 (.int .i64)))) (g_Vs_l20Writes_0 r0 r1 a2)],[[.sl .any 5 (.int .u8) (g_Vs_l20Writes_1 r0 r1 a2),.int .i64 (g_Vs_l20Writes_2 r0 r1 a2)]]):Option (Bool×RV×List (List Cell))) = _
  rw [sames_l20Writes]
 ·cases hF
end Go.Proofs.YtjoggjjjlafdmaaGreatDoor.E
