/- What the functions that are reached do, by the engine: for the proof (laws.FnGloNone): part 2. No conditions. -/
import Derived.Test.YtliagpcoflhphaaDoorGa
import Derived.Test.YtliagpcoflhphaaDoorProg
import Derived.Test.YtliagpcoflhphaaDoorShelf
set_option linter.all false
namespace Go.Proofs.YtliagpcoflhphaaDoor.E
open Go
set_option maxRecDepth 100000
set_option maxHeartbeats 0
noncomputable def Ei_StoDo:Env where
 tt := mkTI Tryd.prog
 fn := fun f => match f with
  | 30 => some (msi_StoStore_copied,FSem.wk msi_StoStore_copied Fi_StoStore_copied)
  | 39 => some (msi_StoOk,FSem.wk msi_StoOk Fi_StoOk)
  | 66 => some (msslices_ContainsFunc_i_StoWrite_i_StoWrite__i_StoDo_1,FSem.wk msslices_ContainsFunc_i_StoWrite_i_StoWrite__i_StoDo_1 Fslices_ContainsFunc_i_StoWrite_i_StoWrite__i_StoDo_1)
  | 68 => some (msi_StoStore_write,FSem.wk msi_StoStore_write Fi_StoStore_write)
  | _ => none
 bxf := fun _ => none
 mv := []
 keep := fun b => match b with
  | 0 => [(4,false),(5,false),(18,false),(19,false),(20,false)]
  | _ => []
 keepB := fun b => match b with
  | 0 => [(4,false),(5,false)]
  | _ => []
 keepX := fun b => match b with
  | 0 => [(4,false),(5,false)]
  | _ => []
 keepXB := fun b => match b with
  | 0 => [(4,false),(5,false)]
  | _ => []
theorem goodFi_StoDo:∀ f ms F,Ei_StoDo.fn f = some (ms,F) → Sound Tryd.prog f ms F := fun f ms F h => by
 unfold Ei_StoDo at h
 dsimp only at h
 split at h
 ·injection h with h; injection h with e1 e2; subst e1 e2; exact Sound.wk si_StoStore_copied
 ·injection h with h; injection h with e1 e2; subst e1 e2; exact Sound.wk si_StoOk
 ·injection h with h; injection h with e1 e2; subst e1 e2; exact Sound.wk sslices_ContainsFunc_i_StoWrite_i_StoWrite__i_StoDo_1
 ·injection h with h; injection h with e1 e2; subst e1 e2; exact Sound.wk si_StoStore_write
 ·cases h
theorem goodBi_StoDo:∀ f ms F,Ei_StoDo.bxf f = some (ms,F) → SoundB Tryd.prog f ms F := fun f ms F h => by cases h
theorem goodi_StoDo:Good Tryd.prog Ei_StoDo := ⟨rfl,goodFi_StoDo,goodBi_StoDo⟩
noncomputable def Oi_StoDo_0:Orc := fun _ _ => none
noncomputable def msi_StoDo:List PM := [.rd,.rd]
noncomputable def lsi_StoDo:List (Nat×Code) := loopsAll 0 (Tryd.f33.body.getD .skip)
noncomputable def ci_StoDo_0:Code := (loopOf 0 (Tryd.f33.body.getD .skip)).getD .skip
theorem lseqi_StoDo:lsi_StoDo = [(0,ci_StoDo_0)] := by kernel_rfl
theorem mi_StoDo_0:∀ p,p ∈ lsi_StoDo → p.1 = 0 → p.2 = ci_StoDo_0 := by
 intro p hp
 rw [lseqi_StoDo] at hp
 simp only [List.mem_cons,List.not_mem_nil,or_false] at hp
 subst hp; simp
theorem ki_StoDo_0:OrcOk Ei_StoDo Oi_StoDo_0 lsi_StoDo 0 := orcOk_none
noncomputable def hi_StoDo_0 (y0:List (ByteArray×(Bool×(List Int)))) (y1:Int) (y2:Int) (y3:List (ByteArray×(List Int))) (y4:List (ByteArray×(List Int))):List (Pl×LV) := [(.T 4,.t (.val false [.ptr 4 0 0])),(.T 5,.t (.val false [.ptr 5 0 0])),(.T 18,.t (.val false [.sl .any 76 (.pair .str (.pair .bool (.sl 3 (.int .i64)))) y0])),(.T 19,.t (.val false [.int .i64 y1])),(.T 20,.t (.val false [.int .i64 y2])),(.B 4,.b 0 false [.row 4 1 0]),(.R 4 1,.r 0 (some ⟨false,.any,true,42,(.pair .str (.sl 3 (.int .i64))),y3⟩)),(.B 5,.b 0 false [.row 5 1 0]),(.R 5 1,.r 0 (some ⟨false,.any,true,42,(.pair .str (.sl 3 (.int .i64))),y4⟩))]
noncomputable def g_Si_StoDo_0 (y0:List (ByteArray×(Bool×(List Int)))) (y1:Int) (y3:List (ByteArray×(List Int))):(Int×(List (ByteArray×(List Int)))) → RT (Int×(List (ByteArray×(List Int)))) (((List (ByteArray×(List Int)))×(List (ByteArray×(List Int)))) ⊕ ((List (ByteArray×(List Int)))))
 | (y2,y4) => .br (true) (.br (decide (y2 < y1)) (.br (decide ((0:Int) ≤ y2 ∧ y2 < (↑(List.length y0):Int))) (.br (g_Ai_StoStore_write y4 (at_ (Ty.pair Ty.str (Ty.pair Ty.bool (Ty.sl (nat_lit 3) (Ty.int IntKind.i64)))) y0 (Int.toNat y2)).1 (at_ (Ty.pair Ty.str (Ty.pair Ty.bool (Ty.sl (nat_lit 3) (Ty.int IntKind.i64)))) y0 (Int.toNat y2)).2.1 (at_ (Ty.pair Ty.str (Ty.pair Ty.bool (Ty.sl (nat_lit 3) (Ty.int IntKind.i64)))) y0 (Int.toNat y2)).2.2) (.br (true) (.br (decide ((↑(List.length (g_Vi_StoStore_write_0 y4 (at_ (Ty.pair Ty.str (Ty.pair Ty.bool (Ty.sl (nat_lit 3) (Ty.int IntKind.i64)))) y0 (Int.toNat y2)).1 (at_ (Ty.pair Ty.str (Ty.pair Ty.bool (Ty.sl (nat_lit 3) (Ty.int IntKind.i64)))) y0 (Int.toNat y2)).2.1 (at_ (Ty.pair Ty.str (Ty.pair Ty.bool (Ty.sl (nat_lit 3) (Ty.int IntKind.i64)))) y0 (Int.toNat y2)).2.2)):Int) > (40:Int))) (.out (.inl (([],g_Vi_StoStore_write_0 y4 (at_ (Ty.pair Ty.str (Ty.pair Ty.bool (Ty.sl (nat_lit 3) (Ty.int IntKind.i64)))) y0 (Int.toNat y2)).1 (at_ (Ty.pair Ty.str (Ty.pair Ty.bool (Ty.sl (nat_lit 3) (Ty.int IntKind.i64)))) y0 (Int.toNat y2)).2.1 (at_ (Ty.pair Ty.str (Ty.pair Ty.bool (Ty.sl (nat_lit 3) (Ty.int IntKind.i64)))) y0 (Int.toNat y2)).2.2)))) (.br (true) (.go ((IntKind.wrap IntKind.i64 (y2 + (1:Int)),g_Vi_StoStore_write_0 y4 (at_ (Ty.pair Ty.str (Ty.pair Ty.bool (Ty.sl (nat_lit 3) (Ty.int IntKind.i64)))) y0 (Int.toNat y2)).1 (at_ (Ty.pair Ty.str (Ty.pair Ty.bool (Ty.sl (nat_lit 3) (Ty.int IntKind.i64)))) y0 (Int.toNat y2)).2.1 (at_ (Ty.pair Ty.str (Ty.pair Ty.bool (Ty.sl (nat_lit 3) (Ty.int IntKind.i64)))) y0 (Int.toNat y2)).2.2))) .bad)) .bad) .bad) .bad) (.out (.inr (y4)))) .bad
noncomputable def g_Li_StoDo_0 (y0:List (ByteArray×(Bool×(List Int)))) (y1:Int) (y3:List (ByteArray×(List Int))) (x:Int×(List (ByteArray×(List Int)))):Option (((List (ByteArray×(List Int)))×(List (ByteArray×(List Int)))) ⊕ ((List (ByteArray×(List Int))))) := loopO (g_Si_StoDo_0 y0 y1 y3) x
noncomputable def xi_StoDo_0 (y0:List (ByteArray×(Bool×(List Int)))) (y1:Int) (y3:List (ByteArray×(List Int))):(((List (ByteArray×(List Int)))×(List (ByteArray×(List Int)))) ⊕ ((List (ByteArray×(List Int))))) → Ex×List (Pl×LV) := fun
 | .inl r => (.ret,[(.T 4,.t (.val false [.ptr 4 0 0])),(.T 5,.t (.val false [.ptr 5 0 0])),(.B 4,.b 0 false [.row 4 1 0]),(.R 4 1,.r 0 (some ⟨false,.any,true,42,(.pair .str (.sl 3 (.int .i64))),r.1⟩)),(.B 5,.b 0 false [.row 5 1 0]),(.R 5 1,.r 0 (some ⟨false,.any,true,42,(.pair .str (.sl 3 (.int .i64))),r.2⟩))])
 | .inr (r) => (.exit 0,[(.T 4,.t (.val false [.ptr 4 0 0])),(.T 5,.t (.val false [.ptr 5 0 0])),(.B 4,.b 0 false [.row 4 1 0]),(.R 4 1,.r 0 (some ⟨false,.any,true,42,(.pair .str (.sl 3 (.int .i64))),y3⟩)),(.B 5,.b 0 false [.row 5 1 0]),(.R 5 1,.r 0 (some ⟨false,.any,true,42,(.pair .str (.sl 3 (.int .i64))),r⟩))])
noncomputable def Oi_StoDo_1:Orc := fun b h => match b,h with
 | 0,[(.T 4,.t (.val false [.ptr 4 0 0])),(.T 5,.t (.val false [.ptr 5 0 0])),(.T 18,.t (.val false [.sl .any 76 (.pair .str (.pair .bool (.sl 3 (.int .i64)))) y0])),(.T 19,.t (.val false [.int .i64 y1])),(.T 20,.t (.val false [.int .i64 y2])),(.B 4,.b 0 false [.row 4 1 0]),(.R 4 1,.r 0 (some ⟨false,.any,true,42,(.pair .str (.sl 3 (.int .i64))),y3⟩)),(.B 5,.b 0 false [.row 5 1 0]),(.R 5 1,.r 0 (some ⟨false,.any,true,42,(.pair .str (.sl 3 (.int .i64))),y4⟩))] => some (okO (g_Li_StoDo_0 y0 y1 y3 (y2,y4)),(.br (isL (valO (g_Li_StoDo_0 y0 y1 y3 (y2,y4)))) (.leaf .ret [(.T 4,.t (.val false [.ptr 4 0 0])),(.T 5,.t (.val false [.ptr 5 0 0])),(.B 4,.b 0 false [.row 4 1 0]),(.R 4 1,.r 0 (some ⟨false,.any,true,42,(.pair .str (.sl 3 (.int .i64))),(getL (valO (g_Li_StoDo_0 y0 y1 y3 (y2,y4)))).1⟩)),(.B 5,.b 0 false [.row 5 1 0]),(.R 5 1,.r 0 (some ⟨false,.any,true,42,(.pair .str (.sl 3 (.int .i64))),(getL (valO (g_Li_StoDo_0 y0 y1 y3 (y2,y4)))).2⟩))]) (.leaf (.exit 0) [(.T 4,.t (.val false [.ptr 4 0 0])),(.T 5,.t (.val false [.ptr 5 0 0])),(.B 4,.b 0 false [.row 4 1 0]),(.R 4 1,.r 0 (some ⟨false,.any,true,42,(.pair .str (.sl 3 (.int .i64))),y3⟩)),(.B 5,.b 0 false [.row 5 1 0]),(.R 5 1,.r 0 (some ⟨false,.any,true,42,(.pair .str (.sl 3 (.int .i64))),(getR (valO (g_Li_StoDo_0 y0 y1 y3 (y2,y4))))⟩))])))
 | b,h => Oi_StoDo_0 b h
theorem bi_StoDo_0 (y0:List (ByteArray×(Bool×(List Int)))) (y1:Int) (y2:Int) (y3:List (ByteArray×(List Int))) (y4:List (ByteArray×(List Int))):Tr.bt Ei_StoDo Oi_StoDo_0 (exec Ei_StoDo 0 ci_StoDo_0 (St.of (hi_StoDo_0 y0 y1 y2 y3 y4)) (leafRd Ei_StoDo 0)) = (g_Si_StoDo_0 y0 y1 y3 (y2,y4)).bt (fun ((y2,y4):Int×(List (ByteArray×(List Int)))) => (hi_StoDo_0 y0 y1 y2 y3 y4)) (xi_StoDo_0 y0 y1 y3) := by kernel_rfl
theorem ki_StoDo_1:OrcOk Ei_StoDo Oi_StoDo_1 lsi_StoDo 1 := orc_add ki_StoDo_0 (fun n p hp h ex h' ho => by
 obtain ⟨b,c⟩ := p
 obtain ⟨xt,h1,h2⟩ := ho
 have h1:Oi_StoDo_1 b h = some (true,xt) := h1
 unfold Oi_StoDo_1 at h1
 split at h1
 ·injection h1 with h1
  injection h1 with e1 e2
  subst e2
  have hc:c = ci_StoDo_0 := mi_StoDo_0 _ hp rfl
  subst hc
  right
  rename_i y0 y1 y2 y3 y4
  have key := LT_step ki_StoDo_0 hp (fun q hq => loopsAll_in _ _ _ _ hp hq) (fun ((y2,y4):Int×(List (ByteArray×(List Int)))) => (hi_StoDo_0 y0 y1 y2 y3 y4)) (xi_StoDo_0 y0 y1 y3) (g_Si_StoDo_0 y0 y1 y3) (fun x => by first | exact bi_StoDo_0 y0 y1 x.1 y3 x.2) n (x := (y2,y4)) (okO_some e1)
  have hx:∀ r,XT.sel (.br (isL r) (.leaf .ret [(.T 4,.t (.val false [.ptr 4 0 0])),(.T 5,.t (.val false [.ptr 5 0 0])),(.B 4,.b 0 false [.row 4 1 0]),(.R 4 1,.r 0 (some ⟨false,.any,true,42,(.pair .str (.sl 3 (.int .i64))),(getL r).1⟩)),(.B 5,.b 0 false [.row 5 1 0]),(.R 5 1,.r 0 (some ⟨false,.any,true,42,(.pair .str (.sl 3 (.int .i64))),(getL r).2⟩))]) (.leaf (.exit 0) [(.T 4,.t (.val false [.ptr 4 0 0])),(.T 5,.t (.val false [.ptr 5 0 0])),(.B 4,.b 0 false [.row 4 1 0]),(.R 4 1,.r 0 (some ⟨false,.any,true,42,(.pair .str (.sl 3 (.int .i64))),y3⟩)),(.B 5,.b 0 false [.row 5 1 0]),(.R 5 1,.r 0 (some ⟨false,.any,true,42,(.pair .str (.sl 3 (.int .i64))),(getR r)⟩))])) = xi_StoDo_0 y0 y1 y3 r := fun r => by first | rfl | (rcases r with r | r <;> rfl) | (rcases r with r | r | r <;> rfl) | (rcases r with r | r | r | r <;> rfl)
  have h3 := (hx (valO (g_Li_StoDo_0 y0 y1 y3 (y2,y4)))).symm.trans h2
  have e3 := congrArg Prod.fst h3
  have e4 := congrArg Prod.snd h3
  simp only at e3 e4
  rw [← e3,← e4]
  exact key
 ·exact .inl ⟨xt,h1,h2⟩)
noncomputable def g_Ai_StoDo (a0:List (ByteArray×(List Int))) (a1:List (ByteArray×(Bool×(List Int)))):Bool := g_Ai_StoOk a0&&(!g_Vi_StoOk_0 a0 || g_Aslices_ContainsFunc_i_StoWrite_i_StoWrite__i_StoDo_1 a1&&(g_Vslices_ContainsFunc_i_StoWrite_i_StoWrite__i_StoDo_1_0 a1 || g_Ai_StoStore_copied a0&&okO (g_Li_StoDo_0 a1 (↑(List.length a1):Int) [] ((0:Int),g_Vi_StoStore_copied_0 a0))))
noncomputable def g_Vi_StoDo_0 (a0:List (ByteArray×(List Int))) (a1:List (ByteArray×(Bool×(List Int)))):List (ByteArray×(List Int)) := bif !g_Vi_StoOk_0 a0 then [] else bif g_Vslices_ContainsFunc_i_StoWrite_i_StoWrite__i_StoDo_1_0 a1 then [] else bif isL (valO (g_Li_StoDo_0 a1 (↑(List.length a1):Int) [] ((0:Int),g_Vi_StoStore_copied_0 a0))) then (getL (valO (g_Li_StoDo_0 a1 (↑(List.length a1):Int) [] ((0:Int),g_Vi_StoStore_copied_0 a0)))).1 else getR (valO (g_Li_StoDo_0 a1 (↑(List.length a1):Int) [] ((0:Int),g_Vi_StoStore_copied_0 a0)))
noncomputable def Fi_StoDo:FSem := fun ys => match ys with
 | [.val true [.sl .any 42 (.pair .str (.sl 3 (.int .i64))) a0],.val false [.sl .any 76 (.pair .str (.pair .bool (.sl 3 (.int .i64)))) a1]] => some ((g_Ai_StoDo a0 a1),.val true [.own .any true 42 (.pair .str (.sl 3 (.int .i64))) (g_Vi_StoDo_0 a0 a1)],[])
 | _ => none
theorem vi_StoDo (a0:List (ByteArray×(List Int))) (a1:List (ByteArray×(Bool×(List Int)))):collapseH .std Ei_StoDo Oi_StoDo_1 (execFn Ei_StoDo Tryd.f33 msi_StoDo [.val true [.sl .any 42 (.pair .str (.sl 3 (.int .i64))) a0],.val false [.sl .any 76 (.pair .str (.pair .bool (.sl 3 (.int .i64)))) a1]]) = some ((g_Ai_StoDo a0 a1),.val true [.own .any true 42 (.pair .str (.sl 3 (.int .i64))) (g_Vi_StoDo_0 a0 a1)],[]) := by kernel_rfl
theorem si_StoDo:Sound Tryd.prog 33 msi_StoDo Fi_StoDo := by
 refine fn_gen goodi_StoDo (by kernel_rfl) .std (fn := Tryd.f33) (c := (Tryd.f33.body.getD .skip)) (o := Oi_StoDo_1) (k := 1) (by kernel_rfl) (by kernel_rfl) (by kernel_rfl) (by kernel_rfl) (by decide) ki_StoDo_1 ?_
 intro ys r outs h
 unfold Fi_StoDo at h
 split at h
 ·exact (vi_StoDo _ _).trans h
 ·cases h
noncomputable def Ei_GloDo:Env where
 tt := mkTI Tryd.prog
 fn := fun f => match f with
  | 15 => some (msi_GloOk,FSem.wk msi_GloOk Fi_GloOk)
  | 28 => some (msi_OpOk,FSem.wk msi_OpOk Fi_OpOk)
  | 29 => some (msi_isTx,FSem.wk msi_isTx Fi_isTx)
  | 30 => some (msi_StoStore_copied,FSem.wk msi_StoStore_copied Fi_StoStore_copied)
  | 31 => some (msi_OpPlaces,FSem.wk msi_OpPlaces Fi_OpPlaces)
  | 32 => some (msi_PlcPlan,FSem.wk msi_PlcPlan Fi_PlcPlan)
  | 33 => some (msi_StoDo,FSem.wk msi_StoDo Fi_StoDo)
  | _ => none
 bxf := fun _ => none
 mv := []
 keep := fun b => match b with
  | 0 => [(0,false),(1,false),(5,false),(8,false),(9,false),(28,false),(29,false),(30,false)]
  | 2 => [(0,false),(1,false),(5,false),(8,false),(9,false),(46,false),(47,false),(48,false)]
  | _ => []
 keepB := fun b => match b with
  | 0 => [(5,false)]
  | 2 => [(5,false)]
  | _ => []
 keepX := fun b => match b with
  | 0 => [(0,false),(1,false),(5,false),(8,false),(9,false)]
  | 2 => [(6,false),(7,false),(9,false)]
  | _ => []
 keepXB := fun b => match b with
  | 0 => [(5,false)]
  | 2 => []
  | _ => []
theorem goodFi_GloDo:∀ f ms F,Ei_GloDo.fn f = some (ms,F) → Sound Tryd.prog f ms F := fun f ms F h => by
 unfold Ei_GloDo at h
 dsimp only at h
 split at h
 ·injection h with h; injection h with e1 e2; subst e1 e2; exact Sound.wk si_GloOk
 ·injection h with h; injection h with e1 e2; subst e1 e2; exact Sound.wk si_OpOk
 ·injection h with h; injection h with e1 e2; subst e1 e2; exact Sound.wk si_isTx
 ·injection h with h; injection h with e1 e2; subst e1 e2; exact Sound.wk si_StoStore_copied
 ·injection h with h; injection h with e1 e2; subst e1 e2; exact Sound.wk si_OpPlaces
 ·injection h with h; injection h with e1 e2; subst e1 e2; exact Sound.wk si_PlcPlan
 ·injection h with h; injection h with e1 e2; subst e1 e2; exact Sound.wk si_StoDo
 ·cases h
theorem goodBi_GloDo:∀ f ms F,Ei_GloDo.bxf f = some (ms,F) → SoundB Tryd.prog f ms F := fun f ms F h => by cases h
theorem goodi_GloDo:Good Tryd.prog Ei_GloDo := ⟨rfl,goodFi_GloDo,goodBi_GloDo⟩
noncomputable def Oi_GloDo_0:Orc := fun _ _ => none
noncomputable def msi_GloDo:List PM := [.rd,.own,.own]
noncomputable def lsi_GloDo:List (Nat×Code) := loopsAll 0 (Tryd.f14.body.getD .skip)
noncomputable def ci_GloDo_0:Code := (loopOf 0 (Tryd.f14.body.getD .skip)).getD .skip
noncomputable def ci_GloDo_2:Code := (loopOf 2 (Tryd.f14.body.getD .skip)).getD .skip
theorem lseqi_GloDo:lsi_GloDo = [(0,ci_GloDo_0),(2,ci_GloDo_2)] := by kernel_rfl
theorem mi_GloDo_0:∀ p,p ∈ lsi_GloDo → p.1 = 0 → p.2 = ci_GloDo_0 := by
 intro p hp
 rw [lseqi_GloDo] at hp
 simp only [List.mem_cons,List.not_mem_nil,or_false] at hp
 rcases hp with rfl | rfl <;> simp
theorem mi_GloDo_2:∀ p,p ∈ lsi_GloDo → p.1 = 2 → p.2 = ci_GloDo_2 := by
 intro p hp
 rw [lseqi_GloDo] at hp
 simp only [List.mem_cons,List.not_mem_nil,or_false] at hp
 rcases hp with rfl | rfl <;> simp
theorem ki_GloDo_0:OrcOk Ei_GloDo Oi_GloDo_0 lsi_GloDo 0 := orcOk_none
noncomputable def hi_GloDo_0 (y0:List (List (ByteArray×(List Int)))) (y1:Int) (y2:List (List (ByteArray×(List Int)))) (y3:List (List (ByteArray×(List Int)))) (y4:List (List (ByteArray×(List Int)))) (y5:Int) (y6:Int) (y7:Int) (y8:Int) (y9:Int) (y10:Int) (y11:Int) (y12:Int) (y13:Int):List (Pl×LV) := [(.T 0,.t (.val false [.sl .any 32 (.sl 42 (.pair .str (.sl 3 (.int .i64)))) y0])),(.T 1,.t (.val false [.int .i64 y1])),(.T 5,.t (.val false [.ptr 5 0 0])),(.T 8,.t (.val false [.row 8 0 0])),(.R 8 0,.r 0 (some ⟨false,.any,true,32,(.sl 42 (.pair .str (.sl 3 (.int .i64)))),y2⟩)),(.T 9,.t (.val false [.row 9 0 0])),(.R 9 0,.r 0 (some ⟨false,.any,true,32,(.sl 42 (.pair .str (.sl 3 (.int .i64)))),y3⟩)),(.T 28,.t (.val false [.sl .any 32 (.sl 42 (.pair .str (.sl 3 (.int .i64)))) y4])),(.T 29,.t (.val false [.int .i64 y5])),(.T 30,.t (.val false [.int .i64 y6])),(.B 5,.b 0 false [.int .i64 y7,.int .i64 y8,.int .i64 y9,.int .i64 y10,.int .i64 y11,.int .i64 y12,.int .i64 y13])]
noncomputable def g_Si_GloDo_0 (y0:List (List (ByteArray×(List Int)))) (y1:Int) (y4:List (List (ByteArray×(List Int)))) (y5:Int) (y7:Int) (y8:Int) (y9:Int) (y10:Int) (y11:Int) (y12:Int) (y13:Int):((List (List (ByteArray×(List Int))))×(List (List (ByteArray×(List Int))))×Int) → RT ((List (List (ByteArray×(List Int))))×(List (List (ByteArray×(List Int))))×Int) (((List (List (ByteArray×(List Int))))×(List (List (ByteArray×(List Int))))))
 | (y2,y3,y6) => .br (true) (.br (decide (y6 < y5)) (.br (decide ((0:Int) ≤ y6 ∧ y6 < (↑(List.length y4):Int))) (.br (g_Ai_StoStore_copied (at_ (Ty.sl (nat_lit 42) (Ty.pair Ty.str (Ty.sl (nat_lit 3) (Ty.int IntKind.i64)))) y4 (Int.toNat y6))) (.br (decide ((List.length y2 + List.length [g_Vi_StoStore_copied_0 (at_ (Ty.sl (nat_lit 42) (Ty.pair Ty.str (Ty.sl (nat_lit 3) (Ty.int IntKind.i64)))) y4 (Int.toNat y6))]) * nat_lit 24 ≤ nat_lit 140737488355328 ∧ List.length y2 + List.length [g_Vi_StoStore_copied_0 (at_ (Ty.sl (nat_lit 42) (Ty.pair Ty.str (Ty.sl (nat_lit 3) (Ty.int IntKind.i64)))) y4 (Int.toNat y6))] ≤ nat_lit 9223372036854775807)) (.br (g_Ai_StoStore_copied (at_ (Ty.sl (nat_lit 42) (Ty.pair Ty.str (Ty.sl (nat_lit 3) (Ty.int IntKind.i64)))) y4 (Int.toNat y6))) (.br (decide ((List.length y3 + List.length [g_Vi_StoStore_copied_0 (at_ (Ty.sl (nat_lit 42) (Ty.pair Ty.str (Ty.sl (nat_lit 3) (Ty.int IntKind.i64)))) y4 (Int.toNat y6))]) * nat_lit 24 ≤ nat_lit 140737488355328 ∧ List.length y3 + List.length [g_Vi_StoStore_copied_0 (at_ (Ty.sl (nat_lit 42) (Ty.pair Ty.str (Ty.sl (nat_lit 3) (Ty.int IntKind.i64)))) y4 (Int.toNat y6))] ≤ nat_lit 9223372036854775807)) (.br (true) (.go ((y2 ++ [g_Vi_StoStore_copied_0 (at_ (Ty.sl (nat_lit 42) (Ty.pair Ty.str (Ty.sl (nat_lit 3) (Ty.int IntKind.i64)))) y4 (Int.toNat y6))],y3 ++ [g_Vi_StoStore_copied_0 (at_ (Ty.sl (nat_lit 42) (Ty.pair Ty.str (Ty.sl (nat_lit 3) (Ty.int IntKind.i64)))) y4 (Int.toNat y6))],IntKind.wrap IntKind.i64 (y6 + (1:Int))))) .bad) .bad) .bad) .bad) .bad) .bad) (.out ((y2,y3)))) .bad
noncomputable def g_Li_GloDo_0 (y0:List (List (ByteArray×(List Int)))) (y1:Int) (y4:List (List (ByteArray×(List Int)))) (y5:Int) (y7:Int) (y8:Int) (y9:Int) (y10:Int) (y11:Int) (y12:Int) (y13:Int) (x:(List (List (ByteArray×(List Int))))×(List (List (ByteArray×(List Int))))×Int):Option (((List (List (ByteArray×(List Int))))×(List (List (ByteArray×(List Int)))))) := loopO (g_Si_GloDo_0 y0 y1 y4 y5 y7 y8 y9 y10 y11 y12 y13) x
noncomputable def xi_GloDo_0 (y0:List (List (ByteArray×(List Int)))) (y1:Int) (y4:List (List (ByteArray×(List Int)))) (y5:Int) (y7:Int) (y8:Int) (y9:Int) (y10:Int) (y11:Int) (y12:Int) (y13:Int):(((List (List (ByteArray×(List Int))))×(List (List (ByteArray×(List Int)))))) → Ex×List (Pl×LV) := fun r => (.exit 0,[(.T 0,.t (.val false [.sl .any 32 (.sl 42 (.pair .str (.sl 3 (.int .i64)))) y0])),(.T 1,.t (.val false [.int .i64 y1])),(.T 5,.t (.val false [.ptr 5 0 0])),(.T 8,.t (.val false [.row 8 0 0])),(.R 8 0,.r 0 (some ⟨false,.any,true,32,(.sl 42 (.pair .str (.sl 3 (.int .i64)))),r.1⟩)),(.T 9,.t (.val false [.row 9 0 0])),(.R 9 0,.r 0 (some ⟨false,.any,true,32,(.sl 42 (.pair .str (.sl 3 (.int .i64)))),r.2⟩)),(.B 5,.b 0 false [.int .i64 y7,.int .i64 y8,.int .i64 y9,.int .i64 y10,.int .i64 y11,.int .i64 y12,.int .i64 y13])])
noncomputable def Oi_GloDo_1:Orc := fun b h => match b,h with
 | 0,[(.T 0,.t (.val false [.sl .any 32 (.sl 42 (.pair .str (.sl 3 (.int .i64)))) y0])),(.T 1,.t (.val false [.int .i64 y1])),(.T 5,.t (.val false [.ptr 5 0 0])),(.T 8,.t (.val false [.row 8 0 0])),(.R 8 0,.r 0 (some ⟨false,.any,true,32,(.sl 42 (.pair .str (.sl 3 (.int .i64)))),y2⟩)),(.T 9,.t (.val false [.row 9 0 0])),(.R 9 0,.r 0 (some ⟨false,.any,true,32,(.sl 42 (.pair .str (.sl 3 (.int .i64)))),y3⟩)),(.T 28,.t (.val false [.sl .any 32 (.sl 42 (.pair .str (.sl 3 (.int .i64)))) y4])),(.T 29,.t (.val false [.int .i64 y5])),(.T 30,.t (.val false [.int .i64 y6])),(.B 5,.b 0 false [.int .i64 y7,.int .i64 y8,.int .i64 y9,.int .i64 y10,.int .i64 y11,.int .i64 y12,.int .i64 y13])] => some (okO (g_Li_GloDo_0 y0 y1 y4 y5 y7 y8 y9 y10 y11 y12 y13 (y2,y3,y6)),(.leaf (.exit 0) [(.T 0,.t (.val false [.sl .any 32 (.sl 42 (.pair .str (.sl 3 (.int .i64)))) y0])),(.T 1,.t (.val false [.int .i64 y1])),(.T 5,.t (.val false [.ptr 5 0 0])),(.T 8,.t (.val false [.row 8 0 0])),(.R 8 0,.r 0 (some ⟨false,.any,true,32,(.sl 42 (.pair .str (.sl 3 (.int .i64)))),(valO (g_Li_GloDo_0 y0 y1 y4 y5 y7 y8 y9 y10 y11 y12 y13 (y2,y3,y6))).1⟩)),(.T 9,.t (.val false [.row 9 0 0])),(.R 9 0,.r 0 (some ⟨false,.any,true,32,(.sl 42 (.pair .str (.sl 3 (.int .i64)))),(valO (g_Li_GloDo_0 y0 y1 y4 y5 y7 y8 y9 y10 y11 y12 y13 (y2,y3,y6))).2⟩)),(.B 5,.b 0 false [.int .i64 y7,.int .i64 y8,.int .i64 y9,.int .i64 y10,.int .i64 y11,.int .i64 y12,.int .i64 y13])]))
 | b,h => Oi_GloDo_0 b h
theorem bi_GloDo_0 (y0:List (List (ByteArray×(List Int)))) (y1:Int) (y2:List (List (ByteArray×(List Int)))) (y3:List (List (ByteArray×(List Int)))) (y4:List (List (ByteArray×(List Int)))) (y5:Int) (y6:Int) (y7:Int) (y8:Int) (y9:Int) (y10:Int) (y11:Int) (y12:Int) (y13:Int):Tr.bt Ei_GloDo Oi_GloDo_0 (exec Ei_GloDo 0 ci_GloDo_0 (St.of (hi_GloDo_0 y0 y1 y2 y3 y4 y5 y6 y7 y8 y9 y10 y11 y12 y13)) (leafRd Ei_GloDo 0)) = (g_Si_GloDo_0 y0 y1 y4 y5 y7 y8 y9 y10 y11 y12 y13 (y2,y3,y6)).bt (fun ((y2,y3,y6):(List (List (ByteArray×(List Int))))×(List (List (ByteArray×(List Int))))×Int) => (hi_GloDo_0 y0 y1 y2 y3 y4 y5 y6 y7 y8 y9 y10 y11 y12 y13)) (xi_GloDo_0 y0 y1 y4 y5 y7 y8 y9 y10 y11 y12 y13) := by kernel_rfl
theorem ki_GloDo_1:OrcOk Ei_GloDo Oi_GloDo_1 lsi_GloDo 1 := orc_add ki_GloDo_0 (fun n p hp h ex h' ho => by
 obtain ⟨b,c⟩ := p
 obtain ⟨xt,h1,h2⟩ := ho
 have h1:Oi_GloDo_1 b h = some (true,xt) := h1
 unfold Oi_GloDo_1 at h1
 split at h1
 ·injection h1 with h1
  injection h1 with e1 e2
  subst e2
  have hc:c = ci_GloDo_0 := mi_GloDo_0 _ hp rfl
  subst hc
  right
  rename_i y0 y1 y2 y3 y4 y5 y6 y7 y8 y9 y10 y11 y12 y13
  have key := LT_step ki_GloDo_0 hp (fun q hq => loopsAll_in _ _ _ _ hp hq) (fun ((y2,y3,y6):(List (List (ByteArray×(List Int))))×(List (List (ByteArray×(List Int))))×Int) => (hi_GloDo_0 y0 y1 y2 y3 y4 y5 y6 y7 y8 y9 y10 y11 y12 y13)) (xi_GloDo_0 y0 y1 y4 y5 y7 y8 y9 y10 y11 y12 y13) (g_Si_GloDo_0 y0 y1 y4 y5 y7 y8 y9 y10 y11 y12 y13) (fun x => by first | exact bi_GloDo_0 y0 y1 x.1 x.2.1 y4 y5 x.2.2 y7 y8 y9 y10 y11 y12 y13) n (x := (y2,y3,y6)) (okO_some e1)
  have hx:∀ r,XT.sel (.leaf (.exit 0) [(.T 0,.t (.val false [.sl .any 32 (.sl 42 (.pair .str (.sl 3 (.int .i64)))) y0])),(.T 1,.t (.val false [.int .i64 y1])),(.T 5,.t (.val false [.ptr 5 0 0])),(.T 8,.t (.val false [.row 8 0 0])),(.R 8 0,.r 0 (some ⟨false,.any,true,32,(.sl 42 (.pair .str (.sl 3 (.int .i64)))),r.1⟩)),(.T 9,.t (.val false [.row 9 0 0])),(.R 9 0,.r 0 (some ⟨false,.any,true,32,(.sl 42 (.pair .str (.sl 3 (.int .i64)))),r.2⟩)),(.B 5,.b 0 false [.int .i64 y7,.int .i64 y8,.int .i64 y9,.int .i64 y10,.int .i64 y11,.int .i64 y12,.int .i64 y13])]) = xi_GloDo_0 y0 y1 y4 y5 y7 y8 y9 y10 y11 y12 y13 r := fun r => by first | rfl | (rcases r with r | r <;> rfl) | (rcases r with r | r | r <;> rfl) | (rcases r with r | r | r | r <;> rfl)
  have h3 := (hx (valO (g_Li_GloDo_0 y0 y1 y4 y5 y7 y8 y9 y10 y11 y12 y13 (y2,y3,y6)))).symm.trans h2
  have e3 := congrArg Prod.fst h3
  have e4 := congrArg Prod.snd h3
  simp only at e3 e4
  rw [← e3,← e4]
  exact key
 ·exact .inl ⟨xt,h1,h2⟩)
noncomputable def hi_GloDo_2 (y0:List (List (ByteArray×(List Int)))) (y1:Int) (y2:List (List (ByteArray×(List Int)))) (y3:List (List (ByteArray×(List Int)))) (y4:List Int) (y5:Int) (y6:Int) (y7:Int) (y8:Int) (y9:Int) (y10:Int) (y11:Int) (y12:Int) (y13:Int):List (Pl×LV) := [(.T 0,.t (.val false [.sl .any 32 (.sl 42 (.pair .str (.sl 3 (.int .i64)))) y0])),(.T 1,.t (.val false [.int .i64 y1])),(.T 5,.t (.val false [.ptr 5 0 0])),(.T 8,.t (.val false [.row 8 0 0])),(.R 8 0,.r 0 (some ⟨false,.any,true,32,(.sl 42 (.pair .str (.sl 3 (.int .i64)))),y2⟩)),(.T 9,.t (.val false [.row 9 0 0])),(.R 9 0,.r 0 (some ⟨false,.any,true,32,(.sl 42 (.pair .str (.sl 3 (.int .i64)))),y3⟩)),(.T 46,.t (.val false [.row 46 0 0])),(.R 46 0,.r 0 (some ⟨false,.any,true,3,(.int .i64),y4⟩)),(.T 47,.t (.val false [.int .i64 y5])),(.T 48,.t (.val false [.int .i64 y6])),(.B 5,.b 0 false [.int .i64 y7,.int .i64 y8,.int .i64 y9,.int .i64 y10,.int .i64 y11,.int .i64 y12,.int .i64 y13])]
noncomputable def g_Si_GloDo_2 (y0:List (List (ByteArray×(List Int)))) (y1:Int) (y2:List (List (ByteArray×(List Int)))) (y4:List Int) (y5:Int) (y7:Int) (y8:Int) (y9:Int) (y10:Int) (y11:Int) (y12:Int) (y13:Int):((List (List (ByteArray×(List Int))))×Int) → RT ((List (List (ByteArray×(List Int))))×Int) ((Bool×(List (List (ByteArray×(List Int))))) ⊕ ((List (List (ByteArray×(List Int))))))
 | (y3,y6) => .br (true) (.br (decide (y6 < y5)) (.br (decide ((0:Int) ≤ y6 ∧ y6 < (↑(List.length y4):Int))) (.br (decide (Int.toNat y6 < List.length y4)) (.br (true) (.br (decide ((0:Int) ≤ IntKind.wrap IntKind.i64 (at_ (Ty.int IntKind.i64) y4 (Int.toNat y6) - (1:Int)) ∧ IntKind.wrap IntKind.i64 (at_ (Ty.int IntKind.i64) y4 (Int.toNat y6) - (1:Int)) < (↑(List.length y0):Int))) (.br (g_Ai_PlcPlan (at_ (Ty.int IntKind.i64) y4 (Int.toNat y6)) (at_ (Ty.sl (nat_lit 42) (Ty.pair Ty.str (Ty.sl (nat_lit 3) (Ty.int IntKind.i64)))) y0 (Int.toNat (IntKind.wrap IntKind.i64 (at_ (Ty.int IntKind.i64) y4 (Int.toNat y6) - (1:Int))))) y1 y7 y8 y9 y10 y11 y12 y13) (.br (!g_Vi_PlcPlan_0 (at_ (Ty.int IntKind.i64) y4 (Int.toNat y6)) (at_ (Ty.sl (nat_lit 42) (Ty.pair Ty.str (Ty.sl (nat_lit 3) (Ty.int IntKind.i64)))) y0 (Int.toNat (IntKind.wrap IntKind.i64 (at_ (Ty.int IntKind.i64) y4 (Int.toNat y6) - (1:Int))))) y1 y7 y8 y9 y10 y11 y12 y13) (.out (.inl ((false,y3)))) (.br (true) (.br (true) (.br (decide ((0:Int) ≤ IntKind.wrap IntKind.i64 (at_ (Ty.int IntKind.i64) y4 (Int.toNat y6) - (1:Int)) ∧ IntKind.wrap IntKind.i64 (at_ (Ty.int IntKind.i64) y4 (Int.toNat y6) - (1:Int)) < (↑(List.length y0):Int))) (.br (g_Ai_StoDo (at_ (Ty.sl (nat_lit 42) (Ty.pair Ty.str (Ty.sl (nat_lit 3) (Ty.int IntKind.i64)))) y0 (Int.toNat (IntKind.wrap IntKind.i64 (at_ (Ty.int IntKind.i64) y4 (Int.toNat y6) - (1:Int))))) (g_Vi_PlcPlan_2 (at_ (Ty.int IntKind.i64) y4 (Int.toNat y6)) (at_ (Ty.sl (nat_lit 42) (Ty.pair Ty.str (Ty.sl (nat_lit 3) (Ty.int IntKind.i64)))) y0 (Int.toNat (IntKind.wrap IntKind.i64 (at_ (Ty.int IntKind.i64) y4 (Int.toNat y6) - (1:Int))))) y1 y7 y8 y9 y10 y11 y12 y13)) (.br (decide ((0:Int) ≤ IntKind.wrap IntKind.i64 (at_ (Ty.int IntKind.i64) y4 (Int.toNat y6) - (1:Int)) ∧ IntKind.wrap IntKind.i64 (at_ (Ty.int IntKind.i64) y4 (Int.toNat y6) - (1:Int)) < (↑(List.length y3):Int))) (.br (decide (Int.toNat (IntKind.wrap IntKind.i64 (at_ (Ty.int IntKind.i64) y4 (Int.toNat y6) - (1:Int))) < List.length y3)) (.br (true) (.go ((List.set y3 (Int.toNat (IntKind.wrap IntKind.i64 (at_ (Ty.int IntKind.i64) y4 (Int.toNat y6) - (1:Int)))) (g_Vi_StoDo_0 (at_ (Ty.sl (nat_lit 42) (Ty.pair Ty.str (Ty.sl (nat_lit 3) (Ty.int IntKind.i64)))) y0 (Int.toNat (IntKind.wrap IntKind.i64 (at_ (Ty.int IntKind.i64) y4 (Int.toNat y6) - (1:Int))))) (g_Vi_PlcPlan_2 (at_ (Ty.int IntKind.i64) y4 (Int.toNat y6)) (at_ (Ty.sl (nat_lit 42) (Ty.pair Ty.str (Ty.sl (nat_lit 3) (Ty.int IntKind.i64)))) y0 (Int.toNat (IntKind.wrap IntKind.i64 (at_ (Ty.int IntKind.i64) y4 (Int.toNat y6) - (1:Int))))) y1 y7 y8 y9 y10 y11 y12 y13)),IntKind.wrap IntKind.i64 (y6 + (1:Int))))) .bad) .bad) .bad) .bad) .bad) .bad) .bad)) .bad) .bad) .bad) .bad) .bad) (.out (.inr (y3)))) .bad
noncomputable def g_Li_GloDo_2 (y0:List (List (ByteArray×(List Int)))) (y1:Int) (y2:List (List (ByteArray×(List Int)))) (y4:List Int) (y5:Int) (y7:Int) (y8:Int) (y9:Int) (y10:Int) (y11:Int) (y12:Int) (y13:Int) (x:(List (List (ByteArray×(List Int))))×Int):Option ((Bool×(List (List (ByteArray×(List Int))))) ⊕ ((List (List (ByteArray×(List Int)))))) := loopO (g_Si_GloDo_2 y0 y1 y2 y4 y5 y7 y8 y9 y10 y11 y12 y13) x
noncomputable def xi_GloDo_2 (y0:List (List (ByteArray×(List Int)))) (y1:Int) (y2:List (List (ByteArray×(List Int)))) (y4:List Int) (y5:Int) (y7:Int) (y8:Int) (y9:Int) (y10:Int) (y11:Int) (y12:Int) (y13:Int):((Bool×(List (List (ByteArray×(List Int))))) ⊕ ((List (List (ByteArray×(List Int)))))) → Ex×List (Pl×LV) := fun
 | .inl r => (.ret,[(.T 6,.t (.val false [.row 6 0 0])),(.R 6 0,.r 0 (some ⟨false,.any,true,32,(.sl 42 (.pair .str (.sl 3 (.int .i64)))),y2⟩)),(.T 7,.t (.val false [.bool r.1])),(.T 9,.t (.val false [.row 9 0 0])),(.R 9 0,.r 0 (some ⟨false,.any,true,32,(.sl 42 (.pair .str (.sl 3 (.int .i64)))),r.2⟩))])
 | .inr (r) => (.exit 2,[(.T 6,.t (.val false [.undef])),(.T 7,.t (.val false [.undef])),(.T 9,.t (.val false [.row 9 0 0])),(.R 9 0,.r 0 (some ⟨false,.any,true,32,(.sl 42 (.pair .str (.sl 3 (.int .i64)))),r⟩))])
noncomputable def Oi_GloDo_2:Orc := fun b h => match b,h with
 | 2,[(.T 0,.t (.val false [.sl .any 32 (.sl 42 (.pair .str (.sl 3 (.int .i64)))) y0])),(.T 1,.t (.val false [.int .i64 y1])),(.T 5,.t (.val false [.ptr 5 0 0])),(.T 8,.t (.val false [.row 8 0 0])),(.R 8 0,.r 0 (some ⟨false,.any,true,32,(.sl 42 (.pair .str (.sl 3 (.int .i64)))),y2⟩)),(.T 9,.t (.val false [.row 9 0 0])),(.R 9 0,.r 0 (some ⟨false,.any,true,32,(.sl 42 (.pair .str (.sl 3 (.int .i64)))),y3⟩)),(.T 46,.t (.val false [.row 46 0 0])),(.R 46 0,.r 0 (some ⟨false,.any,true,3,(.int .i64),y4⟩)),(.T 47,.t (.val false [.int .i64 y5])),(.T 48,.t (.val false [.int .i64 y6])),(.B 5,.b 0 false [.int .i64 y7,.int .i64 y8,.int .i64 y9,.int .i64 y10,.int .i64 y11,.int .i64 y12,.int .i64 y13])] => some (okO (g_Li_GloDo_2 y0 y1 y2 y4 y5 y7 y8 y9 y10 y11 y12 y13 (y3,y6)),(.br (isL (valO (g_Li_GloDo_2 y0 y1 y2 y4 y5 y7 y8 y9 y10 y11 y12 y13 (y3,y6)))) (.leaf .ret [(.T 6,.t (.val false [.row 6 0 0])),(.R 6 0,.r 0 (some ⟨false,.any,true,32,(.sl 42 (.pair .str (.sl 3 (.int .i64)))),y2⟩)),(.T 7,.t (.val false [.bool (getL (valO (g_Li_GloDo_2 y0 y1 y2 y4 y5 y7 y8 y9 y10 y11 y12 y13 (y3,y6)))).1])),(.T 9,.t (.val false [.row 9 0 0])),(.R 9 0,.r 0 (some ⟨false,.any,true,32,(.sl 42 (.pair .str (.sl 3 (.int .i64)))),(getL (valO (g_Li_GloDo_2 y0 y1 y2 y4 y5 y7 y8 y9 y10 y11 y12 y13 (y3,y6)))).2⟩))]) (.leaf (.exit 2) [(.T 6,.t (.val false [.undef])),(.T 7,.t (.val false [.undef])),(.T 9,.t (.val false [.row 9 0 0])),(.R 9 0,.r 0 (some ⟨false,.any,true,32,(.sl 42 (.pair .str (.sl 3 (.int .i64)))),(getR (valO (g_Li_GloDo_2 y0 y1 y2 y4 y5 y7 y8 y9 y10 y11 y12 y13 (y3,y6))))⟩))])))
 | b,h => Oi_GloDo_1 b h
theorem bi_GloDo_2 (y0:List (List (ByteArray×(List Int)))) (y1:Int) (y2:List (List (ByteArray×(List Int)))) (y3:List (List (ByteArray×(List Int)))) (y4:List Int) (y5:Int) (y6:Int) (y7:Int) (y8:Int) (y9:Int) (y10:Int) (y11:Int) (y12:Int) (y13:Int):Tr.bt Ei_GloDo Oi_GloDo_1 (exec Ei_GloDo 2 ci_GloDo_2 (St.of (hi_GloDo_2 y0 y1 y2 y3 y4 y5 y6 y7 y8 y9 y10 y11 y12 y13)) (leafRd Ei_GloDo 2)) = (g_Si_GloDo_2 y0 y1 y2 y4 y5 y7 y8 y9 y10 y11 y12 y13 (y3,y6)).bt (fun ((y3,y6):(List (List (ByteArray×(List Int))))×Int) => (hi_GloDo_2 y0 y1 y2 y3 y4 y5 y6 y7 y8 y9 y10 y11 y12 y13)) (xi_GloDo_2 y0 y1 y2 y4 y5 y7 y8 y9 y10 y11 y12 y13) := by kernel_rfl
theorem ki_GloDo_2:OrcOk Ei_GloDo Oi_GloDo_2 lsi_GloDo 2 := orc_add ki_GloDo_1 (fun n p hp h ex h' ho => by
 obtain ⟨b,c⟩ := p
 obtain ⟨xt,h1,h2⟩ := ho
 have h1:Oi_GloDo_2 b h = some (true,xt) := h1
 unfold Oi_GloDo_2 at h1
 split at h1
 ·injection h1 with h1
  injection h1 with e1 e2
  subst e2
  have hc:c = ci_GloDo_2 := mi_GloDo_2 _ hp rfl
  subst hc
  right
  rename_i y0 y1 y2 y3 y4 y5 y6 y7 y8 y9 y10 y11 y12 y13
  have key := LT_step ki_GloDo_1 hp (fun q hq => loopsAll_in _ _ _ _ hp hq) (fun ((y3,y6):(List (List (ByteArray×(List Int))))×Int) => (hi_GloDo_2 y0 y1 y2 y3 y4 y5 y6 y7 y8 y9 y10 y11 y12 y13)) (xi_GloDo_2 y0 y1 y2 y4 y5 y7 y8 y9 y10 y11 y12 y13) (g_Si_GloDo_2 y0 y1 y2 y4 y5 y7 y8 y9 y10 y11 y12 y13) (fun x => by first | exact bi_GloDo_2 y0 y1 y2 x.1 y4 y5 x.2 y7 y8 y9 y10 y11 y12 y13) n (x := (y3,y6)) (okO_some e1)
  have hx:∀ r,XT.sel (.br (isL r) (.leaf .ret [(.T 6,.t (.val false [.row 6 0 0])),(.R 6 0,.r 0 (some ⟨false,.any,true,32,(.sl 42 (.pair .str (.sl 3 (.int .i64)))),y2⟩)),(.T 7,.t (.val false [.bool (getL r).1])),(.T 9,.t (.val false [.row 9 0 0])),(.R 9 0,.r 0 (some ⟨false,.any,true,32,(.sl 42 (.pair .str (.sl 3 (.int .i64)))),(getL r).2⟩))]) (.leaf (.exit 2) [(.T 6,.t (.val false [.undef])),(.T 7,.t (.val false [.undef])),(.T 9,.t (.val false [.row 9 0 0])),(.R 9 0,.r 0 (some ⟨false,.any,true,32,(.sl 42 (.pair .str (.sl 3 (.int .i64)))),(getR r)⟩))])) = xi_GloDo_2 y0 y1 y2 y4 y5 y7 y8 y9 y10 y11 y12 y13 r := fun r => by first | rfl | (rcases r with r | r <;> rfl) | (rcases r with r | r | r <;> rfl) | (rcases r with r | r | r | r <;> rfl)
  have h3 := (hx (valO (g_Li_GloDo_2 y0 y1 y2 y4 y5 y7 y8 y9 y10 y11 y12 y13 (y3,y6)))).symm.trans h2
  have e3 := congrArg Prod.fst h3
  have e4 := congrArg Prod.snd h3
  simp only at e3 e4
  rw [← e3,← e4]
  exact key
 ·exact .inl ⟨xt,h1,h2⟩)
noncomputable def g_Ai_GloDo (a0:List (List (ByteArray×(List Int)))) (a1:Int) (a2:Int) (a3:Int) (a4:Int) (a5:Int) (a6:Int) (a7:Int) (a8:Int):Bool := g_Ai_GloOk a0&&(!g_Vi_GloOk_0 a0 || g_Ai_OpOk a2 a3 a4 a5 a6 a7 a8&&(!g_Vi_OpOk_0 a2 a3 a4 a5 a6 a7 a8 || g_Ai_isTx a1&&(!g_Vi_isTx_0 a1 || okO (g_Li_GloDo_0 a0 a1 a0 (↑(List.length a0):Int) a2 a3 a4 a5 a6 a7 a8 ([],[],(0:Int)))&&(g_Ai_OpPlaces a2 a3 a4 a5 a6 a7 a8&&okO (g_Li_GloDo_2 a0 a1 (valO (g_Li_GloDo_0 a0 a1 a0 (↑(List.length a0):Int) a2 a3 a4 a5 a6 a7 a8 ([],[],(0:Int)))).1 (g_Vi_OpPlaces_0 a2 a3 a4 a5 a6 a7 a8) (↑(List.length (g_Vi_OpPlaces_0 a2 a3 a4 a5 a6 a7 a8)):Int) a2 a3 a4 a5 a6 a7 a8 ((valO (g_Li_GloDo_0 a0 a1 a0 (↑(List.length a0):Int) a2 a3 a4 a5 a6 a7 a8 ([],[],(0:Int)))).2,(0:Int)))))))
noncomputable def g_Vi_GloDo_0 (a0:List (List (ByteArray×(List Int)))) (a1:Int) (a2:Int) (a3:Int) (a4:Int) (a5:Int) (a6:Int) (a7:Int) (a8:Int):List (List (ByteArray×(List Int))) := bif !g_Vi_GloOk_0 a0 then [] else bif !g_Vi_OpOk_0 a2 a3 a4 a5 a6 a7 a8 then [] else bif !g_Vi_isTx_0 a1 then [] else bif isL (valO (g_Li_GloDo_2 a0 a1 (valO (g_Li_GloDo_0 a0 a1 a0 (↑(List.length a0):Int) a2 a3 a4 a5 a6 a7 a8 ([],[],(0:Int)))).1 (g_Vi_OpPlaces_0 a2 a3 a4 a5 a6 a7 a8) (↑(List.length (g_Vi_OpPlaces_0 a2 a3 a4 a5 a6 a7 a8)):Int) a2 a3 a4 a5 a6 a7 a8 ((valO (g_Li_GloDo_0 a0 a1 a0 (↑(List.length a0):Int) a2 a3 a4 a5 a6 a7 a8 ([],[],(0:Int)))).2,(0:Int)))) then (valO (g_Li_GloDo_0 a0 a1 a0 (↑(List.length a0):Int) a2 a3 a4 a5 a6 a7 a8 ([],[],(0:Int)))).1 else getR (valO (g_Li_GloDo_2 a0 a1 (valO (g_Li_GloDo_0 a0 a1 a0 (↑(List.length a0):Int) a2 a3 a4 a5 a6 a7 a8 ([],[],(0:Int)))).1 (g_Vi_OpPlaces_0 a2 a3 a4 a5 a6 a7 a8) (↑(List.length (g_Vi_OpPlaces_0 a2 a3 a4 a5 a6 a7 a8)):Int) a2 a3 a4 a5 a6 a7 a8 ((valO (g_Li_GloDo_0 a0 a1 a0 (↑(List.length a0):Int) a2 a3 a4 a5 a6 a7 a8 ([],[],(0:Int)))).2,(0:Int))))
noncomputable def g_Vi_GloDo_1 (a0:List (List (ByteArray×(List Int)))) (a1:Int) (a2:Int) (a3:Int) (a4:Int) (a5:Int) (a6:Int) (a7:Int) (a8:Int):Bool := bif !g_Vi_GloOk_0 a0 then false else bif !g_Vi_OpOk_0 a2 a3 a4 a5 a6 a7 a8 then false else bif !g_Vi_isTx_0 a1 then false else bif isL (valO (g_Li_GloDo_2 a0 a1 (valO (g_Li_GloDo_0 a0 a1 a0 (↑(List.length a0):Int) a2 a3 a4 a5 a6 a7 a8 ([],[],(0:Int)))).1 (g_Vi_OpPlaces_0 a2 a3 a4 a5 a6 a7 a8) (↑(List.length (g_Vi_OpPlaces_0 a2 a3 a4 a5 a6 a7 a8)):Int) a2 a3 a4 a5 a6 a7 a8 ((valO (g_Li_GloDo_0 a0 a1 a0 (↑(List.length a0):Int) a2 a3 a4 a5 a6 a7 a8 ([],[],(0:Int)))).2,(0:Int)))) then (getL (valO (g_Li_GloDo_2 a0 a1 (valO (g_Li_GloDo_0 a0 a1 a0 (↑(List.length a0):Int) a2 a3 a4 a5 a6 a7 a8 ([],[],(0:Int)))).1 (g_Vi_OpPlaces_0 a2 a3 a4 a5 a6 a7 a8) (↑(List.length (g_Vi_OpPlaces_0 a2 a3 a4 a5 a6 a7 a8)):Int) a2 a3 a4 a5 a6 a7 a8 ((valO (g_Li_GloDo_0 a0 a1 a0 (↑(List.length a0):Int) a2 a3 a4 a5 a6 a7 a8 ([],[],(0:Int)))).2,(0:Int))))).1 else true
noncomputable def Fi_GloDo:FSem := fun ys => match ys with
 | [.val false [.sl .any 32 (.sl 42 (.pair .str (.sl 3 (.int .i64)))) a0],.val false [.int .i64 a1],.val true [.int .i64 a2,.int .i64 a3,.int .i64 a4,.int .i64 a5,.int .i64 a6,.int .i64 a7,.int .i64 a8]] => some ((g_Ai_GloDo a0 a1 a2 a3 a4 a5 a6 a7 a8),.tup [(false,[.own .any true 32 (.sl 42 (.pair .str (.sl 3 (.int .i64)))) (g_Vi_GloDo_0 a0 a1 a2 a3 a4 a5 a6 a7 a8)]),(false,[.bool (g_Vi_GloDo_1 a0 a1 a2 a3 a4 a5 a6 a7 a8)])],[])
 | _ => none
theorem vi_GloDo (a0:List (List (ByteArray×(List Int)))) (a1:Int) (a2:Int) (a3:Int) (a4:Int) (a5:Int) (a6:Int) (a7:Int) (a8:Int):collapseH .std Ei_GloDo Oi_GloDo_2 (execFn Ei_GloDo Tryd.f14 msi_GloDo [.val false [.sl .any 32 (.sl 42 (.pair .str (.sl 3 (.int .i64)))) a0],.val false [.int .i64 a1],.val true [.int .i64 a2,.int .i64 a3,.int .i64 a4,.int .i64 a5,.int .i64 a6,.int .i64 a7,.int .i64 a8]]) = some ((g_Ai_GloDo a0 a1 a2 a3 a4 a5 a6 a7 a8),.tup [(false,[.own .any true 32 (.sl 42 (.pair .str (.sl 3 (.int .i64)))) (g_Vi_GloDo_0 a0 a1 a2 a3 a4 a5 a6 a7 a8)]),(false,[.bool (g_Vi_GloDo_1 a0 a1 a2 a3 a4 a5 a6 a7 a8)])],[]) := by kernel_rfl
theorem si_GloDo:Sound Tryd.prog 14 msi_GloDo Fi_GloDo := by
 refine fn_gen goodi_GloDo (by kernel_rfl) .std (fn := Tryd.f14) (c := (Tryd.f14.body.getD .skip)) (o := Oi_GloDo_2) (k := 2) (by kernel_rfl) (by kernel_rfl) (by kernel_rfl) (by kernel_rfl) (by decide) ki_GloDo_2 ?_
 intro ys r outs h
 unfold Fi_GloDo at h
 split at h
 ·exact (vi_GloDo _ _ _ _ _ _ _ _ _).trans h
 ·cases h
noncomputable def Ei_GloNew:Env where
 tt := mkTI Tryd.prog
 fn := fun _ => none
 bxf := fun _ => none
 mv := []
 keep := fun _ => []
 keepB := fun _ => []
 keepX := fun _ => []
 keepXB := fun _ => []
theorem goodFi_GloNew:∀ f ms F,Ei_GloNew.fn f = some (ms,F) → Sound Tryd.prog f ms F := fun f ms F h => by cases h
theorem goodBi_GloNew:∀ f ms F,Ei_GloNew.bxf f = some (ms,F) → SoundB Tryd.prog f ms F := fun f ms F h => by cases h
theorem goodi_GloNew:Good Tryd.prog Ei_GloNew := ⟨rfl,goodFi_GloNew,goodBi_GloNew⟩
noncomputable def Oi_GloNew_0:Orc := fun _ _ => none
noncomputable def msi_GloNew:List PM := []
noncomputable def lsi_GloNew:List (Nat×Code) := loopsAll 0 (Tryd.f17.body.getD .skip)
theorem ki_GloNew_0:OrcOk Ei_GloNew Oi_GloNew_0 lsi_GloNew 0 := orcOk_none
noncomputable def g_Vi_GloNew_0:List (List (ByteArray×(List Int))) := [[],[],[]]
noncomputable def Fi_GloNew:FSem := fun ys => match ys with
 | [] => some (true,.val false [.own .any true 32 (.sl 42 (.pair .str (.sl 3 (.int .i64)))) g_Vi_GloNew_0],[])
 | _ => none
theorem vi_GloNew:collapseH .std Ei_GloNew Oi_GloNew_0 (execFn Ei_GloNew Tryd.f17 msi_GloNew []) = some (true,.val false [.own .any true 32 (.sl 42 (.pair .str (.sl 3 (.int .i64)))) g_Vi_GloNew_0],[]) := by kernel_rfl
theorem si_GloNew:Sound Tryd.prog 17 msi_GloNew Fi_GloNew := by
 refine fn_gen goodi_GloNew (by kernel_rfl) .std (fn := Tryd.f17) (c := (Tryd.f17.body.getD .skip)) (o := Oi_GloNew_0) (k := 0) (by kernel_rfl) (by kernel_rfl) (by kernel_rfl) (by kernel_rfl) (by decide) ki_GloNew_0 ?_
 intro ys r outs h
 unfold Fi_GloNew at h
 split at h
 ·exact (vi_GloNew).trans h
 ·cases h
noncomputable def Es_l20Rd_pick0:Env where
 tt := mkTI Tryd.prog
 fn := fun _ => none
 bxf := fun _ => none
 mv := []
 keep := fun _ => []
 keepB := fun _ => []
 keepX := fun _ => []
 keepXB := fun _ => []
theorem goodFs_l20Rd_pick0:∀ f ms F,Es_l20Rd_pick0.fn f = some (ms,F) → Sound Tryd.prog f ms F := fun f ms F h => by cases h
theorem goodBs_l20Rd_pick0:∀ f ms F,Es_l20Rd_pick0.bxf f = some (ms,F) → SoundB Tryd.prog f ms F := fun f ms F h => by cases h
theorem goods_l20Rd_pick0:Good Tryd.prog Es_l20Rd_pick0 := ⟨rfl,goodFs_l20Rd_pick0,goodBs_l20Rd_pick0⟩
noncomputable def Os_l20Rd_pick0_0:Orc := fun _ _ => none
noncomputable def mss_l20Rd_pick0:List PM := [.bx,.own]
noncomputable def lss_l20Rd_pick0:List (Nat×Code) := loopsAll 0 (Tryd.f36.body.getD .skip)
theorem ks_l20Rd_pick0_0:OrcOk Es_l20Rd_pick0 Os_l20Rd_pick0_0 lss_l20Rd_pick0 0 := orcOk_none
noncomputable def g_As_l20Rd_pick0 (r0:List Int) (r1:Int) (a2:Int):Bool := decide (a2 < (1:Int)) || ((↑(List.length r0):Int) == (0:Int) || bif decide (IntKind.wrap IntKind.i64 (IntKind.wrap IntKind.i64 (r1 + (1:Int)) - (1:Int)) < (↑(List.length r0):Int)) then decide ((0:Int) ≤ IntKind.wrap IntKind.i64 (IntKind.wrap IntKind.i64 (r1 + (1:Int)) - (1:Int)) ∧ IntKind.wrap IntKind.i64 (IntKind.wrap IntKind.i64 (r1 + (1:Int)) - (1:Int)) < (↑(List.length r0):Int))&&!a2 == (0:Int) else !(↑(List.length r0):Int) == (0:Int)&&(decide ((0:Int) ≤ Int.tmod (IntKind.wrap IntKind.i64 (IntKind.wrap IntKind.i64 (r1 + (1:Int)) - (1:Int))) (↑(List.length r0):Int) ∧ Int.tmod (IntKind.wrap IntKind.i64 (IntKind.wrap IntKind.i64 (r1 + (1:Int)) - (1:Int))) (↑(List.length r0):Int) < (↑(List.length r0):Int))&&(!(↑(List.length r0):Int) == (0:Int)&&(decide ((0:Int) ≤ Int.tmod (IntKind.wrap IntKind.i64 (IntKind.wrap IntKind.i64 (IntKind.wrap IntKind.i64 (IntKind.wrap IntKind.i64 (r1 + (1:Int)) - (1:Int)) * (7:Int)) + (3:Int))) (↑(List.length r0):Int) ∧ Int.tmod (IntKind.wrap IntKind.i64 (IntKind.wrap IntKind.i64 (IntKind.wrap IntKind.i64 (IntKind.wrap IntKind.i64 (r1 + (1:Int)) - (1:Int)) * (7:Int)) + (3:Int))) (↑(List.length r0):Int) < (↑(List.length r0):Int))&&(!(↑(List.length r0):Int) == (0:Int)&&!a2 == (0:Int))))))
noncomputable def g_Vs_l20Rd_pick0_0 (r0:List Int) (r1:Int) (a2:Int):Int := bif decide (a2 < (1:Int)) then (0:Int) else bif (↑(List.length r0):Int) == (0:Int) then (0:Int) else bif decide (IntKind.wrap IntKind.i64 (IntKind.wrap IntKind.i64 (r1 + (1:Int)) - (1:Int)) < (↑(List.length r0):Int)) then Int.tmod (IntKind.wrap IntKind.i64 (at_ (Ty.int IntKind.u8) r0 (Int.toNat (IntKind.wrap IntKind.i64 (IntKind.wrap IntKind.i64 (r1 + (1:Int)) - (1:Int)))))) a2 else Int.tmod (IntKind.wrap IntKind.i64 (↑(BitVec.toNat (BitVec.ofInt (nat_lit 64) (IntKind.wrap IntKind.i64 (IntKind.wrap IntKind.i64 (IntKind.wrap IntKind.i64 (IntKind.wrap IntKind.i64 (IntKind.wrap IntKind.i64 (at_ (Ty.int IntKind.u8) r0 (Int.toNat (Int.tmod (IntKind.wrap IntKind.i64 (IntKind.wrap IntKind.i64 (r1 + (1:Int)) - (1:Int))) (↑(List.length r0):Int)))) * (131:Int)) + IntKind.wrap IntKind.i64 (IntKind.wrap IntKind.i64 (at_ (Ty.int IntKind.u8) r0 (Int.toNat (Int.tmod (IntKind.wrap IntKind.i64 (IntKind.wrap IntKind.i64 (IntKind.wrap IntKind.i64 (IntKind.wrap IntKind.i64 (r1 + (1:Int)) - (1:Int)) * (7:Int)) + (3:Int))) (↑(List.length r0):Int)))) * (1117:Int))) + IntKind.wrap IntKind.i64 (IntKind.wrap IntKind.i64 (IntKind.wrap IntKind.i64 (r1 + (1:Int)) - (1:Int)) * (29:Int))) + IntKind.wrap IntKind.i64 (IntKind.wrap IntKind.i64 (Int.tdiv (IntKind.wrap IntKind.i64 (IntKind.wrap IntKind.i64 (r1 + (1:Int)) - (1:Int))) (↑(List.length r0):Int)) * (53:Int)))) ^^^ BitVec.ofInt (nat_lit 64) (IntKind.wrap IntKind.i64 (Int.tdiv (IntKind.wrap IntKind.i64 (IntKind.wrap IntKind.i64 (IntKind.wrap IntKind.i64 (IntKind.wrap IntKind.i64 (IntKind.wrap IntKind.i64 (at_ (Ty.int IntKind.u8) r0 (Int.toNat (Int.tmod (IntKind.wrap IntKind.i64 (IntKind.wrap IntKind.i64 (r1 + (1:Int)) - (1:Int))) (↑(List.length r0):Int)))) * (131:Int)) + IntKind.wrap IntKind.i64 (IntKind.wrap IntKind.i64 (at_ (Ty.int IntKind.u8) r0 (Int.toNat (Int.tmod (IntKind.wrap IntKind.i64 (IntKind.wrap IntKind.i64 (IntKind.wrap IntKind.i64 (IntKind.wrap IntKind.i64 (r1 + (1:Int)) - (1:Int)) * (7:Int)) + (3:Int))) (↑(List.length r0):Int)))) * (1117:Int))) + IntKind.wrap IntKind.i64 (IntKind.wrap IntKind.i64 (IntKind.wrap IntKind.i64 (r1 + (1:Int)) - (1:Int)) * (29:Int))) + IntKind.wrap IntKind.i64 (IntKind.wrap IntKind.i64 (Int.tdiv (IntKind.wrap IntKind.i64 (IntKind.wrap IntKind.i64 (r1 + (1:Int)) - (1:Int))) (↑(List.length r0):Int)) * (53:Int)))) (64:Int))))):Int)) a2
noncomputable def g_Vs_l20Rd_pick0_1 (r0:List Int) (r1:Int) (a2:Int):List Int := bif decide (a2 < (1:Int)) then r0 else bif (↑(List.length r0):Int) == (0:Int) then r0 else bif decide (IntKind.wrap IntKind.i64 (IntKind.wrap IntKind.i64 (r1 + (1:Int)) - (1:Int)) < (↑(List.length r0):Int)) then r0 else r0
noncomputable def g_Vs_l20Rd_pick0_2 (r0:List Int) (r1:Int) (a2:Int):Int := bif decide (a2 < (1:Int)) then IntKind.wrap IntKind.i64 (r1 + (1:Int)) else bif (↑(List.length r0):Int) == (0:Int) then IntKind.wrap IntKind.i64 (r1 + (1:Int)) else bif decide (IntKind.wrap IntKind.i64 (IntKind.wrap IntKind.i64 (r1 + (1:Int)) - (1:Int)) < (↑(List.length r0):Int)) then IntKind.wrap IntKind.i64 (r1 + (1:Int)) else IntKind.wrap IntKind.i64 (r1 + (1:Int))
noncomputable def Fs_l20Rd_pick0:FSem := fun ys => match ys with
 | [.val true [.sl .any 5 (.int .u8) r0,.int .i64 r1],.val false [.int .i64 a2]] => some ((g_As_l20Rd_pick0 r0 r1 a2),.val false [.int .i64 (g_Vs_l20Rd_pick0_0 r0 r1 a2)],[[.sl .any 5 (.int .u8) (g_Vs_l20Rd_pick0_1 r0 r1 a2),.int .i64 (g_Vs_l20Rd_pick0_2 r0 r1 a2)]])
 | _ => none
theorem vs_l20Rd_pick0 (r0:List Int) (r1:Int) (a2:Int):collapseH .std Es_l20Rd_pick0 Os_l20Rd_pick0_0 (execFn Es_l20Rd_pick0 Tryd.f36 mss_l20Rd_pick0 [.val true [.sl .any 5 (.int .u8) r0,.int .i64 r1],.val false [.int .i64 a2]]) = some ((g_As_l20Rd_pick0 r0 r1 a2),.val false [.int .i64 (g_Vs_l20Rd_pick0_0 r0 r1 a2)],[[.sl .any 5 (.int .u8) (g_Vs_l20Rd_pick0_1 r0 r1 a2),.int .i64 (g_Vs_l20Rd_pick0_2 r0 r1 a2)]]) := by kernel_rfl
theorem ss_l20Rd_pick0:Sound Tryd.prog 36 mss_l20Rd_pick0 Fs_l20Rd_pick0 := by
 refine fn_gen goods_l20Rd_pick0 (by kernel_rfl) .std (fn := Tryd.f36) (c := (Tryd.f36.body.getD .skip)) (o := Os_l20Rd_pick0_0) (k := 0) (by kernel_rfl) (by kernel_rfl) (by kernel_rfl) (by kernel_rfl) (by decide) ks_l20Rd_pick0_0 ?_
 intro ys r outs h
 unfold Fs_l20Rd_pick0 at h
 split at h
 ·exact (vs_l20Rd_pick0 _ _ _).trans h
 ·cases h
noncomputable def mss_l20Rd_pick:List PM := mss_l20Rd_pick0
noncomputable def g_pick (r0:List Int) (r1:Int) (n:Int):Int := g_Vs_l20Rd_pick0_0 r0 r1 n
noncomputable def g_pickA (r0:List Int) (r1:Int) (n:Int):Bool := g_As_l20Rd_pick0 r0 r1 n
noncomputable def Fs_l20Rd_pick:FSem := fun ys => match ys with
 | [.val true [.sl .any 5 (.int .u8) r0,.int .i64 r1],.val false [.int .i64 a2]] => some (g_pickA r0 r1 a2,.val false [.int .i64 (g_pick r0 r1 a2)],[[.sl .any 5 (.int .u8) r0,.int .i64 (IntKind.wrap .i64 (r1 + 1))]])
 | _ => none
theorem ss_l20Rd_pick:Sound Tryd.prog 36 mss_l20Rd_pick Fs_l20Rd_pick := by
 refine ⟨ss_l20Rd_pick0.fn,fun w S ψ ys vs r outs hF hh hg => ss_l20Rd_pick0.calls w S ψ ys vs r outs (Eq.trans ?_ hF) hh hg⟩
 unfold Fs_l20Rd_pick at hF ⊢
 split at hF
 ·rename_i r0 r1 a2
  have e1:g_Vs_l20Rd_pick0_1 r0 r1 a2 = r0 := by unfold g_Vs_l20Rd_pick0_1; generalize decide (a2 < (1:Int)) = p; generalize ((r0.length:Int) == (0:Int)) = q; cases p <;> cases q <;> simp
  have e2:g_Vs_l20Rd_pick0_2 r0 r1 a2 = IntKind.wrap .i64 (r1 + 1) := by unfold g_Vs_l20Rd_pick0_2; generalize decide (a2 < (1:Int)) = p; generalize ((r0.length:Int) == (0:Int)) = q; cases p <;> cases q <;> simp
  show some (g_As_l20Rd_pick0 r0 r1 a2,RV.val false [Cell.int .i64 (g_Vs_l20Rd_pick0_0 r0 r1 a2)],[[Cell.sl .any 5 (.int .u8) (g_Vs_l20Rd_pick0_1 r0 r1 a2),Cell.int .i64 (g_Vs_l20Rd_pick0_2 r0 r1 a2)]]) = _
  rw [e1,e2]
  rfl
 ·cases hF
noncomputable def Es_l20Rd_odd:Env where
 tt := mkTI Tryd.prog
 fn := fun f => match f with
  | 36 => some (mss_l20Rd_pick,FSem.wk mss_l20Rd_pick Fs_l20Rd_pick)
  | _ => none
 bxf := fun _ => none
 mv := []
 keep := fun _ => []
 keepB := fun _ => []
 keepX := fun _ => []
 keepXB := fun _ => []
theorem goodFs_l20Rd_odd:∀ f ms F,Es_l20Rd_odd.fn f = some (ms,F) → Sound Tryd.prog f ms F := fun f ms F h => by
 unfold Es_l20Rd_odd at h
 dsimp only at h
 split at h
 ·injection h with h; injection h with e1 e2; subst e1 e2; exact Sound.wk ss_l20Rd_pick
 ·cases h
theorem goodBs_l20Rd_odd:∀ f ms F,Es_l20Rd_odd.bxf f = some (ms,F) → SoundB Tryd.prog f ms F := fun f ms F h => by cases h
theorem goods_l20Rd_odd:Good Tryd.prog Es_l20Rd_odd := ⟨rfl,goodFs_l20Rd_odd,goodBs_l20Rd_odd⟩
noncomputable def Os_l20Rd_odd_0:Orc := fun _ _ => none
noncomputable def mss_l20Rd_odd:List PM := [.bx,.own]
noncomputable def lss_l20Rd_odd:List (Nat×Code) := loopsAll 0 (Tryd.f43.body.getD .skip)
theorem ks_l20Rd_odd_0:OrcOk Es_l20Rd_odd Os_l20Rd_odd_0 lss_l20Rd_odd 0 := orcOk_none
noncomputable def g_As_l20Rd_odd (r0:List Int) (r1:Int) (a2:Int):Bool := !decide (a2 > (0:Int)) || g_pickA r0 r1 a2&&true
noncomputable def g_Vs_l20Rd_odd_0 (r0:List Int) (r1:Int) (a2:Int):Bool := bif decide (a2 > (0:Int)) then g_pick r0 r1 a2 == IntKind.wrap IntKind.i64 (a2 - (1:Int)) else false
noncomputable def g_Vs_l20Rd_odd_1 (r0:List Int) (r1:Int) (a2:Int):List Int := bif decide (a2 > (0:Int)) then r0 else r0
noncomputable def g_Vs_l20Rd_odd_2 (r0:List Int) (r1:Int) (a2:Int):Int := bif decide (a2 > (0:Int)) then IntKind.wrap IntKind.i64 (r1 + (1:Int)) else r1
noncomputable def Fs_l20Rd_odd:FSem := fun ys => match ys with
 | [.val true [.sl .any 5 (.int .u8) r0,.int .i64 r1],.val false [.int .i64 a2]] => some ((g_As_l20Rd_odd r0 r1 a2),.val false [.bool (g_Vs_l20Rd_odd_0 r0 r1 a2)],[[.sl .any 5 (.int .u8) (g_Vs_l20Rd_odd_1 r0 r1 a2),.int .i64 (g_Vs_l20Rd_odd_2 r0 r1 a2)]])
 | _ => none
theorem vs_l20Rd_odd (r0:List Int) (r1:Int) (a2:Int):collapseH .std Es_l20Rd_odd Os_l20Rd_odd_0 (execFn Es_l20Rd_odd Tryd.f43 mss_l20Rd_odd [.val true [.sl .any 5 (.int .u8) r0,.int .i64 r1],.val false [.int .i64 a2]]) = some ((g_As_l20Rd_odd r0 r1 a2),.val false [.bool (g_Vs_l20Rd_odd_0 r0 r1 a2)],[[.sl .any 5 (.int .u8) (g_Vs_l20Rd_odd_1 r0 r1 a2),.int .i64 (g_Vs_l20Rd_odd_2 r0 r1 a2)]]) := by kernel_rfl
theorem ss_l20Rd_odd:Sound Tryd.prog 43 mss_l20Rd_odd Fs_l20Rd_odd := by
 refine fn_gen goods_l20Rd_odd (by kernel_rfl) .std (fn := Tryd.f43) (c := (Tryd.f43.body.getD .skip)) (o := Os_l20Rd_odd_0) (k := 0) (by kernel_rfl) (by kernel_rfl) (by kernel_rfl) (by kernel_rfl) (by decide) ks_l20Rd_odd_0 ?_
 intro ys r outs h
 unfold Fs_l20Rd_odd at h
 split at h
 ·exact (vs_l20Rd_odd _ _ _).trans h
 ·cases h
noncomputable def mss_l20Rd_oddR:List PM := mss_l20Rd_odd
theorem sames_l20Rd_odd (r0:List Int) (r1:Int) (a2:Int):g_Vs_l20Rd_odd_1 r0 r1 a2 = r0 := by
 unfold g_Vs_l20Rd_odd_1
 simp only [Bool.cond_self]
noncomputable def Fs_l20Rd_oddR:FSem := fun ys => match ys with
 | [.val true [.sl .any 5 (.int .u8) r0,.int .i64 r1],.val false [.int .i64 a2]] => some ((g_As_l20Rd_odd r0 r1 a2),.val false [.bool (g_Vs_l20Rd_odd_0 r0 r1 a2)],[[.sl .any 5 (.int .u8) r0,.int .i64 (g_Vs_l20Rd_odd_2 r0 r1 a2)]])
 | _ => none
theorem ss_l20Rd_oddR:Sound Tryd.prog 43 mss_l20Rd_oddR Fs_l20Rd_oddR := by
 refine ⟨ss_l20Rd_odd.fn,fun w S ψ ys vs r outs hF hh hg => ss_l20Rd_odd.calls w S ψ ys vs r outs (Eq.trans ?_ hF) hh hg⟩
 unfold Fs_l20Rd_oddR at hF ⊢
 split at hF
 ·rename_i  r0 r1 a2
  show (some ((g_As_l20Rd_odd r0 r1 a2),.val false [.bool (g_Vs_l20Rd_odd_0 r0 r1 a2)],[[.sl .any 5 (.int .u8) (g_Vs_l20Rd_odd_1 r0 r1 a2),.int .i64 (g_Vs_l20Rd_odd_2 r0 r1 a2)]]):Option (Bool×RV×List (List Cell))) = _
  rw [sames_l20Rd_odd]
 ·cases hF
noncomputable def Es_l20Op:Env where
 tt := mkTI Tryd.prog
 fn := fun f => match f with
  | 36 => some (mss_l20Rd_pick,FSem.wk mss_l20Rd_pick Fs_l20Rd_pick)
  | 43 => some (mss_l20Rd_oddR,FSem.wk mss_l20Rd_oddR Fs_l20Rd_oddR)
  | _ => none
 bxf := fun _ => none
 mv := []
 keep := fun _ => []
 keepB := fun _ => []
 keepX := fun _ => []
 keepXB := fun _ => []
theorem goodFs_l20Op:∀ f ms F,Es_l20Op.fn f = some (ms,F) → Sound Tryd.prog f ms F := fun f ms F h => by
 unfold Es_l20Op at h
 dsimp only at h
 split at h
 ·injection h with h; injection h with e1 e2; subst e1 e2; exact Sound.wk ss_l20Rd_pick
 ·injection h with h; injection h with e1 e2; subst e1 e2; exact Sound.wk ss_l20Rd_oddR
 ·cases h
theorem goodBs_l20Op:∀ f ms F,Es_l20Op.bxf f = some (ms,F) → SoundB Tryd.prog f ms F := fun f ms F h => by cases h
theorem goods_l20Op:Good Tryd.prog Es_l20Op := ⟨rfl,goodFs_l20Op,goodBs_l20Op⟩
noncomputable def Os_l20Op_0:Orc := fun _ _ => none
noncomputable def mss_l20Op:List PM := [.bx,.own]
noncomputable def lss_l20Op:List (Nat×Code) := loopsAll 0 (Tryd.f37.body.getD .skip)
theorem ks_l20Op_0:OrcOk Es_l20Op Os_l20Op_0 lss_l20Op 0 := orcOk_none
noncomputable def g_As_l20Op (r0:List Int) (r1:Int) (a2:Int):Bool := g_pickA r0 r1 (5:Int)&&bif IntKind.wrap IntKind.i64 ((1:Int) + g_pick r0 r1 (5:Int)) == (1:Int) then bif IntKind.wrap IntKind.i64 ((1:Int) + g_pick r0 r1 (5:Int)) == (1:Int) then g_pickA r0 (u1 r1) (2:Int)&&(g_pickA r0 (u1 (u1 r1)) (3:Int)&&(g_As_l20Rd_odd r0 (u1 (u1 (u1 r1))) a2&&(!g_Vs_l20Rd_odd_0 r0 (u1 (u1 (u1 r1))) a2 || g_pickA r0 (g_Vs_l20Rd_odd_2 r0 (u1 (u1 (u1 r1))) a2) (5:Int)&&bif g_pick r0 (g_Vs_l20Rd_odd_2 r0 (u1 (u1 (u1 r1))) a2) (5:Int) == (0:Int) then g_pickA r0 (u1 (g_Vs_l20Rd_odd_2 r0 (u1 (u1 (u1 r1))) a2)) (2:Int)&&(decide ((0:Int) ≤ g_pick r0 (u1 (g_Vs_l20Rd_odd_2 r0 (u1 (u1 (u1 r1))) a2)) (2:Int) ∧ g_pick r0 (u1 (g_Vs_l20Rd_odd_2 r0 (u1 (u1 (u1 r1))) a2)) (2:Int) < (2:Int))&&decide (Int.toNat (g_pick r0 (u1 (g_Vs_l20Rd_odd_2 r0 (u1 (u1 (u1 r1))) a2)) (2:Int)) < nat_lit 2)) else bif g_pick r0 (g_Vs_l20Rd_odd_2 r0 (u1 (u1 (u1 r1))) a2) (5:Int) == (1:Int) then g_pickA r0 (u1 (g_Vs_l20Rd_odd_2 r0 (u1 (u1 (u1 r1))) a2)) (3:Int)&&(decide ((0:Int) ≤ g_pick r0 (u1 (g_Vs_l20Rd_odd_2 r0 (u1 (u1 (u1 r1))) a2)) (3:Int) ∧ g_pick r0 (u1 (g_Vs_l20Rd_odd_2 r0 (u1 (u1 (u1 r1))) a2)) (3:Int) < (3:Int))&&decide (Int.toNat (g_pick r0 (u1 (g_Vs_l20Rd_odd_2 r0 (u1 (u1 (u1 r1))) a2)) (3:Int)) < nat_lit 3)) else bif g_pick r0 (g_Vs_l20Rd_odd_2 r0 (u1 (u1 (u1 r1))) a2) (5:Int) == (2:Int) then g_pickA r0 (u1 (g_Vs_l20Rd_odd_2 r0 (u1 (u1 (u1 r1))) a2)) (3:Int)&&(decide ((0:Int) ≤ g_pick r0 (u1 (g_Vs_l20Rd_odd_2 r0 (u1 (u1 (u1 r1))) a2)) (3:Int) ∧ g_pick r0 (u1 (g_Vs_l20Rd_odd_2 r0 (u1 (u1 (u1 r1))) a2)) (3:Int) < (3:Int))&&decide (Int.toNat (g_pick r0 (u1 (g_Vs_l20Rd_odd_2 r0 (u1 (u1 (u1 r1))) a2)) (3:Int)) < nat_lit 3)) else bif g_pick r0 (g_Vs_l20Rd_odd_2 r0 (u1 (u1 (u1 r1))) a2) (5:Int) == (3:Int) then g_pickA r0 (u1 (g_Vs_l20Rd_odd_2 r0 (u1 (u1 (u1 r1))) a2)) (3:Int)&&(decide ((0:Int) ≤ g_pick r0 (u1 (g_Vs_l20Rd_odd_2 r0 (u1 (u1 (u1 r1))) a2)) (3:Int) ∧ g_pick r0 (u1 (g_Vs_l20Rd_odd_2 r0 (u1 (u1 (u1 r1))) a2)) (3:Int) < (3:Int))&&decide (Int.toNat (g_pick r0 (u1 (g_Vs_l20Rd_odd_2 r0 (u1 (u1 (u1 r1))) a2)) (3:Int)) < nat_lit 3)) else g_pickA r0 (u1 (g_Vs_l20Rd_odd_2 r0 (u1 (u1 (u1 r1))) a2)) (3:Int)&&(decide ((0:Int) ≤ g_pick r0 (u1 (g_Vs_l20Rd_odd_2 r0 (u1 (u1 (u1 r1))) a2)) (3:Int) ∧ g_pick r0 (u1 (g_Vs_l20Rd_odd_2 r0 (u1 (u1 (u1 r1))) a2)) (3:Int) < (3:Int))&&decide (Int.toNat (g_pick r0 (u1 (g_Vs_l20Rd_odd_2 r0 (u1 (u1 (u1 r1))) a2)) (3:Int)) < nat_lit 3))))) else bif IntKind.wrap IntKind.i64 ((1:Int) + g_pick r0 r1 (5:Int)) == (2:Int) then g_pickA r0 (u1 r1) (2:Int)&&(g_pickA r0 (u1 (u1 r1)) (3:Int)&&(g_pickA r0 (u1 (u1 (u1 r1))) (3:Int)&&(g_pickA r0 (u1 (u1 (u1 (u1 r1)))) (3:Int)&&(g_As_l20Rd_odd r0 (u1 (u1 (u1 (u1 (u1 r1))))) a2&&(!g_Vs_l20Rd_odd_0 r0 (u1 (u1 (u1 (u1 (u1 r1))))) a2 || g_pickA r0 (g_Vs_l20Rd_odd_2 r0 (u1 (u1 (u1 (u1 (u1 r1))))) a2) (5:Int)&&bif g_pick r0 (g_Vs_l20Rd_odd_2 r0 (u1 (u1 (u1 (u1 (u1 r1))))) a2) (5:Int) == (0:Int) then g_pickA r0 (u1 (g_Vs_l20Rd_odd_2 r0 (u1 (u1 (u1 (u1 (u1 r1))))) a2)) (2:Int)&&(decide ((0:Int) ≤ g_pick r0 (u1 (g_Vs_l20Rd_odd_2 r0 (u1 (u1 (u1 (u1 (u1 r1))))) a2)) (2:Int) ∧ g_pick r0 (u1 (g_Vs_l20Rd_odd_2 r0 (u1 (u1 (u1 (u1 (u1 r1))))) a2)) (2:Int) < (2:Int))&&decide (Int.toNat (g_pick r0 (u1 (g_Vs_l20Rd_odd_2 r0 (u1 (u1 (u1 (u1 (u1 r1))))) a2)) (2:Int)) < nat_lit 2)) else bif g_pick r0 (g_Vs_l20Rd_odd_2 r0 (u1 (u1 (u1 (u1 (u1 r1))))) a2) (5:Int) == (1:Int) then g_pickA r0 (u1 (g_Vs_l20Rd_odd_2 r0 (u1 (u1 (u1 (u1 (u1 r1))))) a2)) (3:Int)&&(decide ((0:Int) ≤ g_pick r0 (u1 (g_Vs_l20Rd_odd_2 r0 (u1 (u1 (u1 (u1 (u1 r1))))) a2)) (3:Int) ∧ g_pick r0 (u1 (g_Vs_l20Rd_odd_2 r0 (u1 (u1 (u1 (u1 (u1 r1))))) a2)) (3:Int) < (3:Int))&&decide (Int.toNat (g_pick r0 (u1 (g_Vs_l20Rd_odd_2 r0 (u1 (u1 (u1 (u1 (u1 r1))))) a2)) (3:Int)) < nat_lit 3)) else bif g_pick r0 (g_Vs_l20Rd_odd_2 r0 (u1 (u1 (u1 (u1 (u1 r1))))) a2) (5:Int) == (2:Int) then g_pickA r0 (u1 (g_Vs_l20Rd_odd_2 r0 (u1 (u1 (u1 (u1 (u1 r1))))) a2)) (3:Int)&&(decide ((0:Int) ≤ g_pick r0 (u1 (g_Vs_l20Rd_odd_2 r0 (u1 (u1 (u1 (u1 (u1 r1))))) a2)) (3:Int) ∧ g_pick r0 (u1 (g_Vs_l20Rd_odd_2 r0 (u1 (u1 (u1 (u1 (u1 r1))))) a2)) (3:Int) < (3:Int))&&decide (Int.toNat (g_pick r0 (u1 (g_Vs_l20Rd_odd_2 r0 (u1 (u1 (u1 (u1 (u1 r1))))) a2)) (3:Int)) < nat_lit 3)) else bif g_pick r0 (g_Vs_l20Rd_odd_2 r0 (u1 (u1 (u1 (u1 (u1 r1))))) a2) (5:Int) == (3:Int) then g_pickA r0 (u1 (g_Vs_l20Rd_odd_2 r0 (u1 (u1 (u1 (u1 (u1 r1))))) a2)) (3:Int)&&(decide ((0:Int) ≤ g_pick r0 (u1 (g_Vs_l20Rd_odd_2 r0 (u1 (u1 (u1 (u1 (u1 r1))))) a2)) (3:Int) ∧ g_pick r0 (u1 (g_Vs_l20Rd_odd_2 r0 (u1 (u1 (u1 (u1 (u1 r1))))) a2)) (3:Int) < (3:Int))&&decide (Int.toNat (g_pick r0 (u1 (g_Vs_l20Rd_odd_2 r0 (u1 (u1 (u1 (u1 (u1 r1))))) a2)) (3:Int)) < nat_lit 3)) else g_pickA r0 (u1 (g_Vs_l20Rd_odd_2 r0 (u1 (u1 (u1 (u1 (u1 r1))))) a2)) (3:Int)&&(decide ((0:Int) ≤ g_pick r0 (u1 (g_Vs_l20Rd_odd_2 r0 (u1 (u1 (u1 (u1 (u1 r1))))) a2)) (3:Int) ∧ g_pick r0 (u1 (g_Vs_l20Rd_odd_2 r0 (u1 (u1 (u1 (u1 (u1 r1))))) a2)) (3:Int) < (3:Int))&&decide (Int.toNat (g_pick r0 (u1 (g_Vs_l20Rd_odd_2 r0 (u1 (u1 (u1 (u1 (u1 r1))))) a2)) (3:Int)) < nat_lit 3))))))) else bif IntKind.wrap IntKind.i64 ((1:Int) + g_pick r0 r1 (5:Int)) == (3:Int) then g_pickA r0 (u1 r1) (3:Int)&&(g_pickA r0 (u1 (u1 r1)) (3:Int)&&(g_pickA r0 (u1 (u1 (u1 r1))) (3:Int)&&(g_As_l20Rd_odd r0 (u1 (u1 (u1 (u1 r1)))) a2&&(!g_Vs_l20Rd_odd_0 r0 (u1 (u1 (u1 (u1 r1)))) a2 || g_pickA r0 (g_Vs_l20Rd_odd_2 r0 (u1 (u1 (u1 (u1 r1)))) a2) (5:Int)&&bif g_pick r0 (g_Vs_l20Rd_odd_2 r0 (u1 (u1 (u1 (u1 r1)))) a2) (5:Int) == (0:Int) then g_pickA r0 (u1 (g_Vs_l20Rd_odd_2 r0 (u1 (u1 (u1 (u1 r1)))) a2)) (2:Int)&&(decide ((0:Int) ≤ g_pick r0 (u1 (g_Vs_l20Rd_odd_2 r0 (u1 (u1 (u1 (u1 r1)))) a2)) (2:Int) ∧ g_pick r0 (u1 (g_Vs_l20Rd_odd_2 r0 (u1 (u1 (u1 (u1 r1)))) a2)) (2:Int) < (2:Int))&&decide (Int.toNat (g_pick r0 (u1 (g_Vs_l20Rd_odd_2 r0 (u1 (u1 (u1 (u1 r1)))) a2)) (2:Int)) < nat_lit 2)) else bif g_pick r0 (g_Vs_l20Rd_odd_2 r0 (u1 (u1 (u1 (u1 r1)))) a2) (5:Int) == (1:Int) then g_pickA r0 (u1 (g_Vs_l20Rd_odd_2 r0 (u1 (u1 (u1 (u1 r1)))) a2)) (3:Int)&&(decide ((0:Int) ≤ g_pick r0 (u1 (g_Vs_l20Rd_odd_2 r0 (u1 (u1 (u1 (u1 r1)))) a2)) (3:Int) ∧ g_pick r0 (u1 (g_Vs_l20Rd_odd_2 r0 (u1 (u1 (u1 (u1 r1)))) a2)) (3:Int) < (3:Int))&&decide (Int.toNat (g_pick r0 (u1 (g_Vs_l20Rd_odd_2 r0 (u1 (u1 (u1 (u1 r1)))) a2)) (3:Int)) < nat_lit 3)) else bif g_pick r0 (g_Vs_l20Rd_odd_2 r0 (u1 (u1 (u1 (u1 r1)))) a2) (5:Int) == (2:Int) then g_pickA r0 (u1 (g_Vs_l20Rd_odd_2 r0 (u1 (u1 (u1 (u1 r1)))) a2)) (3:Int)&&(decide ((0:Int) ≤ g_pick r0 (u1 (g_Vs_l20Rd_odd_2 r0 (u1 (u1 (u1 (u1 r1)))) a2)) (3:Int) ∧ g_pick r0 (u1 (g_Vs_l20Rd_odd_2 r0 (u1 (u1 (u1 (u1 r1)))) a2)) (3:Int) < (3:Int))&&decide (Int.toNat (g_pick r0 (u1 (g_Vs_l20Rd_odd_2 r0 (u1 (u1 (u1 (u1 r1)))) a2)) (3:Int)) < nat_lit 3)) else bif g_pick r0 (g_Vs_l20Rd_odd_2 r0 (u1 (u1 (u1 (u1 r1)))) a2) (5:Int) == (3:Int) then g_pickA r0 (u1 (g_Vs_l20Rd_odd_2 r0 (u1 (u1 (u1 (u1 r1)))) a2)) (3:Int)&&(decide ((0:Int) ≤ g_pick r0 (u1 (g_Vs_l20Rd_odd_2 r0 (u1 (u1 (u1 (u1 r1)))) a2)) (3:Int) ∧ g_pick r0 (u1 (g_Vs_l20Rd_odd_2 r0 (u1 (u1 (u1 (u1 r1)))) a2)) (3:Int) < (3:Int))&&decide (Int.toNat (g_pick r0 (u1 (g_Vs_l20Rd_odd_2 r0 (u1 (u1 (u1 (u1 r1)))) a2)) (3:Int)) < nat_lit 3)) else g_pickA r0 (u1 (g_Vs_l20Rd_odd_2 r0 (u1 (u1 (u1 (u1 r1)))) a2)) (3:Int)&&(decide ((0:Int) ≤ g_pick r0 (u1 (g_Vs_l20Rd_odd_2 r0 (u1 (u1 (u1 (u1 r1)))) a2)) (3:Int) ∧ g_pick r0 (u1 (g_Vs_l20Rd_odd_2 r0 (u1 (u1 (u1 (u1 r1)))) a2)) (3:Int) < (3:Int))&&decide (Int.toNat (g_pick r0 (u1 (g_Vs_l20Rd_odd_2 r0 (u1 (u1 (u1 (u1 r1)))) a2)) (3:Int)) < nat_lit 3)))))) else g_pickA r0 (u1 r1) (3:Int)&&(g_pickA r0 (u1 (u1 r1)) (3:Int)&&(g_As_l20Rd_odd r0 (u1 (u1 (u1 r1))) a2&&(!g_Vs_l20Rd_odd_0 r0 (u1 (u1 (u1 r1))) a2 || g_pickA r0 (g_Vs_l20Rd_odd_2 r0 (u1 (u1 (u1 r1))) a2) (5:Int)&&bif g_pick r0 (g_Vs_l20Rd_odd_2 r0 (u1 (u1 (u1 r1))) a2) (5:Int) == (0:Int) then g_pickA r0 (u1 (g_Vs_l20Rd_odd_2 r0 (u1 (u1 (u1 r1))) a2)) (2:Int)&&(decide ((0:Int) ≤ g_pick r0 (u1 (g_Vs_l20Rd_odd_2 r0 (u1 (u1 (u1 r1))) a2)) (2:Int) ∧ g_pick r0 (u1 (g_Vs_l20Rd_odd_2 r0 (u1 (u1 (u1 r1))) a2)) (2:Int) < (2:Int))&&decide (Int.toNat (g_pick r0 (u1 (g_Vs_l20Rd_odd_2 r0 (u1 (u1 (u1 r1))) a2)) (2:Int)) < nat_lit 2)) else bif g_pick r0 (g_Vs_l20Rd_odd_2 r0 (u1 (u1 (u1 r1))) a2) (5:Int) == (1:Int) then g_pickA r0 (u1 (g_Vs_l20Rd_odd_2 r0 (u1 (u1 (u1 r1))) a2)) (3:Int)&&(decide ((0:Int) ≤ g_pick r0 (u1 (g_Vs_l20Rd_odd_2 r0 (u1 (u1 (u1 r1))) a2)) (3:Int) ∧ g_pick r0 (u1 (g_Vs_l20Rd_odd_2 r0 (u1 (u1 (u1 r1))) a2)) (3:Int) < (3:Int))&&decide (Int.toNat (g_pick r0 (u1 (g_Vs_l20Rd_odd_2 r0 (u1 (u1 (u1 r1))) a2)) (3:Int)) < nat_lit 3)) else bif g_pick r0 (g_Vs_l20Rd_odd_2 r0 (u1 (u1 (u1 r1))) a2) (5:Int) == (2:Int) then g_pickA r0 (u1 (g_Vs_l20Rd_odd_2 r0 (u1 (u1 (u1 r1))) a2)) (3:Int)&&(decide ((0:Int) ≤ g_pick r0 (u1 (g_Vs_l20Rd_odd_2 r0 (u1 (u1 (u1 r1))) a2)) (3:Int) ∧ g_pick r0 (u1 (g_Vs_l20Rd_odd_2 r0 (u1 (u1 (u1 r1))) a2)) (3:Int) < (3:Int))&&decide (Int.toNat (g_pick r0 (u1 (g_Vs_l20Rd_odd_2 r0 (u1 (u1 (u1 r1))) a2)) (3:Int)) < nat_lit 3)) else bif g_pick r0 (g_Vs_l20Rd_odd_2 r0 (u1 (u1 (u1 r1))) a2) (5:Int) == (3:Int) then g_pickA r0 (u1 (g_Vs_l20Rd_odd_2 r0 (u1 (u1 (u1 r1))) a2)) (3:Int)&&(decide ((0:Int) ≤ g_pick r0 (u1 (g_Vs_l20Rd_odd_2 r0 (u1 (u1 (u1 r1))) a2)) (3:Int) ∧ g_pick r0 (u1 (g_Vs_l20Rd_odd_2 r0 (u1 (u1 (u1 r1))) a2)) (3:Int) < (3:Int))&&decide (Int.toNat (g_pick r0 (u1 (g_Vs_l20Rd_odd_2 r0 (u1 (u1 (u1 r1))) a2)) (3:Int)) < nat_lit 3)) else g_pickA r0 (u1 (g_Vs_l20Rd_odd_2 r0 (u1 (u1 (u1 r1))) a2)) (3:Int)&&(decide ((0:Int) ≤ g_pick r0 (u1 (g_Vs_l20Rd_odd_2 r0 (u1 (u1 (u1 r1))) a2)) (3:Int) ∧ g_pick r0 (u1 (g_Vs_l20Rd_odd_2 r0 (u1 (u1 (u1 r1))) a2)) (3:Int) < (3:Int))&&decide (Int.toNat (g_pick r0 (u1 (g_Vs_l20Rd_odd_2 r0 (u1 (u1 (u1 r1))) a2)) (3:Int)) < nat_lit 3))))) else bif IntKind.wrap IntKind.i64 ((1:Int) + g_pick r0 r1 (5:Int)) == (5:Int) then g_pickA r0 (u1 r1) (2:Int)&&(g_pickA r0 (u1 (u1 r1)) (3:Int)&&(g_As_l20Rd_odd r0 (u1 (u1 (u1 r1))) a2&&(!g_Vs_l20Rd_odd_0 r0 (u1 (u1 (u1 r1))) a2 || g_pickA r0 (g_Vs_l20Rd_odd_2 r0 (u1 (u1 (u1 r1))) a2) (5:Int)&&bif g_pick r0 (g_Vs_l20Rd_odd_2 r0 (u1 (u1 (u1 r1))) a2) (5:Int) == (0:Int) then g_pickA r0 (u1 (g_Vs_l20Rd_odd_2 r0 (u1 (u1 (u1 r1))) a2)) (2:Int)&&(decide ((0:Int) ≤ g_pick r0 (u1 (g_Vs_l20Rd_odd_2 r0 (u1 (u1 (u1 r1))) a2)) (2:Int) ∧ g_pick r0 (u1 (g_Vs_l20Rd_odd_2 r0 (u1 (u1 (u1 r1))) a2)) (2:Int) < (2:Int))&&decide (Int.toNat (g_pick r0 (u1 (g_Vs_l20Rd_odd_2 r0 (u1 (u1 (u1 r1))) a2)) (2:Int)) < nat_lit 2)) else bif g_pick r0 (g_Vs_l20Rd_odd_2 r0 (u1 (u1 (u1 r1))) a2) (5:Int) == (1:Int) then g_pickA r0 (u1 (g_Vs_l20Rd_odd_2 r0 (u1 (u1 (u1 r1))) a2)) (3:Int)&&(decide ((0:Int) ≤ g_pick r0 (u1 (g_Vs_l20Rd_odd_2 r0 (u1 (u1 (u1 r1))) a2)) (3:Int) ∧ g_pick r0 (u1 (g_Vs_l20Rd_odd_2 r0 (u1 (u1 (u1 r1))) a2)) (3:Int) < (3:Int))&&decide (Int.toNat (g_pick r0 (u1 (g_Vs_l20Rd_odd_2 r0 (u1 (u1 (u1 r1))) a2)) (3:Int)) < nat_lit 3)) else bif g_pick r0 (g_Vs_l20Rd_odd_2 r0 (u1 (u1 (u1 r1))) a2) (5:Int) == (2:Int) then g_pickA r0 (u1 (g_Vs_l20Rd_odd_2 r0 (u1 (u1 (u1 r1))) a2)) (3:Int)&&(decide ((0:Int) ≤ g_pick r0 (u1 (g_Vs_l20Rd_odd_2 r0 (u1 (u1 (u1 r1))) a2)) (3:Int) ∧ g_pick r0 (u1 (g_Vs_l20Rd_odd_2 r0 (u1 (u1 (u1 r1))) a2)) (3:Int) < (3:Int))&&decide (Int.toNat (g_pick r0 (u1 (g_Vs_l20Rd_odd_2 r0 (u1 (u1 (u1 r1))) a2)) (3:Int)) < nat_lit 3)) else bif g_pick r0 (g_Vs_l20Rd_odd_2 r0 (u1 (u1 (u1 r1))) a2) (5:Int) == (3:Int) then g_pickA r0 (u1 (g_Vs_l20Rd_odd_2 r0 (u1 (u1 (u1 r1))) a2)) (3:Int)&&(decide ((0:Int) ≤ g_pick r0 (u1 (g_Vs_l20Rd_odd_2 r0 (u1 (u1 (u1 r1))) a2)) (3:Int) ∧ g_pick r0 (u1 (g_Vs_l20Rd_odd_2 r0 (u1 (u1 (u1 r1))) a2)) (3:Int) < (3:Int))&&decide (Int.toNat (g_pick r0 (u1 (g_Vs_l20Rd_odd_2 r0 (u1 (u1 (u1 r1))) a2)) (3:Int)) < nat_lit 3)) else g_pickA r0 (u1 (g_Vs_l20Rd_odd_2 r0 (u1 (u1 (u1 r1))) a2)) (3:Int)&&(decide ((0:Int) ≤ g_pick r0 (u1 (g_Vs_l20Rd_odd_2 r0 (u1 (u1 (u1 r1))) a2)) (3:Int) ∧ g_pick r0 (u1 (g_Vs_l20Rd_odd_2 r0 (u1 (u1 (u1 r1))) a2)) (3:Int) < (3:Int))&&decide (Int.toNat (g_pick r0 (u1 (g_Vs_l20Rd_odd_2 r0 (u1 (u1 (u1 r1))) a2)) (3:Int)) < nat_lit 3))))) else bif IntKind.wrap IntKind.i64 ((1:Int) + g_pick r0 r1 (5:Int)) == (2:Int) then g_pickA r0 (u1 r1) (2:Int)&&(g_pickA r0 (u1 (u1 r1)) (3:Int)&&(g_pickA r0 (u1 (u1 (u1 r1))) (3:Int)&&(g_pickA r0 (u1 (u1 (u1 (u1 r1)))) (3:Int)&&(g_As_l20Rd_odd r0 (u1 (u1 (u1 (u1 (u1 r1))))) a2&&(!g_Vs_l20Rd_odd_0 r0 (u1 (u1 (u1 (u1 (u1 r1))))) a2 || g_pickA r0 (g_Vs_l20Rd_odd_2 r0 (u1 (u1 (u1 (u1 (u1 r1))))) a2) (5:Int)&&bif g_pick r0 (g_Vs_l20Rd_odd_2 r0 (u1 (u1 (u1 (u1 (u1 r1))))) a2) (5:Int) == (0:Int) then g_pickA r0 (u1 (g_Vs_l20Rd_odd_2 r0 (u1 (u1 (u1 (u1 (u1 r1))))) a2)) (2:Int)&&(decide ((0:Int) ≤ g_pick r0 (u1 (g_Vs_l20Rd_odd_2 r0 (u1 (u1 (u1 (u1 (u1 r1))))) a2)) (2:Int) ∧ g_pick r0 (u1 (g_Vs_l20Rd_odd_2 r0 (u1 (u1 (u1 (u1 (u1 r1))))) a2)) (2:Int) < (2:Int))&&decide (Int.toNat (g_pick r0 (u1 (g_Vs_l20Rd_odd_2 r0 (u1 (u1 (u1 (u1 (u1 r1))))) a2)) (2:Int)) < nat_lit 2)) else bif g_pick r0 (g_Vs_l20Rd_odd_2 r0 (u1 (u1 (u1 (u1 (u1 r1))))) a2) (5:Int) == (1:Int) then g_pickA r0 (u1 (g_Vs_l20Rd_odd_2 r0 (u1 (u1 (u1 (u1 (u1 r1))))) a2)) (3:Int)&&(decide ((0:Int) ≤ g_pick r0 (u1 (g_Vs_l20Rd_odd_2 r0 (u1 (u1 (u1 (u1 (u1 r1))))) a2)) (3:Int) ∧ g_pick r0 (u1 (g_Vs_l20Rd_odd_2 r0 (u1 (u1 (u1 (u1 (u1 r1))))) a2)) (3:Int) < (3:Int))&&decide (Int.toNat (g_pick r0 (u1 (g_Vs_l20Rd_odd_2 r0 (u1 (u1 (u1 (u1 (u1 r1))))) a2)) (3:Int)) < nat_lit 3)) else bif g_pick r0 (g_Vs_l20Rd_odd_2 r0 (u1 (u1 (u1 (u1 (u1 r1))))) a2) (5:Int) == (2:Int) then g_pickA r0 (u1 (g_Vs_l20Rd_odd_2 r0 (u1 (u1 (u1 (u1 (u1 r1))))) a2)) (3:Int)&&(decide ((0:Int) ≤ g_pick r0 (u1 (g_Vs_l20Rd_odd_2 r0 (u1 (u1 (u1 (u1 (u1 r1))))) a2)) (3:Int) ∧ g_pick r0 (u1 (g_Vs_l20Rd_odd_2 r0 (u1 (u1 (u1 (u1 (u1 r1))))) a2)) (3:Int) < (3:Int))&&decide (Int.toNat (g_pick r0 (u1 (g_Vs_l20Rd_odd_2 r0 (u1 (u1 (u1 (u1 (u1 r1))))) a2)) (3:Int)) < nat_lit 3)) else bif g_pick r0 (g_Vs_l20Rd_odd_2 r0 (u1 (u1 (u1 (u1 (u1 r1))))) a2) (5:Int) == (3:Int) then g_pickA r0 (u1 (g_Vs_l20Rd_odd_2 r0 (u1 (u1 (u1 (u1 (u1 r1))))) a2)) (3:Int)&&(decide ((0:Int) ≤ g_pick r0 (u1 (g_Vs_l20Rd_odd_2 r0 (u1 (u1 (u1 (u1 (u1 r1))))) a2)) (3:Int) ∧ g_pick r0 (u1 (g_Vs_l20Rd_odd_2 r0 (u1 (u1 (u1 (u1 (u1 r1))))) a2)) (3:Int) < (3:Int))&&decide (Int.toNat (g_pick r0 (u1 (g_Vs_l20Rd_odd_2 r0 (u1 (u1 (u1 (u1 (u1 r1))))) a2)) (3:Int)) < nat_lit 3)) else g_pickA r0 (u1 (g_Vs_l20Rd_odd_2 r0 (u1 (u1 (u1 (u1 (u1 r1))))) a2)) (3:Int)&&(decide ((0:Int) ≤ g_pick r0 (u1 (g_Vs_l20Rd_odd_2 r0 (u1 (u1 (u1 (u1 (u1 r1))))) a2)) (3:Int) ∧ g_pick r0 (u1 (g_Vs_l20Rd_odd_2 r0 (u1 (u1 (u1 (u1 (u1 r1))))) a2)) (3:Int) < (3:Int))&&decide (Int.toNat (g_pick r0 (u1 (g_Vs_l20Rd_odd_2 r0 (u1 (u1 (u1 (u1 (u1 r1))))) a2)) (3:Int)) < nat_lit 3))))))) else bif IntKind.wrap IntKind.i64 ((1:Int) + g_pick r0 r1 (5:Int)) == (3:Int) then g_pickA r0 (u1 r1) (3:Int)&&(g_pickA r0 (u1 (u1 r1)) (3:Int)&&(g_pickA r0 (u1 (u1 (u1 r1))) (3:Int)&&(g_As_l20Rd_odd r0 (u1 (u1 (u1 (u1 r1)))) a2&&(!g_Vs_l20Rd_odd_0 r0 (u1 (u1 (u1 (u1 r1)))) a2 || g_pickA r0 (g_Vs_l20Rd_odd_2 r0 (u1 (u1 (u1 (u1 r1)))) a2) (5:Int)&&bif g_pick r0 (g_Vs_l20Rd_odd_2 r0 (u1 (u1 (u1 (u1 r1)))) a2) (5:Int) == (0:Int) then g_pickA r0 (u1 (g_Vs_l20Rd_odd_2 r0 (u1 (u1 (u1 (u1 r1)))) a2)) (2:Int)&&(decide ((0:Int) ≤ g_pick r0 (u1 (g_Vs_l20Rd_odd_2 r0 (u1 (u1 (u1 (u1 r1)))) a2)) (2:Int) ∧ g_pick r0 (u1 (g_Vs_l20Rd_odd_2 r0 (u1 (u1 (u1 (u1 r1)))) a2)) (2:Int) < (2:Int))&&decide (Int.toNat (g_pick r0 (u1 (g_Vs_l20Rd_odd_2 r0 (u1 (u1 (u1 (u1 r1)))) a2)) (2:Int)) < nat_lit 2)) else bif g_pick r0 (g_Vs_l20Rd_odd_2 r0 (u1 (u1 (u1 (u1 r1)))) a2) (5:Int) == (1:Int) then g_pickA r0 (u1 (g_Vs_l20Rd_odd_2 r0 (u1 (u1 (u1 (u1 r1)))) a2)) (3:Int)&&(decide ((0:Int) ≤ g_pick r0 (u1 (g_Vs_l20Rd_odd_2 r0 (u1 (u1 (u1 (u1 r1)))) a2)) (3:Int) ∧ g_pick r0 (u1 (g_Vs_l20Rd_odd_2 r0 (u1 (u1 (u1 (u1 r1)))) a2)) (3:Int) < (3:Int))&&decide (Int.toNat (g_pick r0 (u1 (g_Vs_l20Rd_odd_2 r0 (u1 (u1 (u1 (u1 r1)))) a2)) (3:Int)) < nat_lit 3)) else bif g_pick r0 (g_Vs_l20Rd_odd_2 r0 (u1 (u1 (u1 (u1 r1)))) a2) (5:Int) == (2:Int) then g_pickA r0 (u1 (g_Vs_l20Rd_odd_2 r0 (u1 (u1 (u1 (u1 r1)))) a2)) (3:Int)&&(decide ((0:Int) ≤ g_pick r0 (u1 (g_Vs_l20Rd_odd_2 r0 (u1 (u1 (u1 (u1 r1)))) a2)) (3:Int) ∧ g_pick r0 (u1 (g_Vs_l20Rd_odd_2 r0 (u1 (u1 (u1 (u1 r1)))) a2)) (3:Int) < (3:Int))&&decide (Int.toNat (g_pick r0 (u1 (g_Vs_l20Rd_odd_2 r0 (u1 (u1 (u1 (u1 r1)))) a2)) (3:Int)) < nat_lit 3)) else bif g_pick r0 (g_Vs_l20Rd_odd_2 r0 (u1 (u1 (u1 (u1 r1)))) a2) (5:Int) == (3:Int) then g_pickA r0 (u1 (g_Vs_l20Rd_odd_2 r0 (u1 (u1 (u1 (u1 r1)))) a2)) (3:Int)&&(decide ((0:Int) ≤ g_pick r0 (u1 (g_Vs_l20Rd_odd_2 r0 (u1 (u1 (u1 (u1 r1)))) a2)) (3:Int) ∧ g_pick r0 (u1 (g_Vs_l20Rd_odd_2 r0 (u1 (u1 (u1 (u1 r1)))) a2)) (3:Int) < (3:Int))&&decide (Int.toNat (g_pick r0 (u1 (g_Vs_l20Rd_odd_2 r0 (u1 (u1 (u1 (u1 r1)))) a2)) (3:Int)) < nat_lit 3)) else g_pickA r0 (u1 (g_Vs_l20Rd_odd_2 r0 (u1 (u1 (u1 (u1 r1)))) a2)) (3:Int)&&(decide ((0:Int) ≤ g_pick r0 (u1 (g_Vs_l20Rd_odd_2 r0 (u1 (u1 (u1 (u1 r1)))) a2)) (3:Int) ∧ g_pick r0 (u1 (g_Vs_l20Rd_odd_2 r0 (u1 (u1 (u1 (u1 r1)))) a2)) (3:Int) < (3:Int))&&decide (Int.toNat (g_pick r0 (u1 (g_Vs_l20Rd_odd_2 r0 (u1 (u1 (u1 (u1 r1)))) a2)) (3:Int)) < nat_lit 3)))))) else g_pickA r0 (u1 r1) (3:Int)&&(g_pickA r0 (u1 (u1 r1)) (3:Int)&&(g_As_l20Rd_odd r0 (u1 (u1 (u1 r1))) a2&&(!g_Vs_l20Rd_odd_0 r0 (u1 (u1 (u1 r1))) a2 || g_pickA r0 (g_Vs_l20Rd_odd_2 r0 (u1 (u1 (u1 r1))) a2) (5:Int)&&bif g_pick r0 (g_Vs_l20Rd_odd_2 r0 (u1 (u1 (u1 r1))) a2) (5:Int) == (0:Int) then g_pickA r0 (u1 (g_Vs_l20Rd_odd_2 r0 (u1 (u1 (u1 r1))) a2)) (2:Int)&&(decide ((0:Int) ≤ g_pick r0 (u1 (g_Vs_l20Rd_odd_2 r0 (u1 (u1 (u1 r1))) a2)) (2:Int) ∧ g_pick r0 (u1 (g_Vs_l20Rd_odd_2 r0 (u1 (u1 (u1 r1))) a2)) (2:Int) < (2:Int))&&decide (Int.toNat (g_pick r0 (u1 (g_Vs_l20Rd_odd_2 r0 (u1 (u1 (u1 r1))) a2)) (2:Int)) < nat_lit 2)) else bif g_pick r0 (g_Vs_l20Rd_odd_2 r0 (u1 (u1 (u1 r1))) a2) (5:Int) == (1:Int) then g_pickA r0 (u1 (g_Vs_l20Rd_odd_2 r0 (u1 (u1 (u1 r1))) a2)) (3:Int)&&(decide ((0:Int) ≤ g_pick r0 (u1 (g_Vs_l20Rd_odd_2 r0 (u1 (u1 (u1 r1))) a2)) (3:Int) ∧ g_pick r0 (u1 (g_Vs_l20Rd_odd_2 r0 (u1 (u1 (u1 r1))) a2)) (3:Int) < (3:Int))&&decide (Int.toNat (g_pick r0 (u1 (g_Vs_l20Rd_odd_2 r0 (u1 (u1 (u1 r1))) a2)) (3:Int)) < nat_lit 3)) else bif g_pick r0 (g_Vs_l20Rd_odd_2 r0 (u1 (u1 (u1 r1))) a2) (5:Int) == (2:Int) then g_pickA r0 (u1 (g_Vs_l20Rd_odd_2 r0 (u1 (u1 (u1 r1))) a2)) (3:Int)&&(decide ((0:Int) ≤ g_pick r0 (u1 (g_Vs_l20Rd_odd_2 r0 (u1 (u1 (u1 r1))) a2)) (3:Int) ∧ g_pick r0 (u1 (g_Vs_l20Rd_odd_2 r0 (u1 (u1 (u1 r1))) a2)) (3:Int) < (3:Int))&&decide (Int.toNat (g_pick r0 (u1 (g_Vs_l20Rd_odd_2 r0 (u1 (u1 (u1 r1))) a2)) (3:Int)) < nat_lit 3)) else bif g_pick r0 (g_Vs_l20Rd_odd_2 r0 (u1 (u1 (u1 r1))) a2) (5:Int) == (3:Int) then g_pickA r0 (u1 (g_Vs_l20Rd_odd_2 r0 (u1 (u1 (u1 r1))) a2)) (3:Int)&&(decide ((0:Int) ≤ g_pick r0 (u1 (g_Vs_l20Rd_odd_2 r0 (u1 (u1 (u1 r1))) a2)) (3:Int) ∧ g_pick r0 (u1 (g_Vs_l20Rd_odd_2 r0 (u1 (u1 (u1 r1))) a2)) (3:Int) < (3:Int))&&decide (Int.toNat (g_pick r0 (u1 (g_Vs_l20Rd_odd_2 r0 (u1 (u1 (u1 r1))) a2)) (3:Int)) < nat_lit 3)) else g_pickA r0 (u1 (g_Vs_l20Rd_odd_2 r0 (u1 (u1 (u1 r1))) a2)) (3:Int)&&(decide ((0:Int) ≤ g_pick r0 (u1 (g_Vs_l20Rd_odd_2 r0 (u1 (u1 (u1 r1))) a2)) (3:Int) ∧ g_pick r0 (u1 (g_Vs_l20Rd_odd_2 r0 (u1 (u1 (u1 r1))) a2)) (3:Int) < (3:Int))&&decide (Int.toNat (g_pick r0 (u1 (g_Vs_l20Rd_odd_2 r0 (u1 (u1 (u1 r1))) a2)) (3:Int)) < nat_lit 3)))))
noncomputable def g_Vs_l20Op_0 (r0:List Int) (r1:Int) (a2:Int):Int := bif IntKind.wrap IntKind.i64 ((1:Int) + g_pick r0 r1 (5:Int)) == (1:Int) then bif IntKind.wrap IntKind.i64 ((1:Int) + g_pick r0 r1 (5:Int)) == (1:Int) then bif g_Vs_l20Rd_odd_0 r0 (u1 (u1 (u1 r1))) a2 then bif g_pick r0 (g_Vs_l20Rd_odd_2 r0 (u1 (u1 (u1 r1))) a2) (5:Int) == (0:Int) then at_ (Ty.int IntKind.i64) [(0:Int),(6:Int)] (Int.toNat (g_pick r0 (u1 (g_Vs_l20Rd_odd_2 r0 (u1 (u1 (u1 r1))) a2)) (2:Int))) else bif g_pick r0 (g_Vs_l20Rd_odd_2 r0 (u1 (u1 (u1 r1))) a2) (5:Int) == (1:Int) then IntKind.wrap IntKind.i64 ((1:Int) + g_pick r0 r1 (5:Int)) else bif g_pick r0 (g_Vs_l20Rd_odd_2 r0 (u1 (u1 (u1 r1))) a2) (5:Int) == (2:Int) then IntKind.wrap IntKind.i64 ((1:Int) + g_pick r0 r1 (5:Int)) else bif g_pick r0 (g_Vs_l20Rd_odd_2 r0 (u1 (u1 (u1 r1))) a2) (5:Int) == (3:Int) then IntKind.wrap IntKind.i64 ((1:Int) + g_pick r0 r1 (5:Int)) else IntKind.wrap IntKind.i64 ((1:Int) + g_pick r0 r1 (5:Int)) else IntKind.wrap IntKind.i64 ((1:Int) + g_pick r0 r1 (5:Int)) else bif IntKind.wrap IntKind.i64 ((1:Int) + g_pick r0 r1 (5:Int)) == (2:Int) then bif g_Vs_l20Rd_odd_0 r0 (u1 (u1 (u1 (u1 (u1 r1))))) a2 then bif g_pick r0 (g_Vs_l20Rd_odd_2 r0 (u1 (u1 (u1 (u1 (u1 r1))))) a2) (5:Int) == (0:Int) then at_ (Ty.int IntKind.i64) [(0:Int),(6:Int)] (Int.toNat (g_pick r0 (u1 (g_Vs_l20Rd_odd_2 r0 (u1 (u1 (u1 (u1 (u1 r1))))) a2)) (2:Int))) else bif g_pick r0 (g_Vs_l20Rd_odd_2 r0 (u1 (u1 (u1 (u1 (u1 r1))))) a2) (5:Int) == (1:Int) then (2:Int) else bif g_pick r0 (g_Vs_l20Rd_odd_2 r0 (u1 (u1 (u1 (u1 (u1 r1))))) a2) (5:Int) == (2:Int) then (2:Int) else bif g_pick r0 (g_Vs_l20Rd_odd_2 r0 (u1 (u1 (u1 (u1 (u1 r1))))) a2) (5:Int) == (3:Int) then (2:Int) else (2:Int) else (2:Int) else bif IntKind.wrap IntKind.i64 ((1:Int) + g_pick r0 r1 (5:Int)) == (3:Int) then bif g_Vs_l20Rd_odd_0 r0 (u1 (u1 (u1 (u1 r1)))) a2 then bif g_pick r0 (g_Vs_l20Rd_odd_2 r0 (u1 (u1 (u1 (u1 r1)))) a2) (5:Int) == (0:Int) then at_ (Ty.int IntKind.i64) [(0:Int),(6:Int)] (Int.toNat (g_pick r0 (u1 (g_Vs_l20Rd_odd_2 r0 (u1 (u1 (u1 (u1 r1)))) a2)) (2:Int))) else bif g_pick r0 (g_Vs_l20Rd_odd_2 r0 (u1 (u1 (u1 (u1 r1)))) a2) (5:Int) == (1:Int) then (3:Int) else bif g_pick r0 (g_Vs_l20Rd_odd_2 r0 (u1 (u1 (u1 (u1 r1)))) a2) (5:Int) == (2:Int) then (3:Int) else bif g_pick r0 (g_Vs_l20Rd_odd_2 r0 (u1 (u1 (u1 (u1 r1)))) a2) (5:Int) == (3:Int) then (3:Int) else (3:Int) else (3:Int) else bif g_Vs_l20Rd_odd_0 r0 (u1 (u1 (u1 r1))) a2 then bif g_pick r0 (g_Vs_l20Rd_odd_2 r0 (u1 (u1 (u1 r1))) a2) (5:Int) == (0:Int) then at_ (Ty.int IntKind.i64) [(0:Int),(6:Int)] (Int.toNat (g_pick r0 (u1 (g_Vs_l20Rd_odd_2 r0 (u1 (u1 (u1 r1))) a2)) (2:Int))) else bif g_pick r0 (g_Vs_l20Rd_odd_2 r0 (u1 (u1 (u1 r1))) a2) (5:Int) == (1:Int) then (4:Int) else bif g_pick r0 (g_Vs_l20Rd_odd_2 r0 (u1 (u1 (u1 r1))) a2) (5:Int) == (2:Int) then (4:Int) else bif g_pick r0 (g_Vs_l20Rd_odd_2 r0 (u1 (u1 (u1 r1))) a2) (5:Int) == (3:Int) then (4:Int) else (4:Int) else (4:Int) else bif IntKind.wrap IntKind.i64 ((1:Int) + g_pick r0 r1 (5:Int)) == (5:Int) then bif g_Vs_l20Rd_odd_0 r0 (u1 (u1 (u1 r1))) a2 then bif g_pick r0 (g_Vs_l20Rd_odd_2 r0 (u1 (u1 (u1 r1))) a2) (5:Int) == (0:Int) then at_ (Ty.int IntKind.i64) [(0:Int),(6:Int)] (Int.toNat (g_pick r0 (u1 (g_Vs_l20Rd_odd_2 r0 (u1 (u1 (u1 r1))) a2)) (2:Int))) else bif g_pick r0 (g_Vs_l20Rd_odd_2 r0 (u1 (u1 (u1 r1))) a2) (5:Int) == (1:Int) then IntKind.wrap IntKind.i64 ((1:Int) + g_pick r0 r1 (5:Int)) else bif g_pick r0 (g_Vs_l20Rd_odd_2 r0 (u1 (u1 (u1 r1))) a2) (5:Int) == (2:Int) then IntKind.wrap IntKind.i64 ((1:Int) + g_pick r0 r1 (5:Int)) else bif g_pick r0 (g_Vs_l20Rd_odd_2 r0 (u1 (u1 (u1 r1))) a2) (5:Int) == (3:Int) then IntKind.wrap IntKind.i64 ((1:Int) + g_pick r0 r1 (5:Int)) else IntKind.wrap IntKind.i64 ((1:Int) + g_pick r0 r1 (5:Int)) else IntKind.wrap IntKind.i64 ((1:Int) + g_pick r0 r1 (5:Int)) else bif IntKind.wrap IntKind.i64 ((1:Int) + g_pick r0 r1 (5:Int)) == (2:Int) then bif g_Vs_l20Rd_odd_0 r0 (u1 (u1 (u1 (u1 (u1 r1))))) a2 then bif g_pick r0 (g_Vs_l20Rd_odd_2 r0 (u1 (u1 (u1 (u1 (u1 r1))))) a2) (5:Int) == (0:Int) then at_ (Ty.int IntKind.i64) [(0:Int),(6:Int)] (Int.toNat (g_pick r0 (u1 (g_Vs_l20Rd_odd_2 r0 (u1 (u1 (u1 (u1 (u1 r1))))) a2)) (2:Int))) else bif g_pick r0 (g_Vs_l20Rd_odd_2 r0 (u1 (u1 (u1 (u1 (u1 r1))))) a2) (5:Int) == (1:Int) then (2:Int) else bif g_pick r0 (g_Vs_l20Rd_odd_2 r0 (u1 (u1 (u1 (u1 (u1 r1))))) a2) (5:Int) == (2:Int) then (2:Int) else bif g_pick r0 (g_Vs_l20Rd_odd_2 r0 (u1 (u1 (u1 (u1 (u1 r1))))) a2) (5:Int) == (3:Int) then (2:Int) else (2:Int) else (2:Int) else bif IntKind.wrap IntKind.i64 ((1:Int) + g_pick r0 r1 (5:Int)) == (3:Int) then bif g_Vs_l20Rd_odd_0 r0 (u1 (u1 (u1 (u1 r1)))) a2 then bif g_pick r0 (g_Vs_l20Rd_odd_2 r0 (u1 (u1 (u1 (u1 r1)))) a2) (5:Int) == (0:Int) then at_ (Ty.int IntKind.i64) [(0:Int),(6:Int)] (Int.toNat (g_pick r0 (u1 (g_Vs_l20Rd_odd_2 r0 (u1 (u1 (u1 (u1 r1)))) a2)) (2:Int))) else bif g_pick r0 (g_Vs_l20Rd_odd_2 r0 (u1 (u1 (u1 (u1 r1)))) a2) (5:Int) == (1:Int) then (3:Int) else bif g_pick r0 (g_Vs_l20Rd_odd_2 r0 (u1 (u1 (u1 (u1 r1)))) a2) (5:Int) == (2:Int) then (3:Int) else bif g_pick r0 (g_Vs_l20Rd_odd_2 r0 (u1 (u1 (u1 (u1 r1)))) a2) (5:Int) == (3:Int) then (3:Int) else (3:Int) else (3:Int) else bif g_Vs_l20Rd_odd_0 r0 (u1 (u1 (u1 r1))) a2 then bif g_pick r0 (g_Vs_l20Rd_odd_2 r0 (u1 (u1 (u1 r1))) a2) (5:Int) == (0:Int) then at_ (Ty.int IntKind.i64) [(0:Int),(6:Int)] (Int.toNat (g_pick r0 (u1 (g_Vs_l20Rd_odd_2 r0 (u1 (u1 (u1 r1))) a2)) (2:Int))) else bif g_pick r0 (g_Vs_l20Rd_odd_2 r0 (u1 (u1 (u1 r1))) a2) (5:Int) == (1:Int) then (4:Int) else bif g_pick r0 (g_Vs_l20Rd_odd_2 r0 (u1 (u1 (u1 r1))) a2) (5:Int) == (2:Int) then (4:Int) else bif g_pick r0 (g_Vs_l20Rd_odd_2 r0 (u1 (u1 (u1 r1))) a2) (5:Int) == (3:Int) then (4:Int) else (4:Int) else (4:Int)
noncomputable def g_Vs_l20Op_1 (r0:List Int) (r1:Int) (a2:Int):Int := bif IntKind.wrap IntKind.i64 ((1:Int) + g_pick r0 r1 (5:Int)) == (1:Int) then bif IntKind.wrap IntKind.i64 ((1:Int) + g_pick r0 r1 (5:Int)) == (1:Int) then bif g_Vs_l20Rd_odd_0 r0 (u1 (u1 (u1 r1))) a2 then bif g_pick r0 (g_Vs_l20Rd_odd_2 r0 (u1 (u1 (u1 r1))) a2) (5:Int) == (0:Int) then g_pick r0 (u1 r1) (2:Int) else bif g_pick r0 (g_Vs_l20Rd_odd_2 r0 (u1 (u1 (u1 r1))) a2) (5:Int) == (1:Int) then at_ (Ty.int IntKind.i64) [(-1:Int),(10:Int),(1:Int)] (Int.toNat (g_pick r0 (u1 (g_Vs_l20Rd_odd_2 r0 (u1 (u1 (u1 r1))) a2)) (3:Int))) else bif g_pick r0 (g_Vs_l20Rd_odd_2 r0 (u1 (u1 (u1 r1))) a2) (5:Int) == (2:Int) then g_pick r0 (u1 r1) (2:Int) else bif g_pick r0 (g_Vs_l20Rd_odd_2 r0 (u1 (u1 (u1 r1))) a2) (5:Int) == (3:Int) then g_pick r0 (u1 r1) (2:Int) else g_pick r0 (u1 r1) (2:Int) else g_pick r0 (u1 r1) (2:Int) else bif IntKind.wrap IntKind.i64 ((1:Int) + g_pick r0 r1 (5:Int)) == (2:Int) then bif g_Vs_l20Rd_odd_0 r0 (u1 (u1 (u1 (u1 (u1 r1))))) a2 then bif g_pick r0 (g_Vs_l20Rd_odd_2 r0 (u1 (u1 (u1 (u1 (u1 r1))))) a2) (5:Int) == (0:Int) then g_pick r0 (u1 r1) (2:Int) else bif g_pick r0 (g_Vs_l20Rd_odd_2 r0 (u1 (u1 (u1 (u1 (u1 r1))))) a2) (5:Int) == (1:Int) then at_ (Ty.int IntKind.i64) [(-1:Int),(10:Int),(1:Int)] (Int.toNat (g_pick r0 (u1 (g_Vs_l20Rd_odd_2 r0 (u1 (u1 (u1 (u1 (u1 r1))))) a2)) (3:Int))) else bif g_pick r0 (g_Vs_l20Rd_odd_2 r0 (u1 (u1 (u1 (u1 (u1 r1))))) a2) (5:Int) == (2:Int) then g_pick r0 (u1 r1) (2:Int) else bif g_pick r0 (g_Vs_l20Rd_odd_2 r0 (u1 (u1 (u1 (u1 (u1 r1))))) a2) (5:Int) == (3:Int) then g_pick r0 (u1 r1) (2:Int) else g_pick r0 (u1 r1) (2:Int) else g_pick r0 (u1 r1) (2:Int) else bif IntKind.wrap IntKind.i64 ((1:Int) + g_pick r0 r1 (5:Int)) == (3:Int) then bif g_Vs_l20Rd_odd_0 r0 (u1 (u1 (u1 (u1 r1)))) a2 then bif g_pick r0 (g_Vs_l20Rd_odd_2 r0 (u1 (u1 (u1 (u1 r1)))) a2) (5:Int) == (0:Int) then (0:Int) else bif g_pick r0 (g_Vs_l20Rd_odd_2 r0 (u1 (u1 (u1 (u1 r1)))) a2) (5:Int) == (1:Int) then at_ (Ty.int IntKind.i64) [(-1:Int),(10:Int),(1:Int)] (Int.toNat (g_pick r0 (u1 (g_Vs_l20Rd_odd_2 r0 (u1 (u1 (u1 (u1 r1)))) a2)) (3:Int))) else bif g_pick r0 (g_Vs_l20Rd_odd_2 r0 (u1 (u1 (u1 (u1 r1)))) a2) (5:Int) == (2:Int) then (0:Int) else bif g_pick r0 (g_Vs_l20Rd_odd_2 r0 (u1 (u1 (u1 (u1 r1)))) a2) (5:Int) == (3:Int) then (0:Int) else (0:Int) else (0:Int) else bif g_Vs_l20Rd_odd_0 r0 (u1 (u1 (u1 r1))) a2 then bif g_pick r0 (g_Vs_l20Rd_odd_2 r0 (u1 (u1 (u1 r1))) a2) (5:Int) == (0:Int) then (0:Int) else bif g_pick r0 (g_Vs_l20Rd_odd_2 r0 (u1 (u1 (u1 r1))) a2) (5:Int) == (1:Int) then at_ (Ty.int IntKind.i64) [(-1:Int),(10:Int),(1:Int)] (Int.toNat (g_pick r0 (u1 (g_Vs_l20Rd_odd_2 r0 (u1 (u1 (u1 r1))) a2)) (3:Int))) else bif g_pick r0 (g_Vs_l20Rd_odd_2 r0 (u1 (u1 (u1 r1))) a2) (5:Int) == (2:Int) then (0:Int) else bif g_pick r0 (g_Vs_l20Rd_odd_2 r0 (u1 (u1 (u1 r1))) a2) (5:Int) == (3:Int) then (0:Int) else (0:Int) else (0:Int) else bif IntKind.wrap IntKind.i64 ((1:Int) + g_pick r0 r1 (5:Int)) == (5:Int) then bif g_Vs_l20Rd_odd_0 r0 (u1 (u1 (u1 r1))) a2 then bif g_pick r0 (g_Vs_l20Rd_odd_2 r0 (u1 (u1 (u1 r1))) a2) (5:Int) == (0:Int) then g_pick r0 (u1 r1) (2:Int) else bif g_pick r0 (g_Vs_l20Rd_odd_2 r0 (u1 (u1 (u1 r1))) a2) (5:Int) == (1:Int) then at_ (Ty.int IntKind.i64) [(-1:Int),(10:Int),(1:Int)] (Int.toNat (g_pick r0 (u1 (g_Vs_l20Rd_odd_2 r0 (u1 (u1 (u1 r1))) a2)) (3:Int))) else bif g_pick r0 (g_Vs_l20Rd_odd_2 r0 (u1 (u1 (u1 r1))) a2) (5:Int) == (2:Int) then g_pick r0 (u1 r1) (2:Int) else bif g_pick r0 (g_Vs_l20Rd_odd_2 r0 (u1 (u1 (u1 r1))) a2) (5:Int) == (3:Int) then g_pick r0 (u1 r1) (2:Int) else g_pick r0 (u1 r1) (2:Int) else g_pick r0 (u1 r1) (2:Int) else bif IntKind.wrap IntKind.i64 ((1:Int) + g_pick r0 r1 (5:Int)) == (2:Int) then bif g_Vs_l20Rd_odd_0 r0 (u1 (u1 (u1 (u1 (u1 r1))))) a2 then bif g_pick r0 (g_Vs_l20Rd_odd_2 r0 (u1 (u1 (u1 (u1 (u1 r1))))) a2) (5:Int) == (0:Int) then g_pick r0 (u1 r1) (2:Int) else bif g_pick r0 (g_Vs_l20Rd_odd_2 r0 (u1 (u1 (u1 (u1 (u1 r1))))) a2) (5:Int) == (1:Int) then at_ (Ty.int IntKind.i64) [(-1:Int),(10:Int),(1:Int)] (Int.toNat (g_pick r0 (u1 (g_Vs_l20Rd_odd_2 r0 (u1 (u1 (u1 (u1 (u1 r1))))) a2)) (3:Int))) else bif g_pick r0 (g_Vs_l20Rd_odd_2 r0 (u1 (u1 (u1 (u1 (u1 r1))))) a2) (5:Int) == (2:Int) then g_pick r0 (u1 r1) (2:Int) else bif g_pick r0 (g_Vs_l20Rd_odd_2 r0 (u1 (u1 (u1 (u1 (u1 r1))))) a2) (5:Int) == (3:Int) then g_pick r0 (u1 r1) (2:Int) else g_pick r0 (u1 r1) (2:Int) else g_pick r0 (u1 r1) (2:Int) else bif IntKind.wrap IntKind.i64 ((1:Int) + g_pick r0 r1 (5:Int)) == (3:Int) then bif g_Vs_l20Rd_odd_0 r0 (u1 (u1 (u1 (u1 r1)))) a2 then bif g_pick r0 (g_Vs_l20Rd_odd_2 r0 (u1 (u1 (u1 (u1 r1)))) a2) (5:Int) == (0:Int) then (0:Int) else bif g_pick r0 (g_Vs_l20Rd_odd_2 r0 (u1 (u1 (u1 (u1 r1)))) a2) (5:Int) == (1:Int) then at_ (Ty.int IntKind.i64) [(-1:Int),(10:Int),(1:Int)] (Int.toNat (g_pick r0 (u1 (g_Vs_l20Rd_odd_2 r0 (u1 (u1 (u1 (u1 r1)))) a2)) (3:Int))) else bif g_pick r0 (g_Vs_l20Rd_odd_2 r0 (u1 (u1 (u1 (u1 r1)))) a2) (5:Int) == (2:Int) then (0:Int) else bif g_pick r0 (g_Vs_l20Rd_odd_2 r0 (u1 (u1 (u1 (u1 r1)))) a2) (5:Int) == (3:Int) then (0:Int) else (0:Int) else (0:Int) else bif g_Vs_l20Rd_odd_0 r0 (u1 (u1 (u1 r1))) a2 then bif g_pick r0 (g_Vs_l20Rd_odd_2 r0 (u1 (u1 (u1 r1))) a2) (5:Int) == (0:Int) then (0:Int) else bif g_pick r0 (g_Vs_l20Rd_odd_2 r0 (u1 (u1 (u1 r1))) a2) (5:Int) == (1:Int) then at_ (Ty.int IntKind.i64) [(-1:Int),(10:Int),(1:Int)] (Int.toNat (g_pick r0 (u1 (g_Vs_l20Rd_odd_2 r0 (u1 (u1 (u1 r1))) a2)) (3:Int))) else bif g_pick r0 (g_Vs_l20Rd_odd_2 r0 (u1 (u1 (u1 r1))) a2) (5:Int) == (2:Int) then (0:Int) else bif g_pick r0 (g_Vs_l20Rd_odd_2 r0 (u1 (u1 (u1 r1))) a2) (5:Int) == (3:Int) then (0:Int) else (0:Int) else (0:Int)
noncomputable def g_Vs_l20Op_2 (r0:List Int) (r1:Int) (a2:Int):Int := bif IntKind.wrap IntKind.i64 ((1:Int) + g_pick r0 r1 (5:Int)) == (1:Int) then bif IntKind.wrap IntKind.i64 ((1:Int) + g_pick r0 r1 (5:Int)) == (1:Int) then bif g_Vs_l20Rd_odd_0 r0 (u1 (u1 (u1 r1))) a2 then bif g_pick r0 (g_Vs_l20Rd_odd_2 r0 (u1 (u1 (u1 r1))) a2) (5:Int) == (0:Int) then g_pick r0 (u1 (u1 r1)) (3:Int) else bif g_pick r0 (g_Vs_l20Rd_odd_2 r0 (u1 (u1 (u1 r1))) a2) (5:Int) == (1:Int) then g_pick r0 (u1 (u1 r1)) (3:Int) else bif g_pick r0 (g_Vs_l20Rd_odd_2 r0 (u1 (u1 (u1 r1))) a2) (5:Int) == (2:Int) then g_pick r0 (u1 (u1 r1)) (3:Int) else bif g_pick r0 (g_Vs_l20Rd_odd_2 r0 (u1 (u1 (u1 r1))) a2) (5:Int) == (3:Int) then g_pick r0 (u1 (u1 r1)) (3:Int) else g_pick r0 (u1 (u1 r1)) (3:Int) else g_pick r0 (u1 (u1 r1)) (3:Int) else bif IntKind.wrap IntKind.i64 ((1:Int) + g_pick r0 r1 (5:Int)) == (2:Int) then bif g_Vs_l20Rd_odd_0 r0 (u1 (u1 (u1 (u1 (u1 r1))))) a2 then bif g_pick r0 (g_Vs_l20Rd_odd_2 r0 (u1 (u1 (u1 (u1 (u1 r1))))) a2) (5:Int) == (0:Int) then g_pick r0 (u1 (u1 r1)) (3:Int) else bif g_pick r0 (g_Vs_l20Rd_odd_2 r0 (u1 (u1 (u1 (u1 (u1 r1))))) a2) (5:Int) == (1:Int) then g_pick r0 (u1 (u1 r1)) (3:Int) else bif g_pick r0 (g_Vs_l20Rd_odd_2 r0 (u1 (u1 (u1 (u1 (u1 r1))))) a2) (5:Int) == (2:Int) then g_pick r0 (u1 (u1 r1)) (3:Int) else bif g_pick r0 (g_Vs_l20Rd_odd_2 r0 (u1 (u1 (u1 (u1 (u1 r1))))) a2) (5:Int) == (3:Int) then g_pick r0 (u1 (u1 r1)) (3:Int) else g_pick r0 (u1 (u1 r1)) (3:Int) else g_pick r0 (u1 (u1 r1)) (3:Int) else bif IntKind.wrap IntKind.i64 ((1:Int) + g_pick r0 r1 (5:Int)) == (3:Int) then bif g_Vs_l20Rd_odd_0 r0 (u1 (u1 (u1 (u1 r1)))) a2 then bif g_pick r0 (g_Vs_l20Rd_odd_2 r0 (u1 (u1 (u1 (u1 r1)))) a2) (5:Int) == (0:Int) then (0:Int) else bif g_pick r0 (g_Vs_l20Rd_odd_2 r0 (u1 (u1 (u1 (u1 r1)))) a2) (5:Int) == (1:Int) then (0:Int) else bif g_pick r0 (g_Vs_l20Rd_odd_2 r0 (u1 (u1 (u1 (u1 r1)))) a2) (5:Int) == (2:Int) then (0:Int) else bif g_pick r0 (g_Vs_l20Rd_odd_2 r0 (u1 (u1 (u1 (u1 r1)))) a2) (5:Int) == (3:Int) then (0:Int) else (0:Int) else (0:Int) else bif g_Vs_l20Rd_odd_0 r0 (u1 (u1 (u1 r1))) a2 then bif g_pick r0 (g_Vs_l20Rd_odd_2 r0 (u1 (u1 (u1 r1))) a2) (5:Int) == (0:Int) then (0:Int) else bif g_pick r0 (g_Vs_l20Rd_odd_2 r0 (u1 (u1 (u1 r1))) a2) (5:Int) == (1:Int) then (0:Int) else bif g_pick r0 (g_Vs_l20Rd_odd_2 r0 (u1 (u1 (u1 r1))) a2) (5:Int) == (2:Int) then (0:Int) else bif g_pick r0 (g_Vs_l20Rd_odd_2 r0 (u1 (u1 (u1 r1))) a2) (5:Int) == (3:Int) then (0:Int) else (0:Int) else (0:Int) else bif IntKind.wrap IntKind.i64 ((1:Int) + g_pick r0 r1 (5:Int)) == (5:Int) then bif g_Vs_l20Rd_odd_0 r0 (u1 (u1 (u1 r1))) a2 then bif g_pick r0 (g_Vs_l20Rd_odd_2 r0 (u1 (u1 (u1 r1))) a2) (5:Int) == (0:Int) then g_pick r0 (u1 (u1 r1)) (3:Int) else bif g_pick r0 (g_Vs_l20Rd_odd_2 r0 (u1 (u1 (u1 r1))) a2) (5:Int) == (1:Int) then g_pick r0 (u1 (u1 r1)) (3:Int) else bif g_pick r0 (g_Vs_l20Rd_odd_2 r0 (u1 (u1 (u1 r1))) a2) (5:Int) == (2:Int) then g_pick r0 (u1 (u1 r1)) (3:Int) else bif g_pick r0 (g_Vs_l20Rd_odd_2 r0 (u1 (u1 (u1 r1))) a2) (5:Int) == (3:Int) then g_pick r0 (u1 (u1 r1)) (3:Int) else g_pick r0 (u1 (u1 r1)) (3:Int) else g_pick r0 (u1 (u1 r1)) (3:Int) else bif IntKind.wrap IntKind.i64 ((1:Int) + g_pick r0 r1 (5:Int)) == (2:Int) then bif g_Vs_l20Rd_odd_0 r0 (u1 (u1 (u1 (u1 (u1 r1))))) a2 then bif g_pick r0 (g_Vs_l20Rd_odd_2 r0 (u1 (u1 (u1 (u1 (u1 r1))))) a2) (5:Int) == (0:Int) then g_pick r0 (u1 (u1 r1)) (3:Int) else bif g_pick r0 (g_Vs_l20Rd_odd_2 r0 (u1 (u1 (u1 (u1 (u1 r1))))) a2) (5:Int) == (1:Int) then g_pick r0 (u1 (u1 r1)) (3:Int) else bif g_pick r0 (g_Vs_l20Rd_odd_2 r0 (u1 (u1 (u1 (u1 (u1 r1))))) a2) (5:Int) == (2:Int) then g_pick r0 (u1 (u1 r1)) (3:Int) else bif g_pick r0 (g_Vs_l20Rd_odd_2 r0 (u1 (u1 (u1 (u1 (u1 r1))))) a2) (5:Int) == (3:Int) then g_pick r0 (u1 (u1 r1)) (3:Int) else g_pick r0 (u1 (u1 r1)) (3:Int) else g_pick r0 (u1 (u1 r1)) (3:Int) else bif IntKind.wrap IntKind.i64 ((1:Int) + g_pick r0 r1 (5:Int)) == (3:Int) then bif g_Vs_l20Rd_odd_0 r0 (u1 (u1 (u1 (u1 r1)))) a2 then bif g_pick r0 (g_Vs_l20Rd_odd_2 r0 (u1 (u1 (u1 (u1 r1)))) a2) (5:Int) == (0:Int) then (0:Int) else bif g_pick r0 (g_Vs_l20Rd_odd_2 r0 (u1 (u1 (u1 (u1 r1)))) a2) (5:Int) == (1:Int) then (0:Int) else bif g_pick r0 (g_Vs_l20Rd_odd_2 r0 (u1 (u1 (u1 (u1 r1)))) a2) (5:Int) == (2:Int) then (0:Int) else bif g_pick r0 (g_Vs_l20Rd_odd_2 r0 (u1 (u1 (u1 (u1 r1)))) a2) (5:Int) == (3:Int) then (0:Int) else (0:Int) else (0:Int) else bif g_Vs_l20Rd_odd_0 r0 (u1 (u1 (u1 r1))) a2 then bif g_pick r0 (g_Vs_l20Rd_odd_2 r0 (u1 (u1 (u1 r1))) a2) (5:Int) == (0:Int) then (0:Int) else bif g_pick r0 (g_Vs_l20Rd_odd_2 r0 (u1 (u1 (u1 r1))) a2) (5:Int) == (1:Int) then (0:Int) else bif g_pick r0 (g_Vs_l20Rd_odd_2 r0 (u1 (u1 (u1 r1))) a2) (5:Int) == (2:Int) then (0:Int) else bif g_pick r0 (g_Vs_l20Rd_odd_2 r0 (u1 (u1 (u1 r1))) a2) (5:Int) == (3:Int) then (0:Int) else (0:Int) else (0:Int)
noncomputable def g_Vs_l20Op_3 (r0:List Int) (r1:Int) (a2:Int):Int := bif IntKind.wrap IntKind.i64 ((1:Int) + g_pick r0 r1 (5:Int)) == (1:Int) then bif IntKind.wrap IntKind.i64 ((1:Int) + g_pick r0 r1 (5:Int)) == (1:Int) then bif g_Vs_l20Rd_odd_0 r0 (u1 (u1 (u1 r1))) a2 then bif g_pick r0 (g_Vs_l20Rd_odd_2 r0 (u1 (u1 (u1 r1))) a2) (5:Int) == (0:Int) then (0:Int) else bif g_pick r0 (g_Vs_l20Rd_odd_2 r0 (u1 (u1 (u1 r1))) a2) (5:Int) == (1:Int) then (0:Int) else bif g_pick r0 (g_Vs_l20Rd_odd_2 r0 (u1 (u1 (u1 r1))) a2) (5:Int) == (2:Int) then at_ (Ty.int IntKind.i64) [(-1:Int),(10:Int),(1:Int)] (Int.toNat (g_pick r0 (u1 (g_Vs_l20Rd_odd_2 r0 (u1 (u1 (u1 r1))) a2)) (3:Int))) else bif g_pick r0 (g_Vs_l20Rd_odd_2 r0 (u1 (u1 (u1 r1))) a2) (5:Int) == (3:Int) then (0:Int) else (0:Int) else (0:Int) else bif IntKind.wrap IntKind.i64 ((1:Int) + g_pick r0 r1 (5:Int)) == (2:Int) then bif g_Vs_l20Rd_odd_0 r0 (u1 (u1 (u1 (u1 (u1 r1))))) a2 then bif g_pick r0 (g_Vs_l20Rd_odd_2 r0 (u1 (u1 (u1 (u1 (u1 r1))))) a2) (5:Int) == (0:Int) then g_pick r0 (u1 (u1 (u1 r1))) (3:Int) else bif g_pick r0 (g_Vs_l20Rd_odd_2 r0 (u1 (u1 (u1 (u1 (u1 r1))))) a2) (5:Int) == (1:Int) then g_pick r0 (u1 (u1 (u1 r1))) (3:Int) else bif g_pick r0 (g_Vs_l20Rd_odd_2 r0 (u1 (u1 (u1 (u1 (u1 r1))))) a2) (5:Int) == (2:Int) then at_ (Ty.int IntKind.i64) [(-1:Int),(10:Int),(1:Int)] (Int.toNat (g_pick r0 (u1 (g_Vs_l20Rd_odd_2 r0 (u1 (u1 (u1 (u1 (u1 r1))))) a2)) (3:Int))) else bif g_pick r0 (g_Vs_l20Rd_odd_2 r0 (u1 (u1 (u1 (u1 (u1 r1))))) a2) (5:Int) == (3:Int) then g_pick r0 (u1 (u1 (u1 r1))) (3:Int) else g_pick r0 (u1 (u1 (u1 r1))) (3:Int) else g_pick r0 (u1 (u1 (u1 r1))) (3:Int) else bif IntKind.wrap IntKind.i64 ((1:Int) + g_pick r0 r1 (5:Int)) == (3:Int) then bif g_Vs_l20Rd_odd_0 r0 (u1 (u1 (u1 (u1 r1)))) a2 then bif g_pick r0 (g_Vs_l20Rd_odd_2 r0 (u1 (u1 (u1 (u1 r1)))) a2) (5:Int) == (0:Int) then g_pick r0 (u1 r1) (3:Int) else bif g_pick r0 (g_Vs_l20Rd_odd_2 r0 (u1 (u1 (u1 (u1 r1)))) a2) (5:Int) == (1:Int) then g_pick r0 (u1 r1) (3:Int) else bif g_pick r0 (g_Vs_l20Rd_odd_2 r0 (u1 (u1 (u1 (u1 r1)))) a2) (5:Int) == (2:Int) then at_ (Ty.int IntKind.i64) [(-1:Int),(10:Int),(1:Int)] (Int.toNat (g_pick r0 (u1 (g_Vs_l20Rd_odd_2 r0 (u1 (u1 (u1 (u1 r1)))) a2)) (3:Int))) else bif g_pick r0 (g_Vs_l20Rd_odd_2 r0 (u1 (u1 (u1 (u1 r1)))) a2) (5:Int) == (3:Int) then g_pick r0 (u1 r1) (3:Int) else g_pick r0 (u1 r1) (3:Int) else g_pick r0 (u1 r1) (3:Int) else bif g_Vs_l20Rd_odd_0 r0 (u1 (u1 (u1 r1))) a2 then bif g_pick r0 (g_Vs_l20Rd_odd_2 r0 (u1 (u1 (u1 r1))) a2) (5:Int) == (0:Int) then (0:Int) else bif g_pick r0 (g_Vs_l20Rd_odd_2 r0 (u1 (u1 (u1 r1))) a2) (5:Int) == (1:Int) then (0:Int) else bif g_pick r0 (g_Vs_l20Rd_odd_2 r0 (u1 (u1 (u1 r1))) a2) (5:Int) == (2:Int) then at_ (Ty.int IntKind.i64) [(-1:Int),(10:Int),(1:Int)] (Int.toNat (g_pick r0 (u1 (g_Vs_l20Rd_odd_2 r0 (u1 (u1 (u1 r1))) a2)) (3:Int))) else bif g_pick r0 (g_Vs_l20Rd_odd_2 r0 (u1 (u1 (u1 r1))) a2) (5:Int) == (3:Int) then (0:Int) else (0:Int) else (0:Int) else bif IntKind.wrap IntKind.i64 ((1:Int) + g_pick r0 r1 (5:Int)) == (5:Int) then bif g_Vs_l20Rd_odd_0 r0 (u1 (u1 (u1 r1))) a2 then bif g_pick r0 (g_Vs_l20Rd_odd_2 r0 (u1 (u1 (u1 r1))) a2) (5:Int) == (0:Int) then (0:Int) else bif g_pick r0 (g_Vs_l20Rd_odd_2 r0 (u1 (u1 (u1 r1))) a2) (5:Int) == (1:Int) then (0:Int) else bif g_pick r0 (g_Vs_l20Rd_odd_2 r0 (u1 (u1 (u1 r1))) a2) (5:Int) == (2:Int) then at_ (Ty.int IntKind.i64) [(-1:Int),(10:Int),(1:Int)] (Int.toNat (g_pick r0 (u1 (g_Vs_l20Rd_odd_2 r0 (u1 (u1 (u1 r1))) a2)) (3:Int))) else bif g_pick r0 (g_Vs_l20Rd_odd_2 r0 (u1 (u1 (u1 r1))) a2) (5:Int) == (3:Int) then (0:Int) else (0:Int) else (0:Int) else bif IntKind.wrap IntKind.i64 ((1:Int) + g_pick r0 r1 (5:Int)) == (2:Int) then bif g_Vs_l20Rd_odd_0 r0 (u1 (u1 (u1 (u1 (u1 r1))))) a2 then bif g_pick r0 (g_Vs_l20Rd_odd_2 r0 (u1 (u1 (u1 (u1 (u1 r1))))) a2) (5:Int) == (0:Int) then g_pick r0 (u1 (u1 (u1 r1))) (3:Int) else bif g_pick r0 (g_Vs_l20Rd_odd_2 r0 (u1 (u1 (u1 (u1 (u1 r1))))) a2) (5:Int) == (1:Int) then g_pick r0 (u1 (u1 (u1 r1))) (3:Int) else bif g_pick r0 (g_Vs_l20Rd_odd_2 r0 (u1 (u1 (u1 (u1 (u1 r1))))) a2) (5:Int) == (2:Int) then at_ (Ty.int IntKind.i64) [(-1:Int),(10:Int),(1:Int)] (Int.toNat (g_pick r0 (u1 (g_Vs_l20Rd_odd_2 r0 (u1 (u1 (u1 (u1 (u1 r1))))) a2)) (3:Int))) else bif g_pick r0 (g_Vs_l20Rd_odd_2 r0 (u1 (u1 (u1 (u1 (u1 r1))))) a2) (5:Int) == (3:Int) then g_pick r0 (u1 (u1 (u1 r1))) (3:Int) else g_pick r0 (u1 (u1 (u1 r1))) (3:Int) else g_pick r0 (u1 (u1 (u1 r1))) (3:Int) else bif IntKind.wrap IntKind.i64 ((1:Int) + g_pick r0 r1 (5:Int)) == (3:Int) then bif g_Vs_l20Rd_odd_0 r0 (u1 (u1 (u1 (u1 r1)))) a2 then bif g_pick r0 (g_Vs_l20Rd_odd_2 r0 (u1 (u1 (u1 (u1 r1)))) a2) (5:Int) == (0:Int) then g_pick r0 (u1 r1) (3:Int) else bif g_pick r0 (g_Vs_l20Rd_odd_2 r0 (u1 (u1 (u1 (u1 r1)))) a2) (5:Int) == (1:Int) then g_pick r0 (u1 r1) (3:Int) else bif g_pick r0 (g_Vs_l20Rd_odd_2 r0 (u1 (u1 (u1 (u1 r1)))) a2) (5:Int) == (2:Int) then at_ (Ty.int IntKind.i64) [(-1:Int),(10:Int),(1:Int)] (Int.toNat (g_pick r0 (u1 (g_Vs_l20Rd_odd_2 r0 (u1 (u1 (u1 (u1 r1)))) a2)) (3:Int))) else bif g_pick r0 (g_Vs_l20Rd_odd_2 r0 (u1 (u1 (u1 (u1 r1)))) a2) (5:Int) == (3:Int) then g_pick r0 (u1 r1) (3:Int) else g_pick r0 (u1 r1) (3:Int) else g_pick r0 (u1 r1) (3:Int) else bif g_Vs_l20Rd_odd_0 r0 (u1 (u1 (u1 r1))) a2 then bif g_pick r0 (g_Vs_l20Rd_odd_2 r0 (u1 (u1 (u1 r1))) a2) (5:Int) == (0:Int) then (0:Int) else bif g_pick r0 (g_Vs_l20Rd_odd_2 r0 (u1 (u1 (u1 r1))) a2) (5:Int) == (1:Int) then (0:Int) else bif g_pick r0 (g_Vs_l20Rd_odd_2 r0 (u1 (u1 (u1 r1))) a2) (5:Int) == (2:Int) then at_ (Ty.int IntKind.i64) [(-1:Int),(10:Int),(1:Int)] (Int.toNat (g_pick r0 (u1 (g_Vs_l20Rd_odd_2 r0 (u1 (u1 (u1 r1))) a2)) (3:Int))) else bif g_pick r0 (g_Vs_l20Rd_odd_2 r0 (u1 (u1 (u1 r1))) a2) (5:Int) == (3:Int) then (0:Int) else (0:Int) else (0:Int)
noncomputable def g_Vs_l20Op_4 (r0:List Int) (r1:Int) (a2:Int):Int := bif IntKind.wrap IntKind.i64 ((1:Int) + g_pick r0 r1 (5:Int)) == (1:Int) then bif IntKind.wrap IntKind.i64 ((1:Int) + g_pick r0 r1 (5:Int)) == (1:Int) then bif g_Vs_l20Rd_odd_0 r0 (u1 (u1 (u1 r1))) a2 then bif g_pick r0 (g_Vs_l20Rd_odd_2 r0 (u1 (u1 (u1 r1))) a2) (5:Int) == (0:Int) then (0:Int) else bif g_pick r0 (g_Vs_l20Rd_odd_2 r0 (u1 (u1 (u1 r1))) a2) (5:Int) == (1:Int) then (0:Int) else bif g_pick r0 (g_Vs_l20Rd_odd_2 r0 (u1 (u1 (u1 r1))) a2) (5:Int) == (2:Int) then (0:Int) else bif g_pick r0 (g_Vs_l20Rd_odd_2 r0 (u1 (u1 (u1 r1))) a2) (5:Int) == (3:Int) then (0:Int) else at_ (Ty.int IntKind.i64) [(-1:Int),(100:Int),(99:Int)] (Int.toNat (g_pick r0 (u1 (g_Vs_l20Rd_odd_2 r0 (u1 (u1 (u1 r1))) a2)) (3:Int))) else (0:Int) else bif IntKind.wrap IntKind.i64 ((1:Int) + g_pick r0 r1 (5:Int)) == (2:Int) then bif g_Vs_l20Rd_odd_0 r0 (u1 (u1 (u1 (u1 (u1 r1))))) a2 then bif g_pick r0 (g_Vs_l20Rd_odd_2 r0 (u1 (u1 (u1 (u1 (u1 r1))))) a2) (5:Int) == (0:Int) then g_pick r0 (u1 (u1 (u1 (u1 r1)))) (3:Int) else bif g_pick r0 (g_Vs_l20Rd_odd_2 r0 (u1 (u1 (u1 (u1 (u1 r1))))) a2) (5:Int) == (1:Int) then g_pick r0 (u1 (u1 (u1 (u1 r1)))) (3:Int) else bif g_pick r0 (g_Vs_l20Rd_odd_2 r0 (u1 (u1 (u1 (u1 (u1 r1))))) a2) (5:Int) == (2:Int) then g_pick r0 (u1 (u1 (u1 (u1 r1)))) (3:Int) else bif g_pick r0 (g_Vs_l20Rd_odd_2 r0 (u1 (u1 (u1 (u1 (u1 r1))))) a2) (5:Int) == (3:Int) then g_pick r0 (u1 (u1 (u1 (u1 r1)))) (3:Int) else at_ (Ty.int IntKind.i64) [(-1:Int),(100:Int),(99:Int)] (Int.toNat (g_pick r0 (u1 (g_Vs_l20Rd_odd_2 r0 (u1 (u1 (u1 (u1 (u1 r1))))) a2)) (3:Int))) else g_pick r0 (u1 (u1 (u1 (u1 r1)))) (3:Int) else bif IntKind.wrap IntKind.i64 ((1:Int) + g_pick r0 r1 (5:Int)) == (3:Int) then bif g_Vs_l20Rd_odd_0 r0 (u1 (u1 (u1 (u1 r1)))) a2 then bif g_pick r0 (g_Vs_l20Rd_odd_2 r0 (u1 (u1 (u1 (u1 r1)))) a2) (5:Int) == (0:Int) then g_pick r0 (u1 (u1 r1)) (3:Int) else bif g_pick r0 (g_Vs_l20Rd_odd_2 r0 (u1 (u1 (u1 (u1 r1)))) a2) (5:Int) == (1:Int) then g_pick r0 (u1 (u1 r1)) (3:Int) else bif g_pick r0 (g_Vs_l20Rd_odd_2 r0 (u1 (u1 (u1 (u1 r1)))) a2) (5:Int) == (2:Int) then g_pick r0 (u1 (u1 r1)) (3:Int) else bif g_pick r0 (g_Vs_l20Rd_odd_2 r0 (u1 (u1 (u1 (u1 r1)))) a2) (5:Int) == (3:Int) then g_pick r0 (u1 (u1 r1)) (3:Int) else at_ (Ty.int IntKind.i64) [(-1:Int),(100:Int),(99:Int)] (Int.toNat (g_pick r0 (u1 (g_Vs_l20Rd_odd_2 r0 (u1 (u1 (u1 (u1 r1)))) a2)) (3:Int))) else g_pick r0 (u1 (u1 r1)) (3:Int) else bif g_Vs_l20Rd_odd_0 r0 (u1 (u1 (u1 r1))) a2 then bif g_pick r0 (g_Vs_l20Rd_odd_2 r0 (u1 (u1 (u1 r1))) a2) (5:Int) == (0:Int) then (0:Int) else bif g_pick r0 (g_Vs_l20Rd_odd_2 r0 (u1 (u1 (u1 r1))) a2) (5:Int) == (1:Int) then (0:Int) else bif g_pick r0 (g_Vs_l20Rd_odd_2 r0 (u1 (u1 (u1 r1))) a2) (5:Int) == (2:Int) then (0:Int) else bif g_pick r0 (g_Vs_l20Rd_odd_2 r0 (u1 (u1 (u1 r1))) a2) (5:Int) == (3:Int) then (0:Int) else at_ (Ty.int IntKind.i64) [(-1:Int),(100:Int),(99:Int)] (Int.toNat (g_pick r0 (u1 (g_Vs_l20Rd_odd_2 r0 (u1 (u1 (u1 r1))) a2)) (3:Int))) else (0:Int) else bif IntKind.wrap IntKind.i64 ((1:Int) + g_pick r0 r1 (5:Int)) == (5:Int) then bif g_Vs_l20Rd_odd_0 r0 (u1 (u1 (u1 r1))) a2 then bif g_pick r0 (g_Vs_l20Rd_odd_2 r0 (u1 (u1 (u1 r1))) a2) (5:Int) == (0:Int) then (0:Int) else bif g_pick r0 (g_Vs_l20Rd_odd_2 r0 (u1 (u1 (u1 r1))) a2) (5:Int) == (1:Int) then (0:Int) else bif g_pick r0 (g_Vs_l20Rd_odd_2 r0 (u1 (u1 (u1 r1))) a2) (5:Int) == (2:Int) then (0:Int) else bif g_pick r0 (g_Vs_l20Rd_odd_2 r0 (u1 (u1 (u1 r1))) a2) (5:Int) == (3:Int) then (0:Int) else at_ (Ty.int IntKind.i64) [(-1:Int),(100:Int),(99:Int)] (Int.toNat (g_pick r0 (u1 (g_Vs_l20Rd_odd_2 r0 (u1 (u1 (u1 r1))) a2)) (3:Int))) else (0:Int) else bif IntKind.wrap IntKind.i64 ((1:Int) + g_pick r0 r1 (5:Int)) == (2:Int) then bif g_Vs_l20Rd_odd_0 r0 (u1 (u1 (u1 (u1 (u1 r1))))) a2 then bif g_pick r0 (g_Vs_l20Rd_odd_2 r0 (u1 (u1 (u1 (u1 (u1 r1))))) a2) (5:Int) == (0:Int) then g_pick r0 (u1 (u1 (u1 (u1 r1)))) (3:Int) else bif g_pick r0 (g_Vs_l20Rd_odd_2 r0 (u1 (u1 (u1 (u1 (u1 r1))))) a2) (5:Int) == (1:Int) then g_pick r0 (u1 (u1 (u1 (u1 r1)))) (3:Int) else bif g_pick r0 (g_Vs_l20Rd_odd_2 r0 (u1 (u1 (u1 (u1 (u1 r1))))) a2) (5:Int) == (2:Int) then g_pick r0 (u1 (u1 (u1 (u1 r1)))) (3:Int) else bif g_pick r0 (g_Vs_l20Rd_odd_2 r0 (u1 (u1 (u1 (u1 (u1 r1))))) a2) (5:Int) == (3:Int) then g_pick r0 (u1 (u1 (u1 (u1 r1)))) (3:Int) else at_ (Ty.int IntKind.i64) [(-1:Int),(100:Int),(99:Int)] (Int.toNat (g_pick r0 (u1 (g_Vs_l20Rd_odd_2 r0 (u1 (u1 (u1 (u1 (u1 r1))))) a2)) (3:Int))) else g_pick r0 (u1 (u1 (u1 (u1 r1)))) (3:Int) else bif IntKind.wrap IntKind.i64 ((1:Int) + g_pick r0 r1 (5:Int)) == (3:Int) then bif g_Vs_l20Rd_odd_0 r0 (u1 (u1 (u1 (u1 r1)))) a2 then bif g_pick r0 (g_Vs_l20Rd_odd_2 r0 (u1 (u1 (u1 (u1 r1)))) a2) (5:Int) == (0:Int) then g_pick r0 (u1 (u1 r1)) (3:Int) else bif g_pick r0 (g_Vs_l20Rd_odd_2 r0 (u1 (u1 (u1 (u1 r1)))) a2) (5:Int) == (1:Int) then g_pick r0 (u1 (u1 r1)) (3:Int) else bif g_pick r0 (g_Vs_l20Rd_odd_2 r0 (u1 (u1 (u1 (u1 r1)))) a2) (5:Int) == (2:Int) then g_pick r0 (u1 (u1 r1)) (3:Int) else bif g_pick r0 (g_Vs_l20Rd_odd_2 r0 (u1 (u1 (u1 (u1 r1)))) a2) (5:Int) == (3:Int) then g_pick r0 (u1 (u1 r1)) (3:Int) else at_ (Ty.int IntKind.i64) [(-1:Int),(100:Int),(99:Int)] (Int.toNat (g_pick r0 (u1 (g_Vs_l20Rd_odd_2 r0 (u1 (u1 (u1 (u1 r1)))) a2)) (3:Int))) else g_pick r0 (u1 (u1 r1)) (3:Int) else bif g_Vs_l20Rd_odd_0 r0 (u1 (u1 (u1 r1))) a2 then bif g_pick r0 (g_Vs_l20Rd_odd_2 r0 (u1 (u1 (u1 r1))) a2) (5:Int) == (0:Int) then (0:Int) else bif g_pick r0 (g_Vs_l20Rd_odd_2 r0 (u1 (u1 (u1 r1))) a2) (5:Int) == (1:Int) then (0:Int) else bif g_pick r0 (g_Vs_l20Rd_odd_2 r0 (u1 (u1 (u1 r1))) a2) (5:Int) == (2:Int) then (0:Int) else bif g_pick r0 (g_Vs_l20Rd_odd_2 r0 (u1 (u1 (u1 r1))) a2) (5:Int) == (3:Int) then (0:Int) else at_ (Ty.int IntKind.i64) [(-1:Int),(100:Int),(99:Int)] (Int.toNat (g_pick r0 (u1 (g_Vs_l20Rd_odd_2 r0 (u1 (u1 (u1 r1))) a2)) (3:Int))) else (0:Int)
noncomputable def g_Vs_l20Op_5 (r0:List Int) (r1:Int) (a2:Int):Int := bif IntKind.wrap IntKind.i64 ((1:Int) + g_pick r0 r1 (5:Int)) == (1:Int) then bif IntKind.wrap IntKind.i64 ((1:Int) + g_pick r0 r1 (5:Int)) == (1:Int) then bif g_Vs_l20Rd_odd_0 r0 (u1 (u1 (u1 r1))) a2 then bif g_pick r0 (g_Vs_l20Rd_odd_2 r0 (u1 (u1 (u1 r1))) a2) (5:Int) == (0:Int) then (0:Int) else bif g_pick r0 (g_Vs_l20Rd_odd_2 r0 (u1 (u1 (u1 r1))) a2) (5:Int) == (1:Int) then (0:Int) else bif g_pick r0 (g_Vs_l20Rd_odd_2 r0 (u1 (u1 (u1 r1))) a2) (5:Int) == (2:Int) then (0:Int) else bif g_pick r0 (g_Vs_l20Rd_odd_2 r0 (u1 (u1 (u1 r1))) a2) (5:Int) == (3:Int) then (0:Int) else (0:Int) else (0:Int) else bif IntKind.wrap IntKind.i64 ((1:Int) + g_pick r0 r1 (5:Int)) == (2:Int) then bif g_Vs_l20Rd_odd_0 r0 (u1 (u1 (u1 (u1 (u1 r1))))) a2 then bif g_pick r0 (g_Vs_l20Rd_odd_2 r0 (u1 (u1 (u1 (u1 (u1 r1))))) a2) (5:Int) == (0:Int) then (0:Int) else bif g_pick r0 (g_Vs_l20Rd_odd_2 r0 (u1 (u1 (u1 (u1 (u1 r1))))) a2) (5:Int) == (1:Int) then (0:Int) else bif g_pick r0 (g_Vs_l20Rd_odd_2 r0 (u1 (u1 (u1 (u1 (u1 r1))))) a2) (5:Int) == (2:Int) then (0:Int) else bif g_pick r0 (g_Vs_l20Rd_odd_2 r0 (u1 (u1 (u1 (u1 (u1 r1))))) a2) (5:Int) == (3:Int) then (0:Int) else (0:Int) else (0:Int) else bif IntKind.wrap IntKind.i64 ((1:Int) + g_pick r0 r1 (5:Int)) == (3:Int) then bif g_Vs_l20Rd_odd_0 r0 (u1 (u1 (u1 (u1 r1)))) a2 then bif g_pick r0 (g_Vs_l20Rd_odd_2 r0 (u1 (u1 (u1 (u1 r1)))) a2) (5:Int) == (0:Int) then g_pick r0 (u1 (u1 (u1 r1))) (3:Int) else bif g_pick r0 (g_Vs_l20Rd_odd_2 r0 (u1 (u1 (u1 (u1 r1)))) a2) (5:Int) == (1:Int) then g_pick r0 (u1 (u1 (u1 r1))) (3:Int) else bif g_pick r0 (g_Vs_l20Rd_odd_2 r0 (u1 (u1 (u1 (u1 r1)))) a2) (5:Int) == (2:Int) then g_pick r0 (u1 (u1 (u1 r1))) (3:Int) else bif g_pick r0 (g_Vs_l20Rd_odd_2 r0 (u1 (u1 (u1 (u1 r1)))) a2) (5:Int) == (3:Int) then g_pick r0 (u1 (u1 (u1 r1))) (3:Int) else g_pick r0 (u1 (u1 (u1 r1))) (3:Int) else g_pick r0 (u1 (u1 (u1 r1))) (3:Int) else bif g_Vs_l20Rd_odd_0 r0 (u1 (u1 (u1 r1))) a2 then bif g_pick r0 (g_Vs_l20Rd_odd_2 r0 (u1 (u1 (u1 r1))) a2) (5:Int) == (0:Int) then g_pick r0 (u1 r1) (3:Int) else bif g_pick r0 (g_Vs_l20Rd_odd_2 r0 (u1 (u1 (u1 r1))) a2) (5:Int) == (1:Int) then g_pick r0 (u1 r1) (3:Int) else bif g_pick r0 (g_Vs_l20Rd_odd_2 r0 (u1 (u1 (u1 r1))) a2) (5:Int) == (2:Int) then g_pick r0 (u1 r1) (3:Int) else bif g_pick r0 (g_Vs_l20Rd_odd_2 r0 (u1 (u1 (u1 r1))) a2) (5:Int) == (3:Int) then g_pick r0 (u1 r1) (3:Int) else g_pick r0 (u1 r1) (3:Int) else g_pick r0 (u1 r1) (3:Int) else bif IntKind.wrap IntKind.i64 ((1:Int) + g_pick r0 r1 (5:Int)) == (5:Int) then bif g_Vs_l20Rd_odd_0 r0 (u1 (u1 (u1 r1))) a2 then bif g_pick r0 (g_Vs_l20Rd_odd_2 r0 (u1 (u1 (u1 r1))) a2) (5:Int) == (0:Int) then (0:Int) else bif g_pick r0 (g_Vs_l20Rd_odd_2 r0 (u1 (u1 (u1 r1))) a2) (5:Int) == (1:Int) then (0:Int) else bif g_pick r0 (g_Vs_l20Rd_odd_2 r0 (u1 (u1 (u1 r1))) a2) (5:Int) == (2:Int) then (0:Int) else bif g_pick r0 (g_Vs_l20Rd_odd_2 r0 (u1 (u1 (u1 r1))) a2) (5:Int) == (3:Int) then (0:Int) else (0:Int) else (0:Int) else bif IntKind.wrap IntKind.i64 ((1:Int) + g_pick r0 r1 (5:Int)) == (2:Int) then bif g_Vs_l20Rd_odd_0 r0 (u1 (u1 (u1 (u1 (u1 r1))))) a2 then bif g_pick r0 (g_Vs_l20Rd_odd_2 r0 (u1 (u1 (u1 (u1 (u1 r1))))) a2) (5:Int) == (0:Int) then (0:Int) else bif g_pick r0 (g_Vs_l20Rd_odd_2 r0 (u1 (u1 (u1 (u1 (u1 r1))))) a2) (5:Int) == (1:Int) then (0:Int) else bif g_pick r0 (g_Vs_l20Rd_odd_2 r0 (u1 (u1 (u1 (u1 (u1 r1))))) a2) (5:Int) == (2:Int) then (0:Int) else bif g_pick r0 (g_Vs_l20Rd_odd_2 r0 (u1 (u1 (u1 (u1 (u1 r1))))) a2) (5:Int) == (3:Int) then (0:Int) else (0:Int) else (0:Int) else bif IntKind.wrap IntKind.i64 ((1:Int) + g_pick r0 r1 (5:Int)) == (3:Int) then bif g_Vs_l20Rd_odd_0 r0 (u1 (u1 (u1 (u1 r1)))) a2 then bif g_pick r0 (g_Vs_l20Rd_odd_2 r0 (u1 (u1 (u1 (u1 r1)))) a2) (5:Int) == (0:Int) then g_pick r0 (u1 (u1 (u1 r1))) (3:Int) else bif g_pick r0 (g_Vs_l20Rd_odd_2 r0 (u1 (u1 (u1 (u1 r1)))) a2) (5:Int) == (1:Int) then g_pick r0 (u1 (u1 (u1 r1))) (3:Int) else bif g_pick r0 (g_Vs_l20Rd_odd_2 r0 (u1 (u1 (u1 (u1 r1)))) a2) (5:Int) == (2:Int) then g_pick r0 (u1 (u1 (u1 r1))) (3:Int) else bif g_pick r0 (g_Vs_l20Rd_odd_2 r0 (u1 (u1 (u1 (u1 r1)))) a2) (5:Int) == (3:Int) then g_pick r0 (u1 (u1 (u1 r1))) (3:Int) else g_pick r0 (u1 (u1 (u1 r1))) (3:Int) else g_pick r0 (u1 (u1 (u1 r1))) (3:Int) else bif g_Vs_l20Rd_odd_0 r0 (u1 (u1 (u1 r1))) a2 then bif g_pick r0 (g_Vs_l20Rd_odd_2 r0 (u1 (u1 (u1 r1))) a2) (5:Int) == (0:Int) then g_pick r0 (u1 r1) (3:Int) else bif g_pick r0 (g_Vs_l20Rd_odd_2 r0 (u1 (u1 (u1 r1))) a2) (5:Int) == (1:Int) then g_pick r0 (u1 r1) (3:Int) else bif g_pick r0 (g_Vs_l20Rd_odd_2 r0 (u1 (u1 (u1 r1))) a2) (5:Int) == (2:Int) then g_pick r0 (u1 r1) (3:Int) else bif g_pick r0 (g_Vs_l20Rd_odd_2 r0 (u1 (u1 (u1 r1))) a2) (5:Int) == (3:Int) then g_pick r0 (u1 r1) (3:Int) else g_pick r0 (u1 r1) (3:Int) else g_pick r0 (u1 r1) (3:Int)
noncomputable def g_Vs_l20Op_6 (r0:List Int) (r1:Int) (a2:Int):Int := bif IntKind.wrap IntKind.i64 ((1:Int) + g_pick r0 r1 (5:Int)) == (1:Int) then bif IntKind.wrap IntKind.i64 ((1:Int) + g_pick r0 r1 (5:Int)) == (1:Int) then bif g_Vs_l20Rd_odd_0 r0 (u1 (u1 (u1 r1))) a2 then bif g_pick r0 (g_Vs_l20Rd_odd_2 r0 (u1 (u1 (u1 r1))) a2) (5:Int) == (0:Int) then (0:Int) else bif g_pick r0 (g_Vs_l20Rd_odd_2 r0 (u1 (u1 (u1 r1))) a2) (5:Int) == (1:Int) then (0:Int) else bif g_pick r0 (g_Vs_l20Rd_odd_2 r0 (u1 (u1 (u1 r1))) a2) (5:Int) == (2:Int) then (0:Int) else bif g_pick r0 (g_Vs_l20Rd_odd_2 r0 (u1 (u1 (u1 r1))) a2) (5:Int) == (3:Int) then at_ (Ty.int IntKind.i64) [(-1:Int),(100:Int),(1:Int)] (Int.toNat (g_pick r0 (u1 (g_Vs_l20Rd_odd_2 r0 (u1 (u1 (u1 r1))) a2)) (3:Int))) else (0:Int) else (0:Int) else bif IntKind.wrap IntKind.i64 ((1:Int) + g_pick r0 r1 (5:Int)) == (2:Int) then bif g_Vs_l20Rd_odd_0 r0 (u1 (u1 (u1 (u1 (u1 r1))))) a2 then bif g_pick r0 (g_Vs_l20Rd_odd_2 r0 (u1 (u1 (u1 (u1 (u1 r1))))) a2) (5:Int) == (0:Int) then (0:Int) else bif g_pick r0 (g_Vs_l20Rd_odd_2 r0 (u1 (u1 (u1 (u1 (u1 r1))))) a2) (5:Int) == (1:Int) then (0:Int) else bif g_pick r0 (g_Vs_l20Rd_odd_2 r0 (u1 (u1 (u1 (u1 (u1 r1))))) a2) (5:Int) == (2:Int) then (0:Int) else bif g_pick r0 (g_Vs_l20Rd_odd_2 r0 (u1 (u1 (u1 (u1 (u1 r1))))) a2) (5:Int) == (3:Int) then at_ (Ty.int IntKind.i64) [(-1:Int),(100:Int),(1:Int)] (Int.toNat (g_pick r0 (u1 (g_Vs_l20Rd_odd_2 r0 (u1 (u1 (u1 (u1 (u1 r1))))) a2)) (3:Int))) else (0:Int) else (0:Int) else bif IntKind.wrap IntKind.i64 ((1:Int) + g_pick r0 r1 (5:Int)) == (3:Int) then bif g_Vs_l20Rd_odd_0 r0 (u1 (u1 (u1 (u1 r1)))) a2 then bif g_pick r0 (g_Vs_l20Rd_odd_2 r0 (u1 (u1 (u1 (u1 r1)))) a2) (5:Int) == (0:Int) then (0:Int) else bif g_pick r0 (g_Vs_l20Rd_odd_2 r0 (u1 (u1 (u1 (u1 r1)))) a2) (5:Int) == (1:Int) then (0:Int) else bif g_pick r0 (g_Vs_l20Rd_odd_2 r0 (u1 (u1 (u1 (u1 r1)))) a2) (5:Int) == (2:Int) then (0:Int) else bif g_pick r0 (g_Vs_l20Rd_odd_2 r0 (u1 (u1 (u1 (u1 r1)))) a2) (5:Int) == (3:Int) then at_ (Ty.int IntKind.i64) [(-1:Int),(100:Int),(1:Int)] (Int.toNat (g_pick r0 (u1 (g_Vs_l20Rd_odd_2 r0 (u1 (u1 (u1 (u1 r1)))) a2)) (3:Int))) else (0:Int) else (0:Int) else bif g_Vs_l20Rd_odd_0 r0 (u1 (u1 (u1 r1))) a2 then bif g_pick r0 (g_Vs_l20Rd_odd_2 r0 (u1 (u1 (u1 r1))) a2) (5:Int) == (0:Int) then IntKind.wrap IntKind.i64 ((1:Int) + g_pick r0 (u1 (u1 r1)) (3:Int)) else bif g_pick r0 (g_Vs_l20Rd_odd_2 r0 (u1 (u1 (u1 r1))) a2) (5:Int) == (1:Int) then IntKind.wrap IntKind.i64 ((1:Int) + g_pick r0 (u1 (u1 r1)) (3:Int)) else bif g_pick r0 (g_Vs_l20Rd_odd_2 r0 (u1 (u1 (u1 r1))) a2) (5:Int) == (2:Int) then IntKind.wrap IntKind.i64 ((1:Int) + g_pick r0 (u1 (u1 r1)) (3:Int)) else bif g_pick r0 (g_Vs_l20Rd_odd_2 r0 (u1 (u1 (u1 r1))) a2) (5:Int) == (3:Int) then at_ (Ty.int IntKind.i64) [(-1:Int),(100:Int),(1:Int)] (Int.toNat (g_pick r0 (u1 (g_Vs_l20Rd_odd_2 r0 (u1 (u1 (u1 r1))) a2)) (3:Int))) else IntKind.wrap IntKind.i64 ((1:Int) + g_pick r0 (u1 (u1 r1)) (3:Int)) else IntKind.wrap IntKind.i64 ((1:Int) + g_pick r0 (u1 (u1 r1)) (3:Int)) else bif IntKind.wrap IntKind.i64 ((1:Int) + g_pick r0 r1 (5:Int)) == (5:Int) then bif g_Vs_l20Rd_odd_0 r0 (u1 (u1 (u1 r1))) a2 then bif g_pick r0 (g_Vs_l20Rd_odd_2 r0 (u1 (u1 (u1 r1))) a2) (5:Int) == (0:Int) then (0:Int) else bif g_pick r0 (g_Vs_l20Rd_odd_2 r0 (u1 (u1 (u1 r1))) a2) (5:Int) == (1:Int) then (0:Int) else bif g_pick r0 (g_Vs_l20Rd_odd_2 r0 (u1 (u1 (u1 r1))) a2) (5:Int) == (2:Int) then (0:Int) else bif g_pick r0 (g_Vs_l20Rd_odd_2 r0 (u1 (u1 (u1 r1))) a2) (5:Int) == (3:Int) then at_ (Ty.int IntKind.i64) [(-1:Int),(100:Int),(1:Int)] (Int.toNat (g_pick r0 (u1 (g_Vs_l20Rd_odd_2 r0 (u1 (u1 (u1 r1))) a2)) (3:Int))) else (0:Int) else (0:Int) else bif IntKind.wrap IntKind.i64 ((1:Int) + g_pick r0 r1 (5:Int)) == (2:Int) then bif g_Vs_l20Rd_odd_0 r0 (u1 (u1 (u1 (u1 (u1 r1))))) a2 then bif g_pick r0 (g_Vs_l20Rd_odd_2 r0 (u1 (u1 (u1 (u1 (u1 r1))))) a2) (5:Int) == (0:Int) then (0:Int) else bif g_pick r0 (g_Vs_l20Rd_odd_2 r0 (u1 (u1 (u1 (u1 (u1 r1))))) a2) (5:Int) == (1:Int) then (0:Int) else bif g_pick r0 (g_Vs_l20Rd_odd_2 r0 (u1 (u1 (u1 (u1 (u1 r1))))) a2) (5:Int) == (2:Int) then (0:Int) else bif g_pick r0 (g_Vs_l20Rd_odd_2 r0 (u1 (u1 (u1 (u1 (u1 r1))))) a2) (5:Int) == (3:Int) then at_ (Ty.int IntKind.i64) [(-1:Int),(100:Int),(1:Int)] (Int.toNat (g_pick r0 (u1 (g_Vs_l20Rd_odd_2 r0 (u1 (u1 (u1 (u1 (u1 r1))))) a2)) (3:Int))) else (0:Int) else (0:Int) else bif IntKind.wrap IntKind.i64 ((1:Int) + g_pick r0 r1 (5:Int)) == (3:Int) then bif g_Vs_l20Rd_odd_0 r0 (u1 (u1 (u1 (u1 r1)))) a2 then bif g_pick r0 (g_Vs_l20Rd_odd_2 r0 (u1 (u1 (u1 (u1 r1)))) a2) (5:Int) == (0:Int) then (0:Int) else bif g_pick r0 (g_Vs_l20Rd_odd_2 r0 (u1 (u1 (u1 (u1 r1)))) a2) (5:Int) == (1:Int) then (0:Int) else bif g_pick r0 (g_Vs_l20Rd_odd_2 r0 (u1 (u1 (u1 (u1 r1)))) a2) (5:Int) == (2:Int) then (0:Int) else bif g_pick r0 (g_Vs_l20Rd_odd_2 r0 (u1 (u1 (u1 (u1 r1)))) a2) (5:Int) == (3:Int) then at_ (Ty.int IntKind.i64) [(-1:Int),(100:Int),(1:Int)] (Int.toNat (g_pick r0 (u1 (g_Vs_l20Rd_odd_2 r0 (u1 (u1 (u1 (u1 r1)))) a2)) (3:Int))) else (0:Int) else (0:Int) else bif g_Vs_l20Rd_odd_0 r0 (u1 (u1 (u1 r1))) a2 then bif g_pick r0 (g_Vs_l20Rd_odd_2 r0 (u1 (u1 (u1 r1))) a2) (5:Int) == (0:Int) then IntKind.wrap IntKind.i64 ((1:Int) + g_pick r0 (u1 (u1 r1)) (3:Int)) else bif g_pick r0 (g_Vs_l20Rd_odd_2 r0 (u1 (u1 (u1 r1))) a2) (5:Int) == (1:Int) then IntKind.wrap IntKind.i64 ((1:Int) + g_pick r0 (u1 (u1 r1)) (3:Int)) else bif g_pick r0 (g_Vs_l20Rd_odd_2 r0 (u1 (u1 (u1 r1))) a2) (5:Int) == (2:Int) then IntKind.wrap IntKind.i64 ((1:Int) + g_pick r0 (u1 (u1 r1)) (3:Int)) else bif g_pick r0 (g_Vs_l20Rd_odd_2 r0 (u1 (u1 (u1 r1))) a2) (5:Int) == (3:Int) then at_ (Ty.int IntKind.i64) [(-1:Int),(100:Int),(1:Int)] (Int.toNat (g_pick r0 (u1 (g_Vs_l20Rd_odd_2 r0 (u1 (u1 (u1 r1))) a2)) (3:Int))) else IntKind.wrap IntKind.i64 ((1:Int) + g_pick r0 (u1 (u1 r1)) (3:Int)) else IntKind.wrap IntKind.i64 ((1:Int) + g_pick r0 (u1 (u1 r1)) (3:Int))
noncomputable def g_Vs_l20Op_7 (r0:List Int) (r1:Int) (a2:Int):List Int := bif IntKind.wrap IntKind.i64 ((1:Int) + g_pick r0 r1 (5:Int)) == (1:Int) then bif IntKind.wrap IntKind.i64 ((1:Int) + g_pick r0 r1 (5:Int)) == (1:Int) then bif g_Vs_l20Rd_odd_0 r0 (u1 (u1 (u1 r1))) a2 then bif g_pick r0 (g_Vs_l20Rd_odd_2 r0 (u1 (u1 (u1 r1))) a2) (5:Int) == (0:Int) then r0 else bif g_pick r0 (g_Vs_l20Rd_odd_2 r0 (u1 (u1 (u1 r1))) a2) (5:Int) == (1:Int) then r0 else bif g_pick r0 (g_Vs_l20Rd_odd_2 r0 (u1 (u1 (u1 r1))) a2) (5:Int) == (2:Int) then r0 else bif g_pick r0 (g_Vs_l20Rd_odd_2 r0 (u1 (u1 (u1 r1))) a2) (5:Int) == (3:Int) then r0 else r0 else r0 else bif IntKind.wrap IntKind.i64 ((1:Int) + g_pick r0 r1 (5:Int)) == (2:Int) then bif g_Vs_l20Rd_odd_0 r0 (u1 (u1 (u1 (u1 (u1 r1))))) a2 then bif g_pick r0 (g_Vs_l20Rd_odd_2 r0 (u1 (u1 (u1 (u1 (u1 r1))))) a2) (5:Int) == (0:Int) then r0 else bif g_pick r0 (g_Vs_l20Rd_odd_2 r0 (u1 (u1 (u1 (u1 (u1 r1))))) a2) (5:Int) == (1:Int) then r0 else bif g_pick r0 (g_Vs_l20Rd_odd_2 r0 (u1 (u1 (u1 (u1 (u1 r1))))) a2) (5:Int) == (2:Int) then r0 else bif g_pick r0 (g_Vs_l20Rd_odd_2 r0 (u1 (u1 (u1 (u1 (u1 r1))))) a2) (5:Int) == (3:Int) then r0 else r0 else r0 else bif IntKind.wrap IntKind.i64 ((1:Int) + g_pick r0 r1 (5:Int)) == (3:Int) then bif g_Vs_l20Rd_odd_0 r0 (u1 (u1 (u1 (u1 r1)))) a2 then bif g_pick r0 (g_Vs_l20Rd_odd_2 r0 (u1 (u1 (u1 (u1 r1)))) a2) (5:Int) == (0:Int) then r0 else bif g_pick r0 (g_Vs_l20Rd_odd_2 r0 (u1 (u1 (u1 (u1 r1)))) a2) (5:Int) == (1:Int) then r0 else bif g_pick r0 (g_Vs_l20Rd_odd_2 r0 (u1 (u1 (u1 (u1 r1)))) a2) (5:Int) == (2:Int) then r0 else bif g_pick r0 (g_Vs_l20Rd_odd_2 r0 (u1 (u1 (u1 (u1 r1)))) a2) (5:Int) == (3:Int) then r0 else r0 else r0 else bif g_Vs_l20Rd_odd_0 r0 (u1 (u1 (u1 r1))) a2 then bif g_pick r0 (g_Vs_l20Rd_odd_2 r0 (u1 (u1 (u1 r1))) a2) (5:Int) == (0:Int) then r0 else bif g_pick r0 (g_Vs_l20Rd_odd_2 r0 (u1 (u1 (u1 r1))) a2) (5:Int) == (1:Int) then r0 else bif g_pick r0 (g_Vs_l20Rd_odd_2 r0 (u1 (u1 (u1 r1))) a2) (5:Int) == (2:Int) then r0 else bif g_pick r0 (g_Vs_l20Rd_odd_2 r0 (u1 (u1 (u1 r1))) a2) (5:Int) == (3:Int) then r0 else r0 else r0 else bif IntKind.wrap IntKind.i64 ((1:Int) + g_pick r0 r1 (5:Int)) == (5:Int) then bif g_Vs_l20Rd_odd_0 r0 (u1 (u1 (u1 r1))) a2 then bif g_pick r0 (g_Vs_l20Rd_odd_2 r0 (u1 (u1 (u1 r1))) a2) (5:Int) == (0:Int) then r0 else bif g_pick r0 (g_Vs_l20Rd_odd_2 r0 (u1 (u1 (u1 r1))) a2) (5:Int) == (1:Int) then r0 else bif g_pick r0 (g_Vs_l20Rd_odd_2 r0 (u1 (u1 (u1 r1))) a2) (5:Int) == (2:Int) then r0 else bif g_pick r0 (g_Vs_l20Rd_odd_2 r0 (u1 (u1 (u1 r1))) a2) (5:Int) == (3:Int) then r0 else r0 else r0 else bif IntKind.wrap IntKind.i64 ((1:Int) + g_pick r0 r1 (5:Int)) == (2:Int) then bif g_Vs_l20Rd_odd_0 r0 (u1 (u1 (u1 (u1 (u1 r1))))) a2 then bif g_pick r0 (g_Vs_l20Rd_odd_2 r0 (u1 (u1 (u1 (u1 (u1 r1))))) a2) (5:Int) == (0:Int) then r0 else bif g_pick r0 (g_Vs_l20Rd_odd_2 r0 (u1 (u1 (u1 (u1 (u1 r1))))) a2) (5:Int) == (1:Int) then r0 else bif g_pick r0 (g_Vs_l20Rd_odd_2 r0 (u1 (u1 (u1 (u1 (u1 r1))))) a2) (5:Int) == (2:Int) then r0 else bif g_pick r0 (g_Vs_l20Rd_odd_2 r0 (u1 (u1 (u1 (u1 (u1 r1))))) a2) (5:Int) == (3:Int) then r0 else r0 else r0 else bif IntKind.wrap IntKind.i64 ((1:Int) + g_pick r0 r1 (5:Int)) == (3:Int) then bif g_Vs_l20Rd_odd_0 r0 (u1 (u1 (u1 (u1 r1)))) a2 then bif g_pick r0 (g_Vs_l20Rd_odd_2 r0 (u1 (u1 (u1 (u1 r1)))) a2) (5:Int) == (0:Int) then r0 else bif g_pick r0 (g_Vs_l20Rd_odd_2 r0 (u1 (u1 (u1 (u1 r1)))) a2) (5:Int) == (1:Int) then r0 else bif g_pick r0 (g_Vs_l20Rd_odd_2 r0 (u1 (u1 (u1 (u1 r1)))) a2) (5:Int) == (2:Int) then r0 else bif g_pick r0 (g_Vs_l20Rd_odd_2 r0 (u1 (u1 (u1 (u1 r1)))) a2) (5:Int) == (3:Int) then r0 else r0 else r0 else bif g_Vs_l20Rd_odd_0 r0 (u1 (u1 (u1 r1))) a2 then bif g_pick r0 (g_Vs_l20Rd_odd_2 r0 (u1 (u1 (u1 r1))) a2) (5:Int) == (0:Int) then r0 else bif g_pick r0 (g_Vs_l20Rd_odd_2 r0 (u1 (u1 (u1 r1))) a2) (5:Int) == (1:Int) then r0 else bif g_pick r0 (g_Vs_l20Rd_odd_2 r0 (u1 (u1 (u1 r1))) a2) (5:Int) == (2:Int) then r0 else bif g_pick r0 (g_Vs_l20Rd_odd_2 r0 (u1 (u1 (u1 r1))) a2) (5:Int) == (3:Int) then r0 else r0 else r0
noncomputable def g_Vs_l20Op_8 (r0:List Int) (r1:Int) (a2:Int):Int := bif IntKind.wrap IntKind.i64 ((1:Int) + g_pick r0 r1 (5:Int)) == (1:Int) then bif IntKind.wrap IntKind.i64 ((1:Int) + g_pick r0 r1 (5:Int)) == (1:Int) then bif g_Vs_l20Rd_odd_0 r0 (u1 (u1 (u1 r1))) a2 then bif g_pick r0 (g_Vs_l20Rd_odd_2 r0 (u1 (u1 (u1 r1))) a2) (5:Int) == (0:Int) then u1 (u1 (g_Vs_l20Rd_odd_2 r0 (u1 (u1 (u1 r1))) a2)) else bif g_pick r0 (g_Vs_l20Rd_odd_2 r0 (u1 (u1 (u1 r1))) a2) (5:Int) == (1:Int) then u1 (u1 (g_Vs_l20Rd_odd_2 r0 (u1 (u1 (u1 r1))) a2)) else bif g_pick r0 (g_Vs_l20Rd_odd_2 r0 (u1 (u1 (u1 r1))) a2) (5:Int) == (2:Int) then u1 (u1 (g_Vs_l20Rd_odd_2 r0 (u1 (u1 (u1 r1))) a2)) else bif g_pick r0 (g_Vs_l20Rd_odd_2 r0 (u1 (u1 (u1 r1))) a2) (5:Int) == (3:Int) then u1 (u1 (g_Vs_l20Rd_odd_2 r0 (u1 (u1 (u1 r1))) a2)) else u1 (u1 (g_Vs_l20Rd_odd_2 r0 (u1 (u1 (u1 r1))) a2)) else g_Vs_l20Rd_odd_2 r0 (u1 (u1 (u1 r1))) a2 else bif IntKind.wrap IntKind.i64 ((1:Int) + g_pick r0 r1 (5:Int)) == (2:Int) then bif g_Vs_l20Rd_odd_0 r0 (u1 (u1 (u1 (u1 (u1 r1))))) a2 then bif g_pick r0 (g_Vs_l20Rd_odd_2 r0 (u1 (u1 (u1 (u1 (u1 r1))))) a2) (5:Int) == (0:Int) then u1 (u1 (g_Vs_l20Rd_odd_2 r0 (u1 (u1 (u1 (u1 (u1 r1))))) a2)) else bif g_pick r0 (g_Vs_l20Rd_odd_2 r0 (u1 (u1 (u1 (u1 (u1 r1))))) a2) (5:Int) == (1:Int) then u1 (u1 (g_Vs_l20Rd_odd_2 r0 (u1 (u1 (u1 (u1 (u1 r1))))) a2)) else bif g_pick r0 (g_Vs_l20Rd_odd_2 r0 (u1 (u1 (u1 (u1 (u1 r1))))) a2) (5:Int) == (2:Int) then u1 (u1 (g_Vs_l20Rd_odd_2 r0 (u1 (u1 (u1 (u1 (u1 r1))))) a2)) else bif g_pick r0 (g_Vs_l20Rd_odd_2 r0 (u1 (u1 (u1 (u1 (u1 r1))))) a2) (5:Int) == (3:Int) then u1 (u1 (g_Vs_l20Rd_odd_2 r0 (u1 (u1 (u1 (u1 (u1 r1))))) a2)) else u1 (u1 (g_Vs_l20Rd_odd_2 r0 (u1 (u1 (u1 (u1 (u1 r1))))) a2)) else g_Vs_l20Rd_odd_2 r0 (u1 (u1 (u1 (u1 (u1 r1))))) a2 else bif IntKind.wrap IntKind.i64 ((1:Int) + g_pick r0 r1 (5:Int)) == (3:Int) then bif g_Vs_l20Rd_odd_0 r0 (u1 (u1 (u1 (u1 r1)))) a2 then bif g_pick r0 (g_Vs_l20Rd_odd_2 r0 (u1 (u1 (u1 (u1 r1)))) a2) (5:Int) == (0:Int) then u1 (u1 (g_Vs_l20Rd_odd_2 r0 (u1 (u1 (u1 (u1 r1)))) a2)) else bif g_pick r0 (g_Vs_l20Rd_odd_2 r0 (u1 (u1 (u1 (u1 r1)))) a2) (5:Int) == (1:Int) then u1 (u1 (g_Vs_l20Rd_odd_2 r0 (u1 (u1 (u1 (u1 r1)))) a2)) else bif g_pick r0 (g_Vs_l20Rd_odd_2 r0 (u1 (u1 (u1 (u1 r1)))) a2) (5:Int) == (2:Int) then u1 (u1 (g_Vs_l20Rd_odd_2 r0 (u1 (u1 (u1 (u1 r1)))) a2)) else bif g_pick r0 (g_Vs_l20Rd_odd_2 r0 (u1 (u1 (u1 (u1 r1)))) a2) (5:Int) == (3:Int) then u1 (u1 (g_Vs_l20Rd_odd_2 r0 (u1 (u1 (u1 (u1 r1)))) a2)) else u1 (u1 (g_Vs_l20Rd_odd_2 r0 (u1 (u1 (u1 (u1 r1)))) a2)) else g_Vs_l20Rd_odd_2 r0 (u1 (u1 (u1 (u1 r1)))) a2 else bif g_Vs_l20Rd_odd_0 r0 (u1 (u1 (u1 r1))) a2 then bif g_pick r0 (g_Vs_l20Rd_odd_2 r0 (u1 (u1 (u1 r1))) a2) (5:Int) == (0:Int) then u1 (u1 (g_Vs_l20Rd_odd_2 r0 (u1 (u1 (u1 r1))) a2)) else bif g_pick r0 (g_Vs_l20Rd_odd_2 r0 (u1 (u1 (u1 r1))) a2) (5:Int) == (1:Int) then u1 (u1 (g_Vs_l20Rd_odd_2 r0 (u1 (u1 (u1 r1))) a2)) else bif g_pick r0 (g_Vs_l20Rd_odd_2 r0 (u1 (u1 (u1 r1))) a2) (5:Int) == (2:Int) then u1 (u1 (g_Vs_l20Rd_odd_2 r0 (u1 (u1 (u1 r1))) a2)) else bif g_pick r0 (g_Vs_l20Rd_odd_2 r0 (u1 (u1 (u1 r1))) a2) (5:Int) == (3:Int) then u1 (u1 (g_Vs_l20Rd_odd_2 r0 (u1 (u1 (u1 r1))) a2)) else u1 (u1 (g_Vs_l20Rd_odd_2 r0 (u1 (u1 (u1 r1))) a2)) else g_Vs_l20Rd_odd_2 r0 (u1 (u1 (u1 r1))) a2 else bif IntKind.wrap IntKind.i64 ((1:Int) + g_pick r0 r1 (5:Int)) == (5:Int) then bif g_Vs_l20Rd_odd_0 r0 (u1 (u1 (u1 r1))) a2 then bif g_pick r0 (g_Vs_l20Rd_odd_2 r0 (u1 (u1 (u1 r1))) a2) (5:Int) == (0:Int) then u1 (u1 (g_Vs_l20Rd_odd_2 r0 (u1 (u1 (u1 r1))) a2)) else bif g_pick r0 (g_Vs_l20Rd_odd_2 r0 (u1 (u1 (u1 r1))) a2) (5:Int) == (1:Int) then u1 (u1 (g_Vs_l20Rd_odd_2 r0 (u1 (u1 (u1 r1))) a2)) else bif g_pick r0 (g_Vs_l20Rd_odd_2 r0 (u1 (u1 (u1 r1))) a2) (5:Int) == (2:Int) then u1 (u1 (g_Vs_l20Rd_odd_2 r0 (u1 (u1 (u1 r1))) a2)) else bif g_pick r0 (g_Vs_l20Rd_odd_2 r0 (u1 (u1 (u1 r1))) a2) (5:Int) == (3:Int) then u1 (u1 (g_Vs_l20Rd_odd_2 r0 (u1 (u1 (u1 r1))) a2)) else u1 (u1 (g_Vs_l20Rd_odd_2 r0 (u1 (u1 (u1 r1))) a2)) else g_Vs_l20Rd_odd_2 r0 (u1 (u1 (u1 r1))) a2 else bif IntKind.wrap IntKind.i64 ((1:Int) + g_pick r0 r1 (5:Int)) == (2:Int) then bif g_Vs_l20Rd_odd_0 r0 (u1 (u1 (u1 (u1 (u1 r1))))) a2 then bif g_pick r0 (g_Vs_l20Rd_odd_2 r0 (u1 (u1 (u1 (u1 (u1 r1))))) a2) (5:Int) == (0:Int) then u1 (u1 (g_Vs_l20Rd_odd_2 r0 (u1 (u1 (u1 (u1 (u1 r1))))) a2)) else bif g_pick r0 (g_Vs_l20Rd_odd_2 r0 (u1 (u1 (u1 (u1 (u1 r1))))) a2) (5:Int) == (1:Int) then u1 (u1 (g_Vs_l20Rd_odd_2 r0 (u1 (u1 (u1 (u1 (u1 r1))))) a2)) else bif g_pick r0 (g_Vs_l20Rd_odd_2 r0 (u1 (u1 (u1 (u1 (u1 r1))))) a2) (5:Int) == (2:Int) then u1 (u1 (g_Vs_l20Rd_odd_2 r0 (u1 (u1 (u1 (u1 (u1 r1))))) a2)) else bif g_pick r0 (g_Vs_l20Rd_odd_2 r0 (u1 (u1 (u1 (u1 (u1 r1))))) a2) (5:Int) == (3:Int) then u1 (u1 (g_Vs_l20Rd_odd_2 r0 (u1 (u1 (u1 (u1 (u1 r1))))) a2)) else u1 (u1 (g_Vs_l20Rd_odd_2 r0 (u1 (u1 (u1 (u1 (u1 r1))))) a2)) else g_Vs_l20Rd_odd_2 r0 (u1 (u1 (u1 (u1 (u1 r1))))) a2 else bif IntKind.wrap IntKind.i64 ((1:Int) + g_pick r0 r1 (5:Int)) == (3:Int) then bif g_Vs_l20Rd_odd_0 r0 (u1 (u1 (u1 (u1 r1)))) a2 then bif g_pick r0 (g_Vs_l20Rd_odd_2 r0 (u1 (u1 (u1 (u1 r1)))) a2) (5:Int) == (0:Int) then u1 (u1 (g_Vs_l20Rd_odd_2 r0 (u1 (u1 (u1 (u1 r1)))) a2)) else bif g_pick r0 (g_Vs_l20Rd_odd_2 r0 (u1 (u1 (u1 (u1 r1)))) a2) (5:Int) == (1:Int) then u1 (u1 (g_Vs_l20Rd_odd_2 r0 (u1 (u1 (u1 (u1 r1)))) a2)) else bif g_pick r0 (g_Vs_l20Rd_odd_2 r0 (u1 (u1 (u1 (u1 r1)))) a2) (5:Int) == (2:Int) then u1 (u1 (g_Vs_l20Rd_odd_2 r0 (u1 (u1 (u1 (u1 r1)))) a2)) else bif g_pick r0 (g_Vs_l20Rd_odd_2 r0 (u1 (u1 (u1 (u1 r1)))) a2) (5:Int) == (3:Int) then u1 (u1 (g_Vs_l20Rd_odd_2 r0 (u1 (u1 (u1 (u1 r1)))) a2)) else u1 (u1 (g_Vs_l20Rd_odd_2 r0 (u1 (u1 (u1 (u1 r1)))) a2)) else g_Vs_l20Rd_odd_2 r0 (u1 (u1 (u1 (u1 r1)))) a2 else bif g_Vs_l20Rd_odd_0 r0 (u1 (u1 (u1 r1))) a2 then bif g_pick r0 (g_Vs_l20Rd_odd_2 r0 (u1 (u1 (u1 r1))) a2) (5:Int) == (0:Int) then u1 (u1 (g_Vs_l20Rd_odd_2 r0 (u1 (u1 (u1 r1))) a2)) else bif g_pick r0 (g_Vs_l20Rd_odd_2 r0 (u1 (u1 (u1 r1))) a2) (5:Int) == (1:Int) then u1 (u1 (g_Vs_l20Rd_odd_2 r0 (u1 (u1 (u1 r1))) a2)) else bif g_pick r0 (g_Vs_l20Rd_odd_2 r0 (u1 (u1 (u1 r1))) a2) (5:Int) == (2:Int) then u1 (u1 (g_Vs_l20Rd_odd_2 r0 (u1 (u1 (u1 r1))) a2)) else bif g_pick r0 (g_Vs_l20Rd_odd_2 r0 (u1 (u1 (u1 r1))) a2) (5:Int) == (3:Int) then u1 (u1 (g_Vs_l20Rd_odd_2 r0 (u1 (u1 (u1 r1))) a2)) else u1 (u1 (g_Vs_l20Rd_odd_2 r0 (u1 (u1 (u1 r1))) a2)) else g_Vs_l20Rd_odd_2 r0 (u1 (u1 (u1 r1))) a2
noncomputable def Fs_l20Op:FSem := fun ys => match ys with
 | [.val true [.sl .any 5 (.int .u8) r0,.int .i64 r1],.val false [.int .i64 a2]] => some ((g_As_l20Op r0 r1 a2),.val true [.int .i64 (g_Vs_l20Op_0 r0 r1 a2),.int .i64 (g_Vs_l20Op_1 r0 r1 a2),.int .i64 (g_Vs_l20Op_2 r0 r1 a2),.int .i64 (g_Vs_l20Op_3 r0 r1 a2),.int .i64 (g_Vs_l20Op_4 r0 r1 a2),.int .i64 (g_Vs_l20Op_5 r0 r1 a2),.int .i64 (g_Vs_l20Op_6 r0 r1 a2)],[[.sl .any 5 (.int .u8) (g_Vs_l20Op_7 r0 r1 a2),.int .i64 (g_Vs_l20Op_8 r0 r1 a2)]])
 | _ => none
theorem vs_l20Op (r0:List Int) (r1:Int) (a2:Int):collapseH .std Es_l20Op Os_l20Op_0 (execFn Es_l20Op Tryd.f37 mss_l20Op [.val true [.sl .any 5 (.int .u8) r0,.int .i64 r1],.val false [.int .i64 a2]]) = some ((g_As_l20Op r0 r1 a2),.val true [.int .i64 (g_Vs_l20Op_0 r0 r1 a2),.int .i64 (g_Vs_l20Op_1 r0 r1 a2),.int .i64 (g_Vs_l20Op_2 r0 r1 a2),.int .i64 (g_Vs_l20Op_3 r0 r1 a2),.int .i64 (g_Vs_l20Op_4 r0 r1 a2),.int .i64 (g_Vs_l20Op_5 r0 r1 a2),.int .i64 (g_Vs_l20Op_6 r0 r1 a2)],[[.sl .any 5 (.int .u8) (g_Vs_l20Op_7 r0 r1 a2),.int .i64 (g_Vs_l20Op_8 r0 r1 a2)]]) := by kernel_rfl
theorem ss_l20Op:Sound Tryd.prog 37 mss_l20Op Fs_l20Op := by
 refine fn_gen goods_l20Op (by kernel_rfl) .std (fn := Tryd.f37) (c := (Tryd.f37.body.getD .skip)) (o := Os_l20Op_0) (k := 0) (by kernel_rfl) (by kernel_rfl) (by kernel_rfl) (by kernel_rfl) (by decide) ks_l20Op_0 ?_
 intro ys r outs h
 unfold Fs_l20Op at h
 split at h
 ·exact (vs_l20Op _ _ _).trans h
 ·cases h
noncomputable def mss_l20OpR:List PM := mss_l20Op
theorem sames_l20Op (r0:List Int) (r1:Int) (a2:Int):g_Vs_l20Op_7 r0 r1 a2 = r0 := by
 unfold g_Vs_l20Op_7
 simp only [Bool.cond_self]
noncomputable def Fs_l20OpR:FSem := fun ys => match ys with
 | [.val true [.sl .any 5 (.int .u8) r0,.int .i64 r1],.val false [.int .i64 a2]] => some ((g_As_l20Op r0 r1 a2),.val true [.int .i64 (g_Vs_l20Op_0 r0 r1 a2),.int .i64 (g_Vs_l20Op_1 r0 r1 a2),.int .i64 (g_Vs_l20Op_2 r0 r1 a2),.int .i64 (g_Vs_l20Op_3 r0 r1 a2),.int .i64 (g_Vs_l20Op_4 r0 r1 a2),.int .i64 (g_Vs_l20Op_5 r0 r1 a2),.int .i64 (g_Vs_l20Op_6 r0 r1 a2)],[[.sl .any 5 (.int .u8) r0,.int .i64 (g_Vs_l20Op_8 r0 r1 a2)]])
 | _ => none
theorem ss_l20OpR:Sound Tryd.prog 37 mss_l20OpR Fs_l20OpR := by
 refine ⟨ss_l20Op.fn,fun w S ψ ys vs r outs hF hh hg => ss_l20Op.calls w S ψ ys vs r outs (Eq.trans ?_ hF) hh hg⟩
 unfold Fs_l20OpR at hF ⊢
 split at hF
 ·rename_i  r0 r1 a2
  show (some ((g_As_l20Op r0 r1 a2),.val true [.int .i64 (g_Vs_l20Op_0 r0 r1 a2),.int .i64 (g_Vs_l20Op_1 r0 r1 a2),.int .i64 (g_Vs_l20Op_2 r0 r1 a2),.int .i64 (g_Vs_l20Op_3 r0 r1 a2),.int .i64 (g_Vs_l20Op_4 r0 r1 a2),.int .i64 (g_Vs_l20Op_5 r0 r1 a2),.int .i64 (g_Vs_l20Op_6 r0 r1 a2)],[[.sl .any 5 (.int .u8) (g_Vs_l20Op_7 r0 r1 a2),.int .i64 (g_Vs_l20Op_8 r0 r1 a2)]]):Option (Bool×RV×List (List Cell))) = _
  rw [sames_l20Op]
 ·cases hF
noncomputable def Es_l20Open:Env where
 tt := mkTI Tryd.prog
 fn := fun _ => none
 bxf := fun _ => none
 mv := []
 keep := fun _ => []
 keepB := fun _ => []
 keepX := fun _ => []
 keepXB := fun _ => []
theorem goodFs_l20Open:∀ f ms F,Es_l20Open.fn f = some (ms,F) → Sound Tryd.prog f ms F := fun f ms F h => by cases h
theorem goodBs_l20Open:∀ f ms F,Es_l20Open.bxf f = some (ms,F) → SoundB Tryd.prog f ms F := fun f ms F h => by cases h
theorem goods_l20Open:Good Tryd.prog Es_l20Open := ⟨rfl,goodFs_l20Open,goodBs_l20Open⟩
noncomputable def Os_l20Open_0:Orc := fun _ _ => none
noncomputable def mss_l20Open:List PM := [.fz]
noncomputable def lss_l20Open:List (Nat×Code) := loopsAll 0 (Tryd.f35.body.getD .skip)
theorem ks_l20Open_0:OrcOk Es_l20Open Os_l20Open_0 lss_l20Open 0 := orcOk_none
noncomputable def g_As_l20Open (a0:List Int):Bool := Bool.rec (!decide ((↑(List.length a0):Int) > (2000:Int))&&true) true (decide ((0:Int) ≤ (2000:Int) ∧ (2000:Int) ≤ (↑(List.length a0):Int))&&true)
noncomputable def g_Vs_l20Open_0 (a0:List Int):List Int := bif decide ((↑(List.length a0):Int) > (2000:Int)) then List.drop (nat_lit 0) (List.take (nat_lit 2000) a0) else a0
noncomputable def g_Vs_l20Open_1 (a0:List Int):Int := bif decide ((↑(List.length a0):Int) > (2000:Int)) then (0:Int) else (0:Int)
noncomputable def Fs_l20Open:List RV → Option (Bool×List Cell×List (List Cell)) := fun ys => match ys with
 | [.val false [.sl .any 5 (.int .u8) a0]] => some ((g_As_l20Open a0),[.sl .any 5 (.int .u8) (g_Vs_l20Open_0 a0),.int .i64 (g_Vs_l20Open_1 a0)],[])
 | _ => none
theorem vs_l20Open (a0:List Int):collapse Es_l20Open Os_l20Open_0 (execFnB Es_l20Open Tryd.f35 mss_l20Open 2 [.val false [.sl .any 5 (.int .u8) a0]]) = some ((g_As_l20Open a0),.val true [.sl .any 5 (.int .u8) (g_Vs_l20Open_0 a0),.int .i64 (g_Vs_l20Open_1 a0)],[]) := by kernel_rfl
theorem ss_l20Open:SoundB Tryd.prog 35 mss_l20Open Fs_l20Open := by
 refine fn_genB goods_l20Open (by kernel_rfl) (fn := Tryd.f35) (c := (Tryd.f35.body.getD .skip)) (o := Os_l20Open_0) (k := 0) (tr := 2) (by kernel_rfl) (by kernel_rfl) (by kernel_rfl) (by kernel_rfl) (by decide) (by kernel_rfl) (by decide) ks_l20Open_0 ?_
 intro ys r outs h
 unfold Fs_l20Open at h
 split at h
 ·simp only [Option.some.injEq,Prod.mk.injEq] at h
  obtain ⟨h1,h2,h3⟩ := h
  refine ⟨h3.symm,(vs_l20Open _).trans ?_⟩
  rw [h1,h2]
 ·cases h
noncomputable def Es_DrawGloPlay:Env where
 tt := mkTI Tryd.prog
 fn := fun f => match f with
  | 36 => some (mss_l20Rd_pick,FSem.wk mss_l20Rd_pick Fs_l20Rd_pick)
  | 37 => some (mss_l20OpR,FSem.wk mss_l20OpR Fs_l20OpR)
  | _ => none
 bxf := fun f => match f with
  | 35 => some (mss_l20Open,Fs_l20Open)
  | _ => none
 mv := []
 keep := fun b => match b with
  | 0 => [(3,false),(4,false),(5,false)]
  | _ => []
 keepB := fun b => match b with
  | 0 => [(7,false)]
  | _ => []
 keepX := fun b => match b with
  | 0 => [(4,false)]
  | _ => []
 keepXB := fun b => match b with
  | 0 => [(7,false)]
  | _ => []
theorem goodFs_DrawGloPlay:∀ f ms F,Es_DrawGloPlay.fn f = some (ms,F) → Sound Tryd.prog f ms F := fun f ms F h => by
 unfold Es_DrawGloPlay at h
 dsimp only at h
 split at h
 ·injection h with h; injection h with e1 e2; subst e1 e2; exact Sound.wk ss_l20Rd_pick
 ·injection h with h; injection h with e1 e2; subst e1 e2; exact Sound.wk ss_l20OpR
 ·cases h
theorem goodBs_DrawGloPlay:∀ f ms F,Es_DrawGloPlay.bxf f = some (ms,F) → SoundB Tryd.prog f ms F := fun f ms F h => by
 unfold Es_DrawGloPlay at h
 dsimp only at h
 split at h
 ·injection h with h; injection h with e1 e2; subst e1 e2; exact ss_l20Open
 ·cases h
theorem goods_DrawGloPlay:Good Tryd.prog Es_DrawGloPlay := ⟨rfl,goodFs_DrawGloPlay,goodBs_DrawGloPlay⟩
noncomputable def Os_DrawGloPlay_0:Orc := fun _ _ => none
noncomputable def mss_DrawGloPlay:List PM := [.fz]
noncomputable def lss_DrawGloPlay:List (Nat×Code) := loopsAll 0 (Tryd.f16.body.getD .skip)
noncomputable def cs_DrawGloPlay_0:Code := (loopOf 0 (Tryd.f16.body.getD .skip)).getD .skip
theorem lseqs_DrawGloPlay:lss_DrawGloPlay = [(0,cs_DrawGloPlay_0)] := by kernel_rfl
theorem ms_DrawGloPlay_0:∀ p,p ∈ lss_DrawGloPlay → p.1 = 0 → p.2 = cs_DrawGloPlay_0 := by
 intro p hp
 rw [lseqs_DrawGloPlay] at hp
 simp only [List.mem_cons,List.not_mem_nil,or_false] at hp
 subst hp; simp
theorem ks_DrawGloPlay_0:OrcOk Es_DrawGloPlay Os_DrawGloPlay_0 lss_DrawGloPlay 0 := orcOk_none
noncomputable def hs_DrawGloPlay_0 (y0:List (Int×(Int×(Int×(Int×(Int×(Int×Int))))))) (y1:Int) (y2:List Int) (y3:Int):List (Pl×LV) := [(.T 3,.t (.val false [.ptr 7 0 0])),(.T 4,.t (.val false [.row 4 0 0])),(.R 4 0,.r 0 (some ⟨false,.non,true,24,(.pair (.int .i64) (.pair (.int .i64) (.pair (.int .i64) (.pair (.int .i64) (.pair (.int .i64) (.pair (.int .i64) (.int .i64))))))),y0⟩)),(.T 5,.t (.val false [.int .i64 y1])),(.B 7,.b 0 false [.sl .any 5 (.int .u8) y2,.int .i64 y3])]
noncomputable def g_Ss_DrawGloPlay_0 (y2:List Int):((List (Int×(Int×(Int×(Int×(Int×(Int×Int)))))))×Int×Int) → RT ((List (Int×(Int×(Int×(Int×(Int×(Int×Int)))))))×Int×Int) (((List (Int×(Int×(Int×(Int×(Int×(Int×Int)))))))×Int))
 | (y0,y1,y3) => .br (true) (.br (decide (y1 > (0:Int))) (.br (g_As_l20Op y2 y3 (0:Int)) (.br (decide ((List.length y0 + List.length [(g_Vs_l20Op_0 y2 y3 (0:Int),g_Vs_l20Op_1 y2 y3 (0:Int),g_Vs_l20Op_2 y2 y3 (0:Int),g_Vs_l20Op_3 y2 y3 (0:Int),g_Vs_l20Op_4 y2 y3 (0:Int),g_Vs_l20Op_5 y2 y3 (0:Int),g_Vs_l20Op_6 y2 y3 (0:Int))]) * nat_lit 56 ≤ nat_lit 140737488355328 ∧ List.length y0 + List.length [(g_Vs_l20Op_0 y2 y3 (0:Int),g_Vs_l20Op_1 y2 y3 (0:Int),g_Vs_l20Op_2 y2 y3 (0:Int),g_Vs_l20Op_3 y2 y3 (0:Int),g_Vs_l20Op_4 y2 y3 (0:Int),g_Vs_l20Op_5 y2 y3 (0:Int),g_Vs_l20Op_6 y2 y3 (0:Int))] ≤ nat_lit 9223372036854775807)) (.br (true) (.go ((y0 ++ [(g_Vs_l20Op_0 y2 y3 (0:Int),g_Vs_l20Op_1 y2 y3 (0:Int),g_Vs_l20Op_2 y2 y3 (0:Int),g_Vs_l20Op_3 y2 y3 (0:Int),g_Vs_l20Op_4 y2 y3 (0:Int),g_Vs_l20Op_5 y2 y3 (0:Int),g_Vs_l20Op_6 y2 y3 (0:Int))],IntKind.wrap IntKind.i64 (y1 - (1:Int)),g_Vs_l20Op_8 y2 y3 (0:Int)))) .bad) .bad) .bad) (.out ((y0,y3)))) .bad
noncomputable def g_Ls_DrawGloPlay_0 (y2:List Int) (x:(List (Int×(Int×(Int×(Int×(Int×(Int×Int)))))))×Int×Int):Option (((List (Int×(Int×(Int×(Int×(Int×(Int×Int)))))))×Int)) := loopO (g_Ss_DrawGloPlay_0 y2) x
noncomputable def xs_DrawGloPlay_0 (y2:List Int):(((List (Int×(Int×(Int×(Int×(Int×(Int×Int)))))))×Int)) → Ex×List (Pl×LV) := fun r => (.exit 0,[(.T 4,.t (.val false [.row 4 0 0])),(.R 4 0,.r 0 (some ⟨false,.non,true,24,(.pair (.int .i64) (.pair (.int .i64) (.pair (.int .i64) (.pair (.int .i64) (.pair (.int .i64) (.pair (.int .i64) (.int .i64))))))),r.1⟩)),(.B 7,.b 0 false [.sl .any 5 (.int .u8) y2,.int .i64 r.2])])
noncomputable def Os_DrawGloPlay_1:Orc := fun b h => match b,h with
 | 0,[(.T 3,.t (.val false [.ptr 7 0 0])),(.T 4,.t (.val false [.row 4 0 0])),(.R 4 0,.r 0 (some ⟨false,.non,true,24,(.pair (.int .i64) (.pair (.int .i64) (.pair (.int .i64) (.pair (.int .i64) (.pair (.int .i64) (.pair (.int .i64) (.int .i64))))))),y0⟩)),(.T 5,.t (.val false [.int .i64 y1])),(.B 7,.b 0 false [.sl .any 5 (.int .u8) y2,.int .i64 y3])] => some (okO (g_Ls_DrawGloPlay_0 y2 (y0,y1,y3)),(.leaf (.exit 0) [(.T 4,.t (.val false [.row 4 0 0])),(.R 4 0,.r 0 (some ⟨false,.non,true,24,(.pair (.int .i64) (.pair (.int .i64) (.pair (.int .i64) (.pair (.int .i64) (.pair (.int .i64) (.pair (.int .i64) (.int .i64))))))),(valO (g_Ls_DrawGloPlay_0 y2 (y0,y1,y3))).1⟩)),(.B 7,.b 0 false [.sl .any 5 (.int .u8) y2,.int .i64 (valO (g_Ls_DrawGloPlay_0 y2 (y0,y1,y3))).2])]))
 | b,h => Os_DrawGloPlay_0 b h
theorem bs_DrawGloPlay_0 (y0:List (Int×(Int×(Int×(Int×(Int×(Int×Int))))))) (y1:Int) (y2:List Int) (y3:Int):Tr.bt Es_DrawGloPlay Os_DrawGloPlay_0 (exec Es_DrawGloPlay 0 cs_DrawGloPlay_0 (St.of (hs_DrawGloPlay_0 y0 y1 y2 y3)) (leafRd Es_DrawGloPlay 0)) = (g_Ss_DrawGloPlay_0 y2 (y0,y1,y3)).bt (fun ((y0,y1,y3):(List (Int×(Int×(Int×(Int×(Int×(Int×Int)))))))×Int×Int) => (hs_DrawGloPlay_0 y0 y1 y2 y3)) (xs_DrawGloPlay_0 y2) := by kernel_rfl
theorem ks_DrawGloPlay_1:OrcOk Es_DrawGloPlay Os_DrawGloPlay_1 lss_DrawGloPlay 1 := orc_add ks_DrawGloPlay_0 (fun n p hp h ex h' ho => by
 obtain ⟨b,c⟩ := p
 obtain ⟨xt,h1,h2⟩ := ho
 have h1:Os_DrawGloPlay_1 b h = some (true,xt) := h1
 unfold Os_DrawGloPlay_1 at h1
 split at h1
 ·injection h1 with h1
  injection h1 with e1 e2
  subst e2
  have hc:c = cs_DrawGloPlay_0 := ms_DrawGloPlay_0 _ hp rfl
  subst hc
  right
  rename_i y0 y1 y2 y3
  have key := LT_step ks_DrawGloPlay_0 hp (fun q hq => loopsAll_in _ _ _ _ hp hq) (fun ((y0,y1,y3):(List (Int×(Int×(Int×(Int×(Int×(Int×Int)))))))×Int×Int) => (hs_DrawGloPlay_0 y0 y1 y2 y3)) (xs_DrawGloPlay_0 y2) (g_Ss_DrawGloPlay_0 y2) (fun x => by first | exact bs_DrawGloPlay_0 x.1 x.2.1 y2 x.2.2) n (x := (y0,y1,y3)) (okO_some e1)
  have hx:∀ r,XT.sel (.leaf (.exit 0) [(.T 4,.t (.val false [.row 4 0 0])),(.R 4 0,.r 0 (some ⟨false,.non,true,24,(.pair (.int .i64) (.pair (.int .i64) (.pair (.int .i64) (.pair (.int .i64) (.pair (.int .i64) (.pair (.int .i64) (.int .i64))))))),r.1⟩)),(.B 7,.b 0 false [.sl .any 5 (.int .u8) y2,.int .i64 r.2])]) = xs_DrawGloPlay_0 y2 r := fun r => by first | rfl | (rcases r with r | r <;> rfl) | (rcases r with r | r | r <;> rfl) | (rcases r with r | r | r | r <;> rfl)
  have h3 := (hx (valO (g_Ls_DrawGloPlay_0 y2 (y0,y1,y3)))).symm.trans h2
  have e3 := congrArg Prod.fst h3
  have e4 := congrArg Prod.snd h3
  simp only at e3 e4
  rw [← e3,← e4]
  exact key
 ·exact .inl ⟨xt,h1,h2⟩)
noncomputable def g_As_DrawGloPlay (a0:List Int):Bool := g_As_l20Open a0&&(g_pickA (g_Vs_l20Open_0 a0) (g_Vs_l20Open_1 a0) (26:Int)&&okO (g_Ls_DrawGloPlay_0 (g_Vs_l20Open_0 a0) ([],g_pick (g_Vs_l20Open_0 a0) (g_Vs_l20Open_1 a0) (26:Int),IntKind.wrap IntKind.i64 (g_Vs_l20Open_1 a0 + (1:Int)))))
noncomputable def g_Vs_DrawGloPlay_0 (a0:List Int):List (Int×(Int×(Int×(Int×(Int×(Int×Int)))))) := (valO (g_Ls_DrawGloPlay_0 (g_Vs_l20Open_0 a0) ([],g_pick (g_Vs_l20Open_0 a0) (g_Vs_l20Open_1 a0) (26:Int),IntKind.wrap IntKind.i64 (g_Vs_l20Open_1 a0 + (1:Int))))).1
noncomputable def Fs_DrawGloPlay:FSem := fun ys => match ys with
 | [.val false [.sl .any 5 (.int .u8) a0]] => some ((g_As_DrawGloPlay a0),.val false [.own .any true 24 (.pair (.int .i64) (.pair (.int .i64) (.pair (.int .i64) (.pair (.int .i64) (.pair (.int .i64) (.pair (.int .i64) (.int .i64))))))) (g_Vs_DrawGloPlay_0 a0)],[])
 | _ => none
theorem vs_DrawGloPlay (a0:List Int):collapseH .std Es_DrawGloPlay Os_DrawGloPlay_1 (execFn Es_DrawGloPlay Tryd.f16 mss_DrawGloPlay [.val false [.sl .any 5 (.int .u8) a0]]) = some ((g_As_DrawGloPlay a0),.val false [.own .any true 24 (.pair (.int .i64) (.pair (.int .i64) (.pair (.int .i64) (.pair (.int .i64) (.pair (.int .i64) (.pair (.int .i64) (.int .i64))))))) (g_Vs_DrawGloPlay_0 a0)],[]) := by kernel_rfl
theorem ss_DrawGloPlay:Sound Tryd.prog 16 mss_DrawGloPlay Fs_DrawGloPlay := by
 refine fn_gen goods_DrawGloPlay (by kernel_rfl) .std (fn := Tryd.f16) (c := (Tryd.f16.body.getD .skip)) (o := Os_DrawGloPlay_1) (k := 1) (by kernel_rfl) (by kernel_rfl) (by kernel_rfl) (by kernel_rfl) (by decide) ks_DrawGloPlay_1 ?_
 intro ys r outs h
 unfold Fs_DrawGloPlay at h
 split at h
 ·exact (vs_DrawGloPlay _).trans h
 ·cases h
noncomputable def Ew_jaGlo:Env where
 tt := mkTI Tryd.prog
 fn := fun f => match f with
  | 14 => some (msi_GloDo,FSem.wk msi_GloDo Fi_GloDo)
  | 17 => some (msi_GloNew,FSem.wk msi_GloNew Fi_GloNew)
  | _ => none
 bxf := fun _ => none
 mv := []
 keep := fun b => match b with
  | 0 => [(0,false),(4,false),(5,false),(6,false)]
  | _ => []
 keepB := fun b => match b with
  | 0 => []
  | _ => []
 keepX := fun b => match b with
  | 0 => [(4,false),(5,false)]
  | _ => []
 keepXB := fun b => match b with
  | 0 => []
  | _ => []
theorem goodFw_jaGlo:∀ f ms F,Ew_jaGlo.fn f = some (ms,F) → Sound Tryd.prog f ms F := fun f ms F h => by
 unfold Ew_jaGlo at h
 dsimp only at h
 split at h
 ·injection h with h; injection h with e1 e2; subst e1 e2; exact Sound.wk si_GloDo
 ·injection h with h; injection h with e1 e2; subst e1 e2; exact Sound.wk si_GloNew
 ·cases h
theorem goodBw_jaGlo:∀ f ms F,Ew_jaGlo.bxf f = some (ms,F) → SoundB Tryd.prog f ms F := fun f ms F h => by cases h
theorem goodw_jaGlo:Good Tryd.prog Ew_jaGlo := ⟨rfl,goodFw_jaGlo,goodBw_jaGlo⟩
noncomputable def Ow_jaGlo_0:Orc := fun _ _ => none
noncomputable def msw_jaGlo:List PM := [.rd]
noncomputable def lsw_jaGlo:List (Nat×Code) := loopsAll 0 (Tryd.f13.body.getD .skip)
noncomputable def cw_jaGlo_0:Code := (loopOf 0 (Tryd.f13.body.getD .skip)).getD .skip
theorem lseqw_jaGlo:lsw_jaGlo = [(0,cw_jaGlo_0)] := by kernel_rfl
theorem mw_jaGlo_0:∀ p,p ∈ lsw_jaGlo → p.1 = 0 → p.2 = cw_jaGlo_0 := by
 intro p hp
 rw [lseqw_jaGlo] at hp
 simp only [List.mem_cons,List.not_mem_nil,or_false] at hp
 subst hp; simp
theorem kw_jaGlo_0:OrcOk Ew_jaGlo Ow_jaGlo_0 lsw_jaGlo 0 := orcOk_none
noncomputable def hw_jaGlo_0 (y0:List (Int×(Int×(Int×(Int×(Int×(Int×Int))))))) (y1:List (List (ByteArray×(List Int)))) (y2:List Bool) (y3:Int):List (Pl×LV) := [(.T 0,.t (.val false [.sl .any 24 (.pair (.int .i64) (.pair (.int .i64) (.pair (.int .i64) (.pair (.int .i64) (.pair (.int .i64) (.pair (.int .i64) (.int .i64))))))) y0])),(.T 4,.t (.val false [.row 4 0 0])),(.R 4 0,.r 0 (some ⟨false,.any,true,32,(.sl 42 (.pair .str (.sl 3 (.int .i64)))),y1⟩)),(.T 5,.t (.val false [.row 5 0 0])),(.R 5 0,.r 0 (some ⟨false,.non,true,4,.bool,y2⟩)),(.T 6,.t (.val false [.int .i64 y3]))]
noncomputable def g_Sw_jaGlo_0 (y0:List (Int×(Int×(Int×(Int×(Int×(Int×Int))))))):((List (List (ByteArray×(List Int))))×(List Bool)×Int) → RT ((List (List (ByteArray×(List Int))))×(List Bool)×Int) (((List (List (ByteArray×(List Int))))×(List Bool)))
 | (y1,y2,y3) => .br (true) (.br (decide (y3 < (↑(List.length y0):Int))) (.br (decide ((0:Int) ≤ y3 ∧ y3 < (↑(List.length y0):Int))) (.br (g_Ai_GloDo y1 y3 (at_ (Ty.pair (Ty.int IntKind.i64) (Ty.pair (Ty.int IntKind.i64) (Ty.pair (Ty.int IntKind.i64) (Ty.pair (Ty.int IntKind.i64) (Ty.pair (Ty.int IntKind.i64) (Ty.pair (Ty.int IntKind.i64) (Ty.int IntKind.i64))))))) y0 (Int.toNat y3)).1 (at_ (Ty.pair (Ty.int IntKind.i64) (Ty.pair (Ty.int IntKind.i64) (Ty.pair (Ty.int IntKind.i64) (Ty.pair (Ty.int IntKind.i64) (Ty.pair (Ty.int IntKind.i64) (Ty.pair (Ty.int IntKind.i64) (Ty.int IntKind.i64))))))) y0 (Int.toNat y3)).2.1 (at_ (Ty.pair (Ty.int IntKind.i64) (Ty.pair (Ty.int IntKind.i64) (Ty.pair (Ty.int IntKind.i64) (Ty.pair (Ty.int IntKind.i64) (Ty.pair (Ty.int IntKind.i64) (Ty.pair (Ty.int IntKind.i64) (Ty.int IntKind.i64))))))) y0 (Int.toNat y3)).2.2.1 (at_ (Ty.pair (Ty.int IntKind.i64) (Ty.pair (Ty.int IntKind.i64) (Ty.pair (Ty.int IntKind.i64) (Ty.pair (Ty.int IntKind.i64) (Ty.pair (Ty.int IntKind.i64) (Ty.pair (Ty.int IntKind.i64) (Ty.int IntKind.i64))))))) y0 (Int.toNat y3)).2.2.2.1 (at_ (Ty.pair (Ty.int IntKind.i64) (Ty.pair (Ty.int IntKind.i64) (Ty.pair (Ty.int IntKind.i64) (Ty.pair (Ty.int IntKind.i64) (Ty.pair (Ty.int IntKind.i64) (Ty.pair (Ty.int IntKind.i64) (Ty.int IntKind.i64))))))) y0 (Int.toNat y3)).2.2.2.2.1 (at_ (Ty.pair (Ty.int IntKind.i64) (Ty.pair (Ty.int IntKind.i64) (Ty.pair (Ty.int IntKind.i64) (Ty.pair (Ty.int IntKind.i64) (Ty.pair (Ty.int IntKind.i64) (Ty.pair (Ty.int IntKind.i64) (Ty.int IntKind.i64))))))) y0 (Int.toNat y3)).2.2.2.2.2.1 (at_ (Ty.pair (Ty.int IntKind.i64) (Ty.pair (Ty.int IntKind.i64) (Ty.pair (Ty.int IntKind.i64) (Ty.pair (Ty.int IntKind.i64) (Ty.pair (Ty.int IntKind.i64) (Ty.pair (Ty.int IntKind.i64) (Ty.int IntKind.i64))))))) y0 (Int.toNat y3)).2.2.2.2.2.2) (.br (g_Vi_GloDo_1 y1 y3 (at_ (Ty.pair (Ty.int IntKind.i64) (Ty.pair (Ty.int IntKind.i64) (Ty.pair (Ty.int IntKind.i64) (Ty.pair (Ty.int IntKind.i64) (Ty.pair (Ty.int IntKind.i64) (Ty.pair (Ty.int IntKind.i64) (Ty.int IntKind.i64))))))) y0 (Int.toNat y3)).1 (at_ (Ty.pair (Ty.int IntKind.i64) (Ty.pair (Ty.int IntKind.i64) (Ty.pair (Ty.int IntKind.i64) (Ty.pair (Ty.int IntKind.i64) (Ty.pair (Ty.int IntKind.i64) (Ty.pair (Ty.int IntKind.i64) (Ty.int IntKind.i64))))))) y0 (Int.toNat y3)).2.1 (at_ (Ty.pair (Ty.int IntKind.i64) (Ty.pair (Ty.int IntKind.i64) (Ty.pair (Ty.int IntKind.i64) (Ty.pair (Ty.int IntKind.i64) (Ty.pair (Ty.int IntKind.i64) (Ty.pair (Ty.int IntKind.i64) (Ty.int IntKind.i64))))))) y0 (Int.toNat y3)).2.2.1 (at_ (Ty.pair (Ty.int IntKind.i64) (Ty.pair (Ty.int IntKind.i64) (Ty.pair (Ty.int IntKind.i64) (Ty.pair (Ty.int IntKind.i64) (Ty.pair (Ty.int IntKind.i64) (Ty.pair (Ty.int IntKind.i64) (Ty.int IntKind.i64))))))) y0 (Int.toNat y3)).2.2.2.1 (at_ (Ty.pair (Ty.int IntKind.i64) (Ty.pair (Ty.int IntKind.i64) (Ty.pair (Ty.int IntKind.i64) (Ty.pair (Ty.int IntKind.i64) (Ty.pair (Ty.int IntKind.i64) (Ty.pair (Ty.int IntKind.i64) (Ty.int IntKind.i64))))))) y0 (Int.toNat y3)).2.2.2.2.1 (at_ (Ty.pair (Ty.int IntKind.i64) (Ty.pair (Ty.int IntKind.i64) (Ty.pair (Ty.int IntKind.i64) (Ty.pair (Ty.int IntKind.i64) (Ty.pair (Ty.int IntKind.i64) (Ty.pair (Ty.int IntKind.i64) (Ty.int IntKind.i64))))))) y0 (Int.toNat y3)).2.2.2.2.2.1 (at_ (Ty.pair (Ty.int IntKind.i64) (Ty.pair (Ty.int IntKind.i64) (Ty.pair (Ty.int IntKind.i64) (Ty.pair (Ty.int IntKind.i64) (Ty.pair (Ty.int IntKind.i64) (Ty.pair (Ty.int IntKind.i64) (Ty.int IntKind.i64))))))) y0 (Int.toNat y3)).2.2.2.2.2.2) (.br (decide ((List.length y2 + List.length [g_Vi_GloDo_1 y1 y3 (at_ (Ty.pair (Ty.int IntKind.i64) (Ty.pair (Ty.int IntKind.i64) (Ty.pair (Ty.int IntKind.i64) (Ty.pair (Ty.int IntKind.i64) (Ty.pair (Ty.int IntKind.i64) (Ty.pair (Ty.int IntKind.i64) (Ty.int IntKind.i64))))))) y0 (Int.toNat y3)).1 (at_ (Ty.pair (Ty.int IntKind.i64) (Ty.pair (Ty.int IntKind.i64) (Ty.pair (Ty.int IntKind.i64) (Ty.pair (Ty.int IntKind.i64) (Ty.pair (Ty.int IntKind.i64) (Ty.pair (Ty.int IntKind.i64) (Ty.int IntKind.i64))))))) y0 (Int.toNat y3)).2.1 (at_ (Ty.pair (Ty.int IntKind.i64) (Ty.pair (Ty.int IntKind.i64) (Ty.pair (Ty.int IntKind.i64) (Ty.pair (Ty.int IntKind.i64) (Ty.pair (Ty.int IntKind.i64) (Ty.pair (Ty.int IntKind.i64) (Ty.int IntKind.i64))))))) y0 (Int.toNat y3)).2.2.1 (at_ (Ty.pair (Ty.int IntKind.i64) (Ty.pair (Ty.int IntKind.i64) (Ty.pair (Ty.int IntKind.i64) (Ty.pair (Ty.int IntKind.i64) (Ty.pair (Ty.int IntKind.i64) (Ty.pair (Ty.int IntKind.i64) (Ty.int IntKind.i64))))))) y0 (Int.toNat y3)).2.2.2.1 (at_ (Ty.pair (Ty.int IntKind.i64) (Ty.pair (Ty.int IntKind.i64) (Ty.pair (Ty.int IntKind.i64) (Ty.pair (Ty.int IntKind.i64) (Ty.pair (Ty.int IntKind.i64) (Ty.pair (Ty.int IntKind.i64) (Ty.int IntKind.i64))))))) y0 (Int.toNat y3)).2.2.2.2.1 (at_ (Ty.pair (Ty.int IntKind.i64) (Ty.pair (Ty.int IntKind.i64) (Ty.pair (Ty.int IntKind.i64) (Ty.pair (Ty.int IntKind.i64) (Ty.pair (Ty.int IntKind.i64) (Ty.pair (Ty.int IntKind.i64) (Ty.int IntKind.i64))))))) y0 (Int.toNat y3)).2.2.2.2.2.1 (at_ (Ty.pair (Ty.int IntKind.i64) (Ty.pair (Ty.int IntKind.i64) (Ty.pair (Ty.int IntKind.i64) (Ty.pair (Ty.int IntKind.i64) (Ty.pair (Ty.int IntKind.i64) (Ty.pair (Ty.int IntKind.i64) (Ty.int IntKind.i64))))))) y0 (Int.toNat y3)).2.2.2.2.2.2]) * nat_lit 1 ≤ nat_lit 140737488355328 ∧ List.length y2 + List.length [g_Vi_GloDo_1 y1 y3 (at_ (Ty.pair (Ty.int IntKind.i64) (Ty.pair (Ty.int IntKind.i64) (Ty.pair (Ty.int IntKind.i64) (Ty.pair (Ty.int IntKind.i64) (Ty.pair (Ty.int IntKind.i64) (Ty.pair (Ty.int IntKind.i64) (Ty.int IntKind.i64))))))) y0 (Int.toNat y3)).1 (at_ (Ty.pair (Ty.int IntKind.i64) (Ty.pair (Ty.int IntKind.i64) (Ty.pair (Ty.int IntKind.i64) (Ty.pair (Ty.int IntKind.i64) (Ty.pair (Ty.int IntKind.i64) (Ty.pair (Ty.int IntKind.i64) (Ty.int IntKind.i64))))))) y0 (Int.toNat y3)).2.1 (at_ (Ty.pair (Ty.int IntKind.i64) (Ty.pair (Ty.int IntKind.i64) (Ty.pair (Ty.int IntKind.i64) (Ty.pair (Ty.int IntKind.i64) (Ty.pair (Ty.int IntKind.i64) (Ty.pair (Ty.int IntKind.i64) (Ty.int IntKind.i64))))))) y0 (Int.toNat y3)).2.2.1 (at_ (Ty.pair (Ty.int IntKind.i64) (Ty.pair (Ty.int IntKind.i64) (Ty.pair (Ty.int IntKind.i64) (Ty.pair (Ty.int IntKind.i64) (Ty.pair (Ty.int IntKind.i64) (Ty.pair (Ty.int IntKind.i64) (Ty.int IntKind.i64))))))) y0 (Int.toNat y3)).2.2.2.1 (at_ (Ty.pair (Ty.int IntKind.i64) (Ty.pair (Ty.int IntKind.i64) (Ty.pair (Ty.int IntKind.i64) (Ty.pair (Ty.int IntKind.i64) (Ty.pair (Ty.int IntKind.i64) (Ty.pair (Ty.int IntKind.i64) (Ty.int IntKind.i64))))))) y0 (Int.toNat y3)).2.2.2.2.1 (at_ (Ty.pair (Ty.int IntKind.i64) (Ty.pair (Ty.int IntKind.i64) (Ty.pair (Ty.int IntKind.i64) (Ty.pair (Ty.int IntKind.i64) (Ty.pair (Ty.int IntKind.i64) (Ty.pair (Ty.int IntKind.i64) (Ty.int IntKind.i64))))))) y0 (Int.toNat y3)).2.2.2.2.2.1 (at_ (Ty.pair (Ty.int IntKind.i64) (Ty.pair (Ty.int IntKind.i64) (Ty.pair (Ty.int IntKind.i64) (Ty.pair (Ty.int IntKind.i64) (Ty.pair (Ty.int IntKind.i64) (Ty.pair (Ty.int IntKind.i64) (Ty.int IntKind.i64))))))) y0 (Int.toNat y3)).2.2.2.2.2.2] ≤ nat_lit 9223372036854775807)) (.br (true) (.go ((g_Vi_GloDo_0 y1 y3 (at_ (Ty.pair (Ty.int IntKind.i64) (Ty.pair (Ty.int IntKind.i64) (Ty.pair (Ty.int IntKind.i64) (Ty.pair (Ty.int IntKind.i64) (Ty.pair (Ty.int IntKind.i64) (Ty.pair (Ty.int IntKind.i64) (Ty.int IntKind.i64))))))) y0 (Int.toNat y3)).1 (at_ (Ty.pair (Ty.int IntKind.i64) (Ty.pair (Ty.int IntKind.i64) (Ty.pair (Ty.int IntKind.i64) (Ty.pair (Ty.int IntKind.i64) (Ty.pair (Ty.int IntKind.i64) (Ty.pair (Ty.int IntKind.i64) (Ty.int IntKind.i64))))))) y0 (Int.toNat y3)).2.1 (at_ (Ty.pair (Ty.int IntKind.i64) (Ty.pair (Ty.int IntKind.i64) (Ty.pair (Ty.int IntKind.i64) (Ty.pair (Ty.int IntKind.i64) (Ty.pair (Ty.int IntKind.i64) (Ty.pair (Ty.int IntKind.i64) (Ty.int IntKind.i64))))))) y0 (Int.toNat y3)).2.2.1 (at_ (Ty.pair (Ty.int IntKind.i64) (Ty.pair (Ty.int IntKind.i64) (Ty.pair (Ty.int IntKind.i64) (Ty.pair (Ty.int IntKind.i64) (Ty.pair (Ty.int IntKind.i64) (Ty.pair (Ty.int IntKind.i64) (Ty.int IntKind.i64))))))) y0 (Int.toNat y3)).2.2.2.1 (at_ (Ty.pair (Ty.int IntKind.i64) (Ty.pair (Ty.int IntKind.i64) (Ty.pair (Ty.int IntKind.i64) (Ty.pair (Ty.int IntKind.i64) (Ty.pair (Ty.int IntKind.i64) (Ty.pair (Ty.int IntKind.i64) (Ty.int IntKind.i64))))))) y0 (Int.toNat y3)).2.2.2.2.1 (at_ (Ty.pair (Ty.int IntKind.i64) (Ty.pair (Ty.int IntKind.i64) (Ty.pair (Ty.int IntKind.i64) (Ty.pair (Ty.int IntKind.i64) (Ty.pair (Ty.int IntKind.i64) (Ty.pair (Ty.int IntKind.i64) (Ty.int IntKind.i64))))))) y0 (Int.toNat y3)).2.2.2.2.2.1 (at_ (Ty.pair (Ty.int IntKind.i64) (Ty.pair (Ty.int IntKind.i64) (Ty.pair (Ty.int IntKind.i64) (Ty.pair (Ty.int IntKind.i64) (Ty.pair (Ty.int IntKind.i64) (Ty.pair (Ty.int IntKind.i64) (Ty.int IntKind.i64))))))) y0 (Int.toNat y3)).2.2.2.2.2.2,y2 ++ [g_Vi_GloDo_1 y1 y3 (at_ (Ty.pair (Ty.int IntKind.i64) (Ty.pair (Ty.int IntKind.i64) (Ty.pair (Ty.int IntKind.i64) (Ty.pair (Ty.int IntKind.i64) (Ty.pair (Ty.int IntKind.i64) (Ty.pair (Ty.int IntKind.i64) (Ty.int IntKind.i64))))))) y0 (Int.toNat y3)).1 (at_ (Ty.pair (Ty.int IntKind.i64) (Ty.pair (Ty.int IntKind.i64) (Ty.pair (Ty.int IntKind.i64) (Ty.pair (Ty.int IntKind.i64) (Ty.pair (Ty.int IntKind.i64) (Ty.pair (Ty.int IntKind.i64) (Ty.int IntKind.i64))))))) y0 (Int.toNat y3)).2.1 (at_ (Ty.pair (Ty.int IntKind.i64) (Ty.pair (Ty.int IntKind.i64) (Ty.pair (Ty.int IntKind.i64) (Ty.pair (Ty.int IntKind.i64) (Ty.pair (Ty.int IntKind.i64) (Ty.pair (Ty.int IntKind.i64) (Ty.int IntKind.i64))))))) y0 (Int.toNat y3)).2.2.1 (at_ (Ty.pair (Ty.int IntKind.i64) (Ty.pair (Ty.int IntKind.i64) (Ty.pair (Ty.int IntKind.i64) (Ty.pair (Ty.int IntKind.i64) (Ty.pair (Ty.int IntKind.i64) (Ty.pair (Ty.int IntKind.i64) (Ty.int IntKind.i64))))))) y0 (Int.toNat y3)).2.2.2.1 (at_ (Ty.pair (Ty.int IntKind.i64) (Ty.pair (Ty.int IntKind.i64) (Ty.pair (Ty.int IntKind.i64) (Ty.pair (Ty.int IntKind.i64) (Ty.pair (Ty.int IntKind.i64) (Ty.pair (Ty.int IntKind.i64) (Ty.int IntKind.i64))))))) y0 (Int.toNat y3)).2.2.2.2.1 (at_ (Ty.pair (Ty.int IntKind.i64) (Ty.pair (Ty.int IntKind.i64) (Ty.pair (Ty.int IntKind.i64) (Ty.pair (Ty.int IntKind.i64) (Ty.pair (Ty.int IntKind.i64) (Ty.pair (Ty.int IntKind.i64) (Ty.int IntKind.i64))))))) y0 (Int.toNat y3)).2.2.2.2.2.1 (at_ (Ty.pair (Ty.int IntKind.i64) (Ty.pair (Ty.int IntKind.i64) (Ty.pair (Ty.int IntKind.i64) (Ty.pair (Ty.int IntKind.i64) (Ty.pair (Ty.int IntKind.i64) (Ty.pair (Ty.int IntKind.i64) (Ty.int IntKind.i64))))))) y0 (Int.toNat y3)).2.2.2.2.2.2],IntKind.wrap IntKind.i64 (y3 + (1:Int))))) .bad) .bad) (.br (decide ((List.length y2 + List.length [g_Vi_GloDo_1 y1 y3 (at_ (Ty.pair (Ty.int IntKind.i64) (Ty.pair (Ty.int IntKind.i64) (Ty.pair (Ty.int IntKind.i64) (Ty.pair (Ty.int IntKind.i64) (Ty.pair (Ty.int IntKind.i64) (Ty.pair (Ty.int IntKind.i64) (Ty.int IntKind.i64))))))) y0 (Int.toNat y3)).1 (at_ (Ty.pair (Ty.int IntKind.i64) (Ty.pair (Ty.int IntKind.i64) (Ty.pair (Ty.int IntKind.i64) (Ty.pair (Ty.int IntKind.i64) (Ty.pair (Ty.int IntKind.i64) (Ty.pair (Ty.int IntKind.i64) (Ty.int IntKind.i64))))))) y0 (Int.toNat y3)).2.1 (at_ (Ty.pair (Ty.int IntKind.i64) (Ty.pair (Ty.int IntKind.i64) (Ty.pair (Ty.int IntKind.i64) (Ty.pair (Ty.int IntKind.i64) (Ty.pair (Ty.int IntKind.i64) (Ty.pair (Ty.int IntKind.i64) (Ty.int IntKind.i64))))))) y0 (Int.toNat y3)).2.2.1 (at_ (Ty.pair (Ty.int IntKind.i64) (Ty.pair (Ty.int IntKind.i64) (Ty.pair (Ty.int IntKind.i64) (Ty.pair (Ty.int IntKind.i64) (Ty.pair (Ty.int IntKind.i64) (Ty.pair (Ty.int IntKind.i64) (Ty.int IntKind.i64))))))) y0 (Int.toNat y3)).2.2.2.1 (at_ (Ty.pair (Ty.int IntKind.i64) (Ty.pair (Ty.int IntKind.i64) (Ty.pair (Ty.int IntKind.i64) (Ty.pair (Ty.int IntKind.i64) (Ty.pair (Ty.int IntKind.i64) (Ty.pair (Ty.int IntKind.i64) (Ty.int IntKind.i64))))))) y0 (Int.toNat y3)).2.2.2.2.1 (at_ (Ty.pair (Ty.int IntKind.i64) (Ty.pair (Ty.int IntKind.i64) (Ty.pair (Ty.int IntKind.i64) (Ty.pair (Ty.int IntKind.i64) (Ty.pair (Ty.int IntKind.i64) (Ty.pair (Ty.int IntKind.i64) (Ty.int IntKind.i64))))))) y0 (Int.toNat y3)).2.2.2.2.2.1 (at_ (Ty.pair (Ty.int IntKind.i64) (Ty.pair (Ty.int IntKind.i64) (Ty.pair (Ty.int IntKind.i64) (Ty.pair (Ty.int IntKind.i64) (Ty.pair (Ty.int IntKind.i64) (Ty.pair (Ty.int IntKind.i64) (Ty.int IntKind.i64))))))) y0 (Int.toNat y3)).2.2.2.2.2.2]) * nat_lit 1 ≤ nat_lit 140737488355328 ∧ List.length y2 + List.length [g_Vi_GloDo_1 y1 y3 (at_ (Ty.pair (Ty.int IntKind.i64) (Ty.pair (Ty.int IntKind.i64) (Ty.pair (Ty.int IntKind.i64) (Ty.pair (Ty.int IntKind.i64) (Ty.pair (Ty.int IntKind.i64) (Ty.pair (Ty.int IntKind.i64) (Ty.int IntKind.i64))))))) y0 (Int.toNat y3)).1 (at_ (Ty.pair (Ty.int IntKind.i64) (Ty.pair (Ty.int IntKind.i64) (Ty.pair (Ty.int IntKind.i64) (Ty.pair (Ty.int IntKind.i64) (Ty.pair (Ty.int IntKind.i64) (Ty.pair (Ty.int IntKind.i64) (Ty.int IntKind.i64))))))) y0 (Int.toNat y3)).2.1 (at_ (Ty.pair (Ty.int IntKind.i64) (Ty.pair (Ty.int IntKind.i64) (Ty.pair (Ty.int IntKind.i64) (Ty.pair (Ty.int IntKind.i64) (Ty.pair (Ty.int IntKind.i64) (Ty.pair (Ty.int IntKind.i64) (Ty.int IntKind.i64))))))) y0 (Int.toNat y3)).2.2.1 (at_ (Ty.pair (Ty.int IntKind.i64) (Ty.pair (Ty.int IntKind.i64) (Ty.pair (Ty.int IntKind.i64) (Ty.pair (Ty.int IntKind.i64) (Ty.pair (Ty.int IntKind.i64) (Ty.pair (Ty.int IntKind.i64) (Ty.int IntKind.i64))))))) y0 (Int.toNat y3)).2.2.2.1 (at_ (Ty.pair (Ty.int IntKind.i64) (Ty.pair (Ty.int IntKind.i64) (Ty.pair (Ty.int IntKind.i64) (Ty.pair (Ty.int IntKind.i64) (Ty.pair (Ty.int IntKind.i64) (Ty.pair (Ty.int IntKind.i64) (Ty.int IntKind.i64))))))) y0 (Int.toNat y3)).2.2.2.2.1 (at_ (Ty.pair (Ty.int IntKind.i64) (Ty.pair (Ty.int IntKind.i64) (Ty.pair (Ty.int IntKind.i64) (Ty.pair (Ty.int IntKind.i64) (Ty.pair (Ty.int IntKind.i64) (Ty.pair (Ty.int IntKind.i64) (Ty.int IntKind.i64))))))) y0 (Int.toNat y3)).2.2.2.2.2.1 (at_ (Ty.pair (Ty.int IntKind.i64) (Ty.pair (Ty.int IntKind.i64) (Ty.pair (Ty.int IntKind.i64) (Ty.pair (Ty.int IntKind.i64) (Ty.pair (Ty.int IntKind.i64) (Ty.pair (Ty.int IntKind.i64) (Ty.int IntKind.i64))))))) y0 (Int.toNat y3)).2.2.2.2.2.2] ≤ nat_lit 9223372036854775807)) (.br (true) (.go ((y1,y2 ++ [g_Vi_GloDo_1 y1 y3 (at_ (Ty.pair (Ty.int IntKind.i64) (Ty.pair (Ty.int IntKind.i64) (Ty.pair (Ty.int IntKind.i64) (Ty.pair (Ty.int IntKind.i64) (Ty.pair (Ty.int IntKind.i64) (Ty.pair (Ty.int IntKind.i64) (Ty.int IntKind.i64))))))) y0 (Int.toNat y3)).1 (at_ (Ty.pair (Ty.int IntKind.i64) (Ty.pair (Ty.int IntKind.i64) (Ty.pair (Ty.int IntKind.i64) (Ty.pair (Ty.int IntKind.i64) (Ty.pair (Ty.int IntKind.i64) (Ty.pair (Ty.int IntKind.i64) (Ty.int IntKind.i64))))))) y0 (Int.toNat y3)).2.1 (at_ (Ty.pair (Ty.int IntKind.i64) (Ty.pair (Ty.int IntKind.i64) (Ty.pair (Ty.int IntKind.i64) (Ty.pair (Ty.int IntKind.i64) (Ty.pair (Ty.int IntKind.i64) (Ty.pair (Ty.int IntKind.i64) (Ty.int IntKind.i64))))))) y0 (Int.toNat y3)).2.2.1 (at_ (Ty.pair (Ty.int IntKind.i64) (Ty.pair (Ty.int IntKind.i64) (Ty.pair (Ty.int IntKind.i64) (Ty.pair (Ty.int IntKind.i64) (Ty.pair (Ty.int IntKind.i64) (Ty.pair (Ty.int IntKind.i64) (Ty.int IntKind.i64))))))) y0 (Int.toNat y3)).2.2.2.1 (at_ (Ty.pair (Ty.int IntKind.i64) (Ty.pair (Ty.int IntKind.i64) (Ty.pair (Ty.int IntKind.i64) (Ty.pair (Ty.int IntKind.i64) (Ty.pair (Ty.int IntKind.i64) (Ty.pair (Ty.int IntKind.i64) (Ty.int IntKind.i64))))))) y0 (Int.toNat y3)).2.2.2.2.1 (at_ (Ty.pair (Ty.int IntKind.i64) (Ty.pair (Ty.int IntKind.i64) (Ty.pair (Ty.int IntKind.i64) (Ty.pair (Ty.int IntKind.i64) (Ty.pair (Ty.int IntKind.i64) (Ty.pair (Ty.int IntKind.i64) (Ty.int IntKind.i64))))))) y0 (Int.toNat y3)).2.2.2.2.2.1 (at_ (Ty.pair (Ty.int IntKind.i64) (Ty.pair (Ty.int IntKind.i64) (Ty.pair (Ty.int IntKind.i64) (Ty.pair (Ty.int IntKind.i64) (Ty.pair (Ty.int IntKind.i64) (Ty.pair (Ty.int IntKind.i64) (Ty.int IntKind.i64))))))) y0 (Int.toNat y3)).2.2.2.2.2.2],IntKind.wrap IntKind.i64 (y3 + (1:Int))))) .bad) .bad)) .bad) .bad) (.out ((y1,y2)))) .bad
noncomputable def g_Lw_jaGlo_0 (y0:List (Int×(Int×(Int×(Int×(Int×(Int×Int))))))) (x:(List (List (ByteArray×(List Int))))×(List Bool)×Int):Option (((List (List (ByteArray×(List Int))))×(List Bool))) := loopO (g_Sw_jaGlo_0 y0) x
noncomputable def xw_jaGlo_0 (y0:List (Int×(Int×(Int×(Int×(Int×(Int×Int))))))):(((List (List (ByteArray×(List Int))))×(List Bool))) → Ex×List (Pl×LV) := fun r => (.exit 0,[(.T 4,.t (.val false [.row 4 0 0])),(.R 4 0,.r 0 (some ⟨false,.any,true,32,(.sl 42 (.pair .str (.sl 3 (.int .i64)))),r.1⟩)),(.T 5,.t (.val false [.row 5 0 0])),(.R 5 0,.r 0 (some ⟨false,.non,true,4,.bool,r.2⟩))])
noncomputable def Ow_jaGlo_1:Orc := fun b h => match b,h with
 | 0,[(.T 0,.t (.val false [.sl .any 24 (.pair (.int .i64) (.pair (.int .i64) (.pair (.int .i64) (.pair (.int .i64) (.pair (.int .i64) (.pair (.int .i64) (.int .i64))))))) y0])),(.T 4,.t (.val false [.row 4 0 0])),(.R 4 0,.r 0 (some ⟨false,.any,true,32,(.sl 42 (.pair .str (.sl 3 (.int .i64)))),y1⟩)),(.T 5,.t (.val false [.row 5 0 0])),(.R 5 0,.r 0 (some ⟨false,.non,true,4,.bool,y2⟩)),(.T 6,.t (.val false [.int .i64 y3]))] => some (okO (g_Lw_jaGlo_0 y0 (y1,y2,y3)),(.leaf (.exit 0) [(.T 4,.t (.val false [.row 4 0 0])),(.R 4 0,.r 0 (some ⟨false,.any,true,32,(.sl 42 (.pair .str (.sl 3 (.int .i64)))),(valO (g_Lw_jaGlo_0 y0 (y1,y2,y3))).1⟩)),(.T 5,.t (.val false [.row 5 0 0])),(.R 5 0,.r 0 (some ⟨false,.non,true,4,.bool,(valO (g_Lw_jaGlo_0 y0 (y1,y2,y3))).2⟩))]))
 | b,h => Ow_jaGlo_0 b h
theorem bw_jaGlo_0 (y0:List (Int×(Int×(Int×(Int×(Int×(Int×Int))))))) (y1:List (List (ByteArray×(List Int)))) (y2:List Bool) (y3:Int):Tr.bt Ew_jaGlo Ow_jaGlo_0 (exec Ew_jaGlo 0 cw_jaGlo_0 (St.of (hw_jaGlo_0 y0 y1 y2 y3)) (leafRd Ew_jaGlo 0)) = (g_Sw_jaGlo_0 y0 (y1,y2,y3)).bt (fun ((y1,y2,y3):(List (List (ByteArray×(List Int))))×(List Bool)×Int) => (hw_jaGlo_0 y0 y1 y2 y3)) (xw_jaGlo_0 y0) := by kernel_rfl
theorem kw_jaGlo_1:OrcOk Ew_jaGlo Ow_jaGlo_1 lsw_jaGlo 1 := orc_add kw_jaGlo_0 (fun n p hp h ex h' ho => by
 obtain ⟨b,c⟩ := p
 obtain ⟨xt,h1,h2⟩ := ho
 have h1:Ow_jaGlo_1 b h = some (true,xt) := h1
 unfold Ow_jaGlo_1 at h1
 split at h1
 ·injection h1 with h1
  injection h1 with e1 e2
  subst e2
  have hc:c = cw_jaGlo_0 := mw_jaGlo_0 _ hp rfl
  subst hc
  right
  rename_i y0 y1 y2 y3
  have key := LT_step kw_jaGlo_0 hp (fun q hq => loopsAll_in _ _ _ _ hp hq) (fun ((y1,y2,y3):(List (List (ByteArray×(List Int))))×(List Bool)×Int) => (hw_jaGlo_0 y0 y1 y2 y3)) (xw_jaGlo_0 y0) (g_Sw_jaGlo_0 y0) (fun x => by first | exact bw_jaGlo_0 y0 x.1 x.2.1 x.2.2) n (x := (y1,y2,y3)) (okO_some e1)
  have hx:∀ r,XT.sel (.leaf (.exit 0) [(.T 4,.t (.val false [.row 4 0 0])),(.R 4 0,.r 0 (some ⟨false,.any,true,32,(.sl 42 (.pair .str (.sl 3 (.int .i64)))),r.1⟩)),(.T 5,.t (.val false [.row 5 0 0])),(.R 5 0,.r 0 (some ⟨false,.non,true,4,.bool,r.2⟩))]) = xw_jaGlo_0 y0 r := fun r => by first | rfl | (rcases r with r | r <;> rfl) | (rcases r with r | r | r <;> rfl) | (rcases r with r | r | r | r <;> rfl)
  have h3 := (hx (valO (g_Lw_jaGlo_0 y0 (y1,y2,y3)))).symm.trans h2
  have e3 := congrArg Prod.fst h3
  have e4 := congrArg Prod.snd h3
  simp only at e3 e4
  rw [← e3,← e4]
  exact key
 ·exact .inl ⟨xt,h1,h2⟩)
noncomputable def g_Aw_jaGlo (a0:List (Int×(Int×(Int×(Int×(Int×(Int×Int))))))):Bool := okO (g_Lw_jaGlo_0 a0 (g_Vi_GloNew_0,[],(0:Int)))
noncomputable def g_Vw_jaGlo_0 (a0:List (Int×(Int×(Int×(Int×(Int×(Int×Int))))))):List (List (ByteArray×(List Int))) := (valO (g_Lw_jaGlo_0 a0 (g_Vi_GloNew_0,[],(0:Int)))).1
noncomputable def g_Vw_jaGlo_1 (a0:List (Int×(Int×(Int×(Int×(Int×(Int×Int))))))):List Bool := (valO (g_Lw_jaGlo_0 a0 (g_Vi_GloNew_0,[],(0:Int)))).2
noncomputable def Fw_jaGlo:FSem := fun ys => match ys with
 | [.val false [.sl .any 24 (.pair (.int .i64) (.pair (.int .i64) (.pair (.int .i64) (.pair (.int .i64) (.pair (.int .i64) (.pair (.int .i64) (.int .i64))))))) a0]] => some ((g_Aw_jaGlo a0),.tup [(false,[.own .any true 32 (.sl 42 (.pair .str (.sl 3 (.int .i64)))) (g_Vw_jaGlo_0 a0)]),(false,[.own .any true 4 .bool (g_Vw_jaGlo_1 a0)])],[])
 | _ => none
theorem vw_jaGlo (a0:List (Int×(Int×(Int×(Int×(Int×(Int×Int))))))):collapseH .std Ew_jaGlo Ow_jaGlo_1 (execFn Ew_jaGlo Tryd.f13 msw_jaGlo [.val false [.sl .any 24 (.pair (.int .i64) (.pair (.int .i64) (.pair (.int .i64) (.pair (.int .i64) (.pair (.int .i64) (.pair (.int .i64) (.int .i64))))))) a0]]) = some ((g_Aw_jaGlo a0),.tup [(false,[.own .any true 32 (.sl 42 (.pair .str (.sl 3 (.int .i64)))) (g_Vw_jaGlo_0 a0)]),(false,[.own .any true 4 .bool (g_Vw_jaGlo_1 a0)])],[]) := by kernel_rfl
theorem sw_jaGlo:Sound Tryd.prog 13 msw_jaGlo Fw_jaGlo := by
 refine fn_gen goodw_jaGlo (by kernel_rfl) .std (fn := Tryd.f13) (c := (Tryd.f13.body.getD .skip)) (o := Ow_jaGlo_1) (k := 1) (by kernel_rfl) (by kernel_rfl) (by kernel_rfl) (by kernel_rfl) (by decide) kw_jaGlo_1 ?_
 intro ys r outs h
 unfold Fw_jaGlo at h
 split at h
 ·exact (vw_jaGlo _).trans h
 ·cases h
noncomputable def Ew_jaInts:Env where
 tt := mkTI Tryd.prog
 fn := fun _ => none
 bxf := fun _ => none
 mv := []
 keep := fun b => match b with
  | 0 => [(0,false),(1,false),(5,false)]
  | _ => []
 keepB := fun b => match b with
  | 0 => []
  | _ => []
 keepX := fun b => match b with
  | 0 => [(4,false)]
  | _ => []
 keepXB := fun b => match b with
  | 0 => []
  | _ => []
theorem goodFw_jaInts:∀ f ms F,Ew_jaInts.fn f = some (ms,F) → Sound Tryd.prog f ms F := fun f ms F h => by cases h
theorem goodBw_jaInts:∀ f ms F,Ew_jaInts.bxf f = some (ms,F) → SoundB Tryd.prog f ms F := fun f ms F h => by cases h
theorem goodw_jaInts:Good Tryd.prog Ew_jaInts := ⟨rfl,goodFw_jaInts,goodBw_jaInts⟩
noncomputable def Ow_jaInts_0:Orc := fun _ _ => none
noncomputable def msw_jaInts:List PM := [.rd,.rd]
noncomputable def lsw_jaInts:List (Nat×Code) := loopsAll 0 (Tryd.f20.body.getD .skip)
noncomputable def cw_jaInts_0:Code := (loopOf 0 (Tryd.f20.body.getD .skip)).getD .skip
theorem lseqw_jaInts:lsw_jaInts = [(0,cw_jaInts_0)] := by kernel_rfl
theorem mw_jaInts_0:∀ p,p ∈ lsw_jaInts → p.1 = 0 → p.2 = cw_jaInts_0 := by
 intro p hp
 rw [lseqw_jaInts] at hp
 simp only [List.mem_cons,List.not_mem_nil,or_false] at hp
 subst hp; simp
theorem kw_jaInts_0:OrcOk Ew_jaInts Ow_jaInts_0 lsw_jaInts 0 := orcOk_none
noncomputable def hw_jaInts_0 (y0:List Int) (y1:List Int) (y2:Int):List (Pl×LV) := [(.T 0,.t (.val false [.sl .any 3 (.int .i64) y0])),(.T 1,.t (.val false [.sl .any 3 (.int .i64) y1])),(.T 5,.t (.val false [.int .i64 y2]))]
noncomputable def g_Sw_jaInts_0 (y0:List Int) (y1:List Int):(Int) → RT (Int) ((Bool) ⊕ (Unit))
 | y2 => .br (true) (.br (decide (y2 < (↑(List.length y0):Int))) (.br (decide ((0:Int) ≤ y2 ∧ y2 < (↑(List.length y0):Int))) (.br (decide ((0:Int) ≤ y2 ∧ y2 < (↑(List.length y1):Int))) (.br (true) (.br (at_ (Ty.int IntKind.i64) y0 (Int.toNat y2) != at_ (Ty.int IntKind.i64) y1 (Int.toNat y2)) (.out (.inl false)) (.br (true) (.go (IntKind.wrap IntKind.i64 (y2 + (1:Int)))) .bad)) .bad) .bad) .bad) (.out (.inr (())))) .bad
noncomputable def g_Lw_jaInts_0 (y0:List Int) (y1:List Int) (x:Int):Option ((Bool) ⊕ (Unit)) := loopO (g_Sw_jaInts_0 y0 y1) x
noncomputable def xw_jaInts_0 (y0:List Int) (y1:List Int):((Bool) ⊕ (Unit)) → Ex×List (Pl×LV) := fun
 | .inl r => (.ret,[(.T 4,.t (.val false [.bool r]))])
 | .inr (r) => (.exit 0,[(.T 4,.t (.val false [.undef]))])
noncomputable def Ow_jaInts_1:Orc := fun b h => match b,h with
 | 0,[(.T 0,.t (.val false [.sl .any 3 (.int .i64) y0])),(.T 1,.t (.val false [.sl .any 3 (.int .i64) y1])),(.T 5,.t (.val false [.int .i64 y2]))] => some (okO (g_Lw_jaInts_0 y0 y1 y2),(.br (isL (valO (g_Lw_jaInts_0 y0 y1 y2))) (.leaf .ret [(.T 4,.t (.val false [.bool (getL (valO (g_Lw_jaInts_0 y0 y1 y2)))]))]) (.leaf (.exit 0) [(.T 4,.t (.val false [.undef]))])))
 | b,h => Ow_jaInts_0 b h
theorem bw_jaInts_0 (y0:List Int) (y1:List Int) (y2:Int):Tr.bt Ew_jaInts Ow_jaInts_0 (exec Ew_jaInts 0 cw_jaInts_0 (St.of (hw_jaInts_0 y0 y1 y2)) (leafRd Ew_jaInts 0)) = (g_Sw_jaInts_0 y0 y1 y2).bt (fun (y2:Int) => (hw_jaInts_0 y0 y1 y2)) (xw_jaInts_0 y0 y1) := by kernel_rfl
theorem kw_jaInts_1:OrcOk Ew_jaInts Ow_jaInts_1 lsw_jaInts 1 := orc_add kw_jaInts_0 (fun n p hp h ex h' ho => by
 obtain ⟨b,c⟩ := p
 obtain ⟨xt,h1,h2⟩ := ho
 have h1:Ow_jaInts_1 b h = some (true,xt) := h1
 unfold Ow_jaInts_1 at h1
 split at h1
 ·injection h1 with h1
  injection h1 with e1 e2
  subst e2
  have hc:c = cw_jaInts_0 := mw_jaInts_0 _ hp rfl
  subst hc
  right
  rename_i y0 y1 y2
  have key := LT_step kw_jaInts_0 hp (fun q hq => loopsAll_in _ _ _ _ hp hq) (fun (y2:Int) => (hw_jaInts_0 y0 y1 y2)) (xw_jaInts_0 y0 y1) (g_Sw_jaInts_0 y0 y1) (fun x => by first | exact bw_jaInts_0 y0 y1 x) n (x := y2) (okO_some e1)
  have hx:∀ r,XT.sel (.br (isL r) (.leaf .ret [(.T 4,.t (.val false [.bool (getL r)]))]) (.leaf (.exit 0) [(.T 4,.t (.val false [.undef]))])) = xw_jaInts_0 y0 y1 r := fun r => by first | rfl | (rcases r with r | r <;> rfl) | (rcases r with r | r | r <;> rfl) | (rcases r with r | r | r | r <;> rfl)
  have h3 := (hx (valO (g_Lw_jaInts_0 y0 y1 y2))).symm.trans h2
  have e3 := congrArg Prod.fst h3
  have e4 := congrArg Prod.snd h3
  simp only at e3 e4
  rw [← e3,← e4]
  exact key
 ·exact .inl ⟨xt,h1,h2⟩)
noncomputable def g_Aw_jaInts (a0:List Int) (a1:List Int):Bool := (↑(List.length a0):Int) != (↑(List.length a1):Int) || okO (g_Lw_jaInts_0 a0 a1 (0:Int))
noncomputable def g_Vw_jaInts_0 (a0:List Int) (a1:List Int):Bool := bif (↑(List.length a0):Int) != (↑(List.length a1):Int) then false else bif isL (valO (g_Lw_jaInts_0 a0 a1 (0:Int))) then getL (valO (g_Lw_jaInts_0 a0 a1 (0:Int))) else true
noncomputable def Fw_jaInts:FSem := fun ys => match ys with
 | [.val false [.sl .any 3 (.int .i64) a0],.val false [.sl .any 3 (.int .i64) a1]] => some ((g_Aw_jaInts a0 a1),.val false [.bool (g_Vw_jaInts_0 a0 a1)],[])
 | _ => none
theorem vw_jaInts (a0:List Int) (a1:List Int):collapseH .std Ew_jaInts Ow_jaInts_1 (execFn Ew_jaInts Tryd.f20 msw_jaInts [.val false [.sl .any 3 (.int .i64) a0],.val false [.sl .any 3 (.int .i64) a1]]) = some ((g_Aw_jaInts a0 a1),.val false [.bool (g_Vw_jaInts_0 a0 a1)],[]) := by kernel_rfl
theorem sw_jaInts:Sound Tryd.prog 20 msw_jaInts Fw_jaInts := by
 refine fn_gen goodw_jaInts (by kernel_rfl) .std (fn := Tryd.f20) (c := (Tryd.f20.body.getD .skip)) (o := Ow_jaInts_1) (k := 1) (by kernel_rfl) (by kernel_rfl) (by kernel_rfl) (by kernel_rfl) (by decide) kw_jaInts_1 ?_
 intro ys r outs h
 unfold Fw_jaInts at h
 split at h
 ·exact (vw_jaInts _ _).trans h
 ·cases h
noncomputable def Ew_jaSto:Env where
 tt := mkTI Tryd.prog
 fn := fun f => match f with
  | 20 => some (msw_jaInts,FSem.wk msw_jaInts Fw_jaInts)
  | _ => none
 bxf := fun _ => none
 mv := []
 keep := fun b => match b with
  | 0 => [(2,false),(3,false),(5,false)]
  | _ => []
 keepB := fun b => match b with
  | 0 => [(2,false),(3,false)]
  | _ => []
 keepX := fun b => match b with
  | 0 => [(4,false)]
  | _ => []
 keepXB := fun b => match b with
  | 0 => []
  | _ => []
theorem goodFw_jaSto:∀ f ms F,Ew_jaSto.fn f = some (ms,F) → Sound Tryd.prog f ms F := fun f ms F h => by
 unfold Ew_jaSto at h
 dsimp only at h
 split at h
 ·injection h with h; injection h with e1 e2; subst e1 e2; exact Sound.wk sw_jaInts
 ·cases h
theorem goodBw_jaSto:∀ f ms F,Ew_jaSto.bxf f = some (ms,F) → SoundB Tryd.prog f ms F := fun f ms F h => by cases h
theorem goodw_jaSto:Good Tryd.prog Ew_jaSto := ⟨rfl,goodFw_jaSto,goodBw_jaSto⟩
noncomputable def Ow_jaSto_0:Orc := fun _ _ => none
noncomputable def msw_jaSto:List PM := [.rd,.rd]
noncomputable def lsw_jaSto:List (Nat×Code) := loopsAll 0 (Tryd.f41.body.getD .skip)
noncomputable def cw_jaSto_0:Code := (loopOf 0 (Tryd.f41.body.getD .skip)).getD .skip
theorem lseqw_jaSto:lsw_jaSto = [(0,cw_jaSto_0)] := by kernel_rfl
theorem mw_jaSto_0:∀ p,p ∈ lsw_jaSto → p.1 = 0 → p.2 = cw_jaSto_0 := by
 intro p hp
 rw [lseqw_jaSto] at hp
 simp only [List.mem_cons,List.not_mem_nil,or_false] at hp
 subst hp; simp
theorem kw_jaSto_0:OrcOk Ew_jaSto Ow_jaSto_0 lsw_jaSto 0 := orcOk_none
noncomputable def hw_jaSto_0 (y0:Int) (y1:List (ByteArray×(List Int))) (y2:List (ByteArray×(List Int))):List (Pl×LV) := [(.T 2,.t (.val false [.ptr 2 0 0])),(.T 3,.t (.val false [.ptr 3 0 0])),(.T 5,.t (.val false [.int .i64 y0])),(.B 2,.b 0 false [.sl .any 42 (.pair .str (.sl 3 (.int .i64))) y1]),(.B 3,.b 0 false [.sl .any 42 (.pair .str (.sl 3 (.int .i64))) y2])]
noncomputable def g_Sw_jaSto_0 (y1:List (ByteArray×(List Int))) (y2:List (ByteArray×(List Int))):(Int) → RT (Int) ((Bool) ⊕ (Unit))
 | y0 => .br (true) (.br (decide (y0 < (↑(List.length y1):Int))) (.br (decide ((0:Int) ≤ y0 ∧ y0 < (↑(List.length y1):Int))) (.br (decide ((0:Int) ≤ y0 ∧ y0 < (↑(List.length y2):Int))) (.br (true) (.br (!ByteArray.toList (at_ (Ty.pair Ty.str (Ty.sl (nat_lit 3) (Ty.int IntKind.i64))) y1 (Int.toNat y0)).1 == ByteArray.toList (at_ (Ty.pair Ty.str (Ty.sl (nat_lit 3) (Ty.int IntKind.i64))) y2 (Int.toNat y0)).1) (.out (.inl false)) (.br (decide ((0:Int) ≤ y0 ∧ y0 < (↑(List.length y1):Int))) (.br (decide ((0:Int) ≤ y0 ∧ y0 < (↑(List.length y2):Int))) (.br (g_Aw_jaInts (at_ (Ty.pair Ty.str (Ty.sl (nat_lit 3) (Ty.int IntKind.i64))) y1 (Int.toNat y0)).2 (at_ (Ty.pair Ty.str (Ty.sl (nat_lit 3) (Ty.int IntKind.i64))) y2 (Int.toNat y0)).2) (.br (!g_Vw_jaInts_0 (at_ (Ty.pair Ty.str (Ty.sl (nat_lit 3) (Ty.int IntKind.i64))) y1 (Int.toNat y0)).2 (at_ (Ty.pair Ty.str (Ty.sl (nat_lit 3) (Ty.int IntKind.i64))) y2 (Int.toNat y0)).2) (.out (.inl false)) (.br (true) (.go (IntKind.wrap IntKind.i64 (y0 + (1:Int)))) .bad)) .bad) .bad) .bad)) .bad) .bad) .bad) (.out (.inr (())))) .bad
noncomputable def g_Lw_jaSto_0 (y1:List (ByteArray×(List Int))) (y2:List (ByteArray×(List Int))) (x:Int):Option ((Bool) ⊕ (Unit)) := loopO (g_Sw_jaSto_0 y1 y2) x
noncomputable def xw_jaSto_0 (y1:List (ByteArray×(List Int))) (y2:List (ByteArray×(List Int))):((Bool) ⊕ (Unit)) → Ex×List (Pl×LV) := fun
 | .inl r => (.ret,[(.T 4,.t (.val false [.bool r]))])
 | .inr (r) => (.exit 0,[(.T 4,.t (.val false [.undef]))])
noncomputable def Ow_jaSto_1:Orc := fun b h => match b,h with
 | 0,[(.T 2,.t (.val false [.ptr 2 0 0])),(.T 3,.t (.val false [.ptr 3 0 0])),(.T 5,.t (.val false [.int .i64 y0])),(.B 2,.b 0 false [.sl .any 42 (.pair .str (.sl 3 (.int .i64))) y1]),(.B 3,.b 0 false [.sl .any 42 (.pair .str (.sl 3 (.int .i64))) y2])] => some (okO (g_Lw_jaSto_0 y1 y2 y0),(.br (isL (valO (g_Lw_jaSto_0 y1 y2 y0))) (.leaf .ret [(.T 4,.t (.val false [.bool (getL (valO (g_Lw_jaSto_0 y1 y2 y0)))]))]) (.leaf (.exit 0) [(.T 4,.t (.val false [.undef]))])))
 | b,h => Ow_jaSto_0 b h
theorem bw_jaSto_0 (y0:Int) (y1:List (ByteArray×(List Int))) (y2:List (ByteArray×(List Int))):Tr.bt Ew_jaSto Ow_jaSto_0 (exec Ew_jaSto 0 cw_jaSto_0 (St.of (hw_jaSto_0 y0 y1 y2)) (leafRd Ew_jaSto 0)) = (g_Sw_jaSto_0 y1 y2 y0).bt (fun (y0:Int) => (hw_jaSto_0 y0 y1 y2)) (xw_jaSto_0 y1 y2) := by kernel_rfl
theorem kw_jaSto_1:OrcOk Ew_jaSto Ow_jaSto_1 lsw_jaSto 1 := orc_add kw_jaSto_0 (fun n p hp h ex h' ho => by
 obtain ⟨b,c⟩ := p
 obtain ⟨xt,h1,h2⟩ := ho
 have h1:Ow_jaSto_1 b h = some (true,xt) := h1
 unfold Ow_jaSto_1 at h1
 split at h1
 ·injection h1 with h1
  injection h1 with e1 e2
  subst e2
  have hc:c = cw_jaSto_0 := mw_jaSto_0 _ hp rfl
  subst hc
  right
  rename_i y0 y1 y2
  have key := LT_step kw_jaSto_0 hp (fun q hq => loopsAll_in _ _ _ _ hp hq) (fun (y0:Int) => (hw_jaSto_0 y0 y1 y2)) (xw_jaSto_0 y1 y2) (g_Sw_jaSto_0 y1 y2) (fun x => by first | exact bw_jaSto_0 x y1 y2) n (x := y0) (okO_some e1)
  have hx:∀ r,XT.sel (.br (isL r) (.leaf .ret [(.T 4,.t (.val false [.bool (getL r)]))]) (.leaf (.exit 0) [(.T 4,.t (.val false [.undef]))])) = xw_jaSto_0 y1 y2 r := fun r => by first | rfl | (rcases r with r | r <;> rfl) | (rcases r with r | r | r <;> rfl) | (rcases r with r | r | r | r <;> rfl)
  have h3 := (hx (valO (g_Lw_jaSto_0 y1 y2 y0))).symm.trans h2
  have e3 := congrArg Prod.fst h3
  have e4 := congrArg Prod.snd h3
  simp only at e3 e4
  rw [← e3,← e4]
  exact key
 ·exact .inl ⟨xt,h1,h2⟩)
noncomputable def g_Aw_jaSto (a0:List (ByteArray×(List Int))) (a1:List (ByteArray×(List Int))):Bool := (↑(List.length a0):Int) != (↑(List.length a1):Int) || okO (g_Lw_jaSto_0 a0 a1 (0:Int))
noncomputable def g_Vw_jaSto_0 (a0:List (ByteArray×(List Int))) (a1:List (ByteArray×(List Int))):Bool := bif (↑(List.length a0):Int) != (↑(List.length a1):Int) then false else bif isL (valO (g_Lw_jaSto_0 a0 a1 (0:Int))) then getL (valO (g_Lw_jaSto_0 a0 a1 (0:Int))) else true
noncomputable def Fw_jaSto:FSem := fun ys => match ys with
 | [.val true [.sl .any 42 (.pair .str (.sl 3 (.int .i64))) a0],.val true [.sl .any 42 (.pair .str (.sl 3 (.int .i64))) a1]] => some ((g_Aw_jaSto a0 a1),.val false [.bool (g_Vw_jaSto_0 a0 a1)],[])
 | _ => none
theorem vw_jaSto (a0:List (ByteArray×(List Int))) (a1:List (ByteArray×(List Int))):collapseH .std Ew_jaSto Ow_jaSto_1 (execFn Ew_jaSto Tryd.f41 msw_jaSto [.val true [.sl .any 42 (.pair .str (.sl 3 (.int .i64))) a0],.val true [.sl .any 42 (.pair .str (.sl 3 (.int .i64))) a1]]) = some ((g_Aw_jaSto a0 a1),.val false [.bool (g_Vw_jaSto_0 a0 a1)],[]) := by kernel_rfl
theorem sw_jaSto:Sound Tryd.prog 41 msw_jaSto Fw_jaSto := by
 refine fn_gen goodw_jaSto (by kernel_rfl) .std (fn := Tryd.f41) (c := (Tryd.f41.body.getD .skip)) (o := Ow_jaSto_1) (k := 1) (by kernel_rfl) (by kernel_rfl) (by kernel_rfl) (by kernel_rfl) (by decide) kw_jaSto_1 ?_
 intro ys r outs h
 unfold Fw_jaSto at h
 split at h
 ·exact (vw_jaSto _ _).trans h
 ·cases h
noncomputable def Ew_jaStos:Env where
 tt := mkTI Tryd.prog
 fn := fun f => match f with
  | 41 => some (msw_jaSto,FSem.wk msw_jaSto Fw_jaSto)
  | _ => none
 bxf := fun _ => none
 mv := []
 keep := fun b => match b with
  | 0 => [(0,false),(1,false),(5,false)]
  | _ => []
 keepB := fun b => match b with
  | 0 => []
  | _ => []
 keepX := fun b => match b with
  | 0 => [(4,false)]
  | _ => []
 keepXB := fun b => match b with
  | 0 => []
  | _ => []
theorem goodFw_jaStos:∀ f ms F,Ew_jaStos.fn f = some (ms,F) → Sound Tryd.prog f ms F := fun f ms F h => by
 unfold Ew_jaStos at h
 dsimp only at h
 split at h
 ·injection h with h; injection h with e1 e2; subst e1 e2; exact Sound.wk sw_jaSto
 ·cases h
theorem goodBw_jaStos:∀ f ms F,Ew_jaStos.bxf f = some (ms,F) → SoundB Tryd.prog f ms F := fun f ms F h => by cases h
theorem goodw_jaStos:Good Tryd.prog Ew_jaStos := ⟨rfl,goodFw_jaStos,goodBw_jaStos⟩
noncomputable def Ow_jaStos_0:Orc := fun _ _ => none
noncomputable def msw_jaStos:List PM := [.rd,.rd]
noncomputable def lsw_jaStos:List (Nat×Code) := loopsAll 0 (Tryd.f21.body.getD .skip)
noncomputable def cw_jaStos_0:Code := (loopOf 0 (Tryd.f21.body.getD .skip)).getD .skip
theorem lseqw_jaStos:lsw_jaStos = [(0,cw_jaStos_0)] := by kernel_rfl
theorem mw_jaStos_0:∀ p,p ∈ lsw_jaStos → p.1 = 0 → p.2 = cw_jaStos_0 := by
 intro p hp
 rw [lseqw_jaStos] at hp
 simp only [List.mem_cons,List.not_mem_nil,or_false] at hp
 subst hp; simp
theorem kw_jaStos_0:OrcOk Ew_jaStos Ow_jaStos_0 lsw_jaStos 0 := orcOk_none
noncomputable def hw_jaStos_0 (y0:List (List (ByteArray×(List Int)))) (y1:List (List (ByteArray×(List Int)))) (y2:Int):List (Pl×LV) := [(.T 0,.t (.val false [.sl .any 32 (.sl 42 (.pair .str (.sl 3 (.int .i64)))) y0])),(.T 1,.t (.val false [.sl .any 32 (.sl 42 (.pair .str (.sl 3 (.int .i64)))) y1])),(.T 5,.t (.val false [.int .i64 y2]))]
noncomputable def g_Sw_jaStos_0 (y0:List (List (ByteArray×(List Int)))) (y1:List (List (ByteArray×(List Int)))):(Int) → RT (Int) ((Bool) ⊕ (Unit))
 | y2 => .br (true) (.br (decide (y2 < (↑(List.length y0):Int))) (.br (decide ((0:Int) ≤ y2 ∧ y2 < (↑(List.length y0):Int))) (.br (decide ((0:Int) ≤ y2 ∧ y2 < (↑(List.length y1):Int))) (.br (g_Aw_jaSto (at_ (Ty.sl (nat_lit 42) (Ty.pair Ty.str (Ty.sl (nat_lit 3) (Ty.int IntKind.i64)))) y0 (Int.toNat y2)) (at_ (Ty.sl (nat_lit 42) (Ty.pair Ty.str (Ty.sl (nat_lit 3) (Ty.int IntKind.i64)))) y1 (Int.toNat y2))) (.br (!g_Vw_jaSto_0 (at_ (Ty.sl (nat_lit 42) (Ty.pair Ty.str (Ty.sl (nat_lit 3) (Ty.int IntKind.i64)))) y0 (Int.toNat y2)) (at_ (Ty.sl (nat_lit 42) (Ty.pair Ty.str (Ty.sl (nat_lit 3) (Ty.int IntKind.i64)))) y1 (Int.toNat y2))) (.out (.inl false)) (.br (true) (.go (IntKind.wrap IntKind.i64 (y2 + (1:Int)))) .bad)) .bad) .bad) .bad) (.out (.inr (())))) .bad
noncomputable def g_Lw_jaStos_0 (y0:List (List (ByteArray×(List Int)))) (y1:List (List (ByteArray×(List Int)))) (x:Int):Option ((Bool) ⊕ (Unit)) := loopO (g_Sw_jaStos_0 y0 y1) x
noncomputable def xw_jaStos_0 (y0:List (List (ByteArray×(List Int)))) (y1:List (List (ByteArray×(List Int)))):((Bool) ⊕ (Unit)) → Ex×List (Pl×LV) := fun
 | .inl r => (.ret,[(.T 4,.t (.val false [.bool r]))])
 | .inr (r) => (.exit 0,[(.T 4,.t (.val false [.undef]))])
noncomputable def Ow_jaStos_1:Orc := fun b h => match b,h with
 | 0,[(.T 0,.t (.val false [.sl .any 32 (.sl 42 (.pair .str (.sl 3 (.int .i64)))) y0])),(.T 1,.t (.val false [.sl .any 32 (.sl 42 (.pair .str (.sl 3 (.int .i64)))) y1])),(.T 5,.t (.val false [.int .i64 y2]))] => some (okO (g_Lw_jaStos_0 y0 y1 y2),(.br (isL (valO (g_Lw_jaStos_0 y0 y1 y2))) (.leaf .ret [(.T 4,.t (.val false [.bool (getL (valO (g_Lw_jaStos_0 y0 y1 y2)))]))]) (.leaf (.exit 0) [(.T 4,.t (.val false [.undef]))])))
 | b,h => Ow_jaStos_0 b h
theorem bw_jaStos_0 (y0:List (List (ByteArray×(List Int)))) (y1:List (List (ByteArray×(List Int)))) (y2:Int):Tr.bt Ew_jaStos Ow_jaStos_0 (exec Ew_jaStos 0 cw_jaStos_0 (St.of (hw_jaStos_0 y0 y1 y2)) (leafRd Ew_jaStos 0)) = (g_Sw_jaStos_0 y0 y1 y2).bt (fun (y2:Int) => (hw_jaStos_0 y0 y1 y2)) (xw_jaStos_0 y0 y1) := by kernel_rfl
theorem kw_jaStos_1:OrcOk Ew_jaStos Ow_jaStos_1 lsw_jaStos 1 := orc_add kw_jaStos_0 (fun n p hp h ex h' ho => by
 obtain ⟨b,c⟩ := p
 obtain ⟨xt,h1,h2⟩ := ho
 have h1:Ow_jaStos_1 b h = some (true,xt) := h1
 unfold Ow_jaStos_1 at h1
 split at h1
 ·injection h1 with h1
  injection h1 with e1 e2
  subst e2
  have hc:c = cw_jaStos_0 := mw_jaStos_0 _ hp rfl
  subst hc
  right
  rename_i y0 y1 y2
  have key := LT_step kw_jaStos_0 hp (fun q hq => loopsAll_in _ _ _ _ hp hq) (fun (y2:Int) => (hw_jaStos_0 y0 y1 y2)) (xw_jaStos_0 y0 y1) (g_Sw_jaStos_0 y0 y1) (fun x => by first | exact bw_jaStos_0 y0 y1 x) n (x := y2) (okO_some e1)
  have hx:∀ r,XT.sel (.br (isL r) (.leaf .ret [(.T 4,.t (.val false [.bool (getL r)]))]) (.leaf (.exit 0) [(.T 4,.t (.val false [.undef]))])) = xw_jaStos_0 y0 y1 r := fun r => by first | rfl | (rcases r with r | r <;> rfl) | (rcases r with r | r | r <;> rfl) | (rcases r with r | r | r | r <;> rfl)
  have h3 := (hx (valO (g_Lw_jaStos_0 y0 y1 y2))).symm.trans h2
  have e3 := congrArg Prod.fst h3
  have e4 := congrArg Prod.snd h3
  simp only at e3 e4
  rw [← e3,← e4]
  exact key
 ·exact .inl ⟨xt,h1,h2⟩)
noncomputable def g_Aw_jaStos (a0:List (List (ByteArray×(List Int)))) (a1:List (List (ByteArray×(List Int)))):Bool := (↑(List.length a0):Int) != (↑(List.length a1):Int) || okO (g_Lw_jaStos_0 a0 a1 (0:Int))
noncomputable def g_Vw_jaStos_0 (a0:List (List (ByteArray×(List Int)))) (a1:List (List (ByteArray×(List Int)))):Bool := bif (↑(List.length a0):Int) != (↑(List.length a1):Int) then false else bif isL (valO (g_Lw_jaStos_0 a0 a1 (0:Int))) then getL (valO (g_Lw_jaStos_0 a0 a1 (0:Int))) else true
noncomputable def Fw_jaStos:FSem := fun ys => match ys with
 | [.val false [.sl .any 32 (.sl 42 (.pair .str (.sl 3 (.int .i64)))) a0],.val false [.sl .any 32 (.sl 42 (.pair .str (.sl 3 (.int .i64)))) a1]] => some ((g_Aw_jaStos a0 a1),.val false [.bool (g_Vw_jaStos_0 a0 a1)],[])
 | _ => none
theorem vw_jaStos (a0:List (List (ByteArray×(List Int)))) (a1:List (List (ByteArray×(List Int)))):collapseH .std Ew_jaStos Ow_jaStos_1 (execFn Ew_jaStos Tryd.f21 msw_jaStos [.val false [.sl .any 32 (.sl 42 (.pair .str (.sl 3 (.int .i64)))) a0],.val false [.sl .any 32 (.sl 42 (.pair .str (.sl 3 (.int .i64)))) a1]]) = some ((g_Aw_jaStos a0 a1),.val false [.bool (g_Vw_jaStos_0 a0 a1)],[]) := by kernel_rfl
theorem sw_jaStos:Sound Tryd.prog 21 msw_jaStos Fw_jaStos := by
 refine fn_gen goodw_jaStos (by kernel_rfl) .std (fn := Tryd.f21) (c := (Tryd.f21.body.getD .skip)) (o := Ow_jaStos_1) (k := 1) (by kernel_rfl) (by kernel_rfl) (by kernel_rfl) (by kernel_rfl) (by decide) kw_jaStos_1 ?_
 intro ys r outs h
 unfold Fw_jaStos at h
 split at h
 ·exact (vw_jaStos _ _).trans h
 ·cases h
noncomputable def Ew_FnGloNone:Env where
 tt := mkTI Tryd.prog
 fn := fun f => match f with
  | 13 => some (msw_jaGlo,FSem.wk msw_jaGlo Fw_jaGlo)
  | 14 => some (msi_GloDo,FSem.wk msi_GloDo Fi_GloDo)
  | 15 => some (msi_GloOk,FSem.wk msi_GloOk Fi_GloOk)
  | 16 => some (mss_DrawGloPlay,FSem.wk mss_DrawGloPlay Fs_DrawGloPlay)
  | 17 => some (msi_GloNew,FSem.wk msi_GloNew Fi_GloNew)
  | 21 => some (msw_jaStos,FSem.wk msw_jaStos Fw_jaStos)
  | _ => none
 bxf := fun _ => none
 mv := []
 keep := fun b => match b with
  | 0 => [(3,false),(4,false),(5,false),(6,false),(7,false)]
  | _ => []
 keepB := fun b => match b with
  | 0 => []
  | _ => []
 keepX := fun b => match b with
  | 0 => [(2,false),(4,false),(6,false)]
  | _ => []
 keepXB := fun b => match b with
  | 0 => []
  | _ => []
theorem goodFw_FnGloNone:∀ f ms F,Ew_FnGloNone.fn f = some (ms,F) → Sound Tryd.prog f ms F := fun f ms F h => by
 unfold Ew_FnGloNone at h
 dsimp only at h
 split at h
 ·injection h with h; injection h with e1 e2; subst e1 e2; exact Sound.wk sw_jaGlo
 ·injection h with h; injection h with e1 e2; subst e1 e2; exact Sound.wk si_GloDo
 ·injection h with h; injection h with e1 e2; subst e1 e2; exact Sound.wk si_GloOk
 ·injection h with h; injection h with e1 e2; subst e1 e2; exact Sound.wk ss_DrawGloPlay
 ·injection h with h; injection h with e1 e2; subst e1 e2; exact Sound.wk si_GloNew
 ·injection h with h; injection h with e1 e2; subst e1 e2; exact Sound.wk sw_jaStos
 ·cases h
theorem goodBw_FnGloNone:∀ f ms F,Ew_FnGloNone.bxf f = some (ms,F) → SoundB Tryd.prog f ms F := fun f ms F h => by cases h
theorem goodw_FnGloNone:Good Tryd.prog Ew_FnGloNone := ⟨rfl,goodFw_FnGloNone,goodBw_FnGloNone⟩
noncomputable def Ow_FnGloNone_0:Orc := fun _ _ => none
noncomputable def msw_FnGloNone:List PM := [.rd]
noncomputable def lsw_FnGloNone:List (Nat×Code) := loopsAll 0 (Tryd.f11.body.getD .skip)
noncomputable def cw_FnGloNone_0:Code := (loopOf 0 (Tryd.f11.body.getD .skip)).getD .skip
theorem lseqw_FnGloNone:lsw_FnGloNone = [(0,cw_FnGloNone_0)] := by kernel_rfl
theorem mw_FnGloNone_0:∀ p,p ∈ lsw_FnGloNone → p.1 = 0 → p.2 = cw_FnGloNone_0 := by
 intro p hp
 rw [lseqw_FnGloNone] at hp
 simp only [List.mem_cons,List.not_mem_nil,or_false] at hp
 subst hp; simp
theorem kw_FnGloNone_0:OrcOk Ew_FnGloNone Ow_FnGloNone_0 lsw_FnGloNone 0 := orcOk_none
noncomputable def hw_FnGloNone_0 (y0:List (Int×(Int×(Int×(Int×(Int×(Int×Int))))))) (y1:List (List (ByteArray×(List Int)))) (y2:List Bool) (y3:List (List (ByteArray×(List Int)))) (y4:Int):List (Pl×LV) := [(.T 3,.t (.val false [.row 3 0 0])),(.R 3 0,.r 0 (some ⟨false,.any,true,24,(.pair (.int .i64) (.pair (.int .i64) (.pair (.int .i64) (.pair (.int .i64) (.pair (.int .i64) (.pair (.int .i64) (.int .i64))))))),y0⟩)),(.T 4,.t (.val false [.row 4 0 0])),(.R 4 0,.r 0 (some ⟨false,.any,true,32,(.sl 42 (.pair .str (.sl 3 (.int .i64)))),y1⟩)),(.T 5,.t (.val false [.row 5 0 0])),(.R 5 0,.r 0 (some ⟨false,.any,true,4,.bool,y2⟩)),(.T 6,.t (.val false [.row 6 0 0])),(.R 6 0,.r 0 (some ⟨false,.any,true,32,(.sl 42 (.pair .str (.sl 3 (.int .i64)))),y3⟩)),(.T 7,.t (.val false [.int .i64 y4]))]
noncomputable def g_Sw_FnGloNone_0 (y0:List (Int×(Int×(Int×(Int×(Int×(Int×Int))))))) (y1:List (List (ByteArray×(List Int)))) (y2:List Bool):((List (List (ByteArray×(List Int))))×Int) → RT ((List (List (ByteArray×(List Int))))×Int) ((Bool×(List (List (ByteArray×(List Int))))) ⊕ ((List (List (ByteArray×(List Int))))))
 | (y3,y4) => .br (true) (.br (decide (y4 < (↑(List.length y0):Int))) (.br (decide ((0:Int) ≤ y4 ∧ y4 < (↑(List.length y2):Int))) (.br (decide (Int.toNat y4 < List.length y2)) (.br (at_ Ty.bool y2 (Int.toNat y4)) (.br (decide ((0:Int) ≤ y4 ∧ y4 < (↑(List.length y0):Int))) (.br (decide (Int.toNat y4 < List.length y0)) (.br (g_Ai_GloDo y3 y4 (at_ (Ty.pair (Ty.int IntKind.i64) (Ty.pair (Ty.int IntKind.i64) (Ty.pair (Ty.int IntKind.i64) (Ty.pair (Ty.int IntKind.i64) (Ty.pair (Ty.int IntKind.i64) (Ty.pair (Ty.int IntKind.i64) (Ty.int IntKind.i64))))))) y0 (Int.toNat y4)).1 (at_ (Ty.pair (Ty.int IntKind.i64) (Ty.pair (Ty.int IntKind.i64) (Ty.pair (Ty.int IntKind.i64) (Ty.pair (Ty.int IntKind.i64) (Ty.pair (Ty.int IntKind.i64) (Ty.pair (Ty.int IntKind.i64) (Ty.int IntKind.i64))))))) y0 (Int.toNat y4)).2.1 (at_ (Ty.pair (Ty.int IntKind.i64) (Ty.pair (Ty.int IntKind.i64) (Ty.pair (Ty.int IntKind.i64) (Ty.pair (Ty.int IntKind.i64) (Ty.pair (Ty.int IntKind.i64) (Ty.pair (Ty.int IntKind.i64) (Ty.int IntKind.i64))))))) y0 (Int.toNat y4)).2.2.1 (at_ (Ty.pair (Ty.int IntKind.i64) (Ty.pair (Ty.int IntKind.i64) (Ty.pair (Ty.int IntKind.i64) (Ty.pair (Ty.int IntKind.i64) (Ty.pair (Ty.int IntKind.i64) (Ty.pair (Ty.int IntKind.i64) (Ty.int IntKind.i64))))))) y0 (Int.toNat y4)).2.2.2.1 (at_ (Ty.pair (Ty.int IntKind.i64) (Ty.pair (Ty.int IntKind.i64) (Ty.pair (Ty.int IntKind.i64) (Ty.pair (Ty.int IntKind.i64) (Ty.pair (Ty.int IntKind.i64) (Ty.pair (Ty.int IntKind.i64) (Ty.int IntKind.i64))))))) y0 (Int.toNat y4)).2.2.2.2.1 (at_ (Ty.pair (Ty.int IntKind.i64) (Ty.pair (Ty.int IntKind.i64) (Ty.pair (Ty.int IntKind.i64) (Ty.pair (Ty.int IntKind.i64) (Ty.pair (Ty.int IntKind.i64) (Ty.pair (Ty.int IntKind.i64) (Ty.int IntKind.i64))))))) y0 (Int.toNat y4)).2.2.2.2.2.1 (at_ (Ty.pair (Ty.int IntKind.i64) (Ty.pair (Ty.int IntKind.i64) (Ty.pair (Ty.int IntKind.i64) (Ty.pair (Ty.int IntKind.i64) (Ty.pair (Ty.int IntKind.i64) (Ty.pair (Ty.int IntKind.i64) (Ty.int IntKind.i64))))))) y0 (Int.toNat y4)).2.2.2.2.2.2) (.br (!g_Vi_GloDo_1 y3 y4 (at_ (Ty.pair (Ty.int IntKind.i64) (Ty.pair (Ty.int IntKind.i64) (Ty.pair (Ty.int IntKind.i64) (Ty.pair (Ty.int IntKind.i64) (Ty.pair (Ty.int IntKind.i64) (Ty.pair (Ty.int IntKind.i64) (Ty.int IntKind.i64))))))) y0 (Int.toNat y4)).1 (at_ (Ty.pair (Ty.int IntKind.i64) (Ty.pair (Ty.int IntKind.i64) (Ty.pair (Ty.int IntKind.i64) (Ty.pair (Ty.int IntKind.i64) (Ty.pair (Ty.int IntKind.i64) (Ty.pair (Ty.int IntKind.i64) (Ty.int IntKind.i64))))))) y0 (Int.toNat y4)).2.1 (at_ (Ty.pair (Ty.int IntKind.i64) (Ty.pair (Ty.int IntKind.i64) (Ty.pair (Ty.int IntKind.i64) (Ty.pair (Ty.int IntKind.i64) (Ty.pair (Ty.int IntKind.i64) (Ty.pair (Ty.int IntKind.i64) (Ty.int IntKind.i64))))))) y0 (Int.toNat y4)).2.2.1 (at_ (Ty.pair (Ty.int IntKind.i64) (Ty.pair (Ty.int IntKind.i64) (Ty.pair (Ty.int IntKind.i64) (Ty.pair (Ty.int IntKind.i64) (Ty.pair (Ty.int IntKind.i64) (Ty.pair (Ty.int IntKind.i64) (Ty.int IntKind.i64))))))) y0 (Int.toNat y4)).2.2.2.1 (at_ (Ty.pair (Ty.int IntKind.i64) (Ty.pair (Ty.int IntKind.i64) (Ty.pair (Ty.int IntKind.i64) (Ty.pair (Ty.int IntKind.i64) (Ty.pair (Ty.int IntKind.i64) (Ty.pair (Ty.int IntKind.i64) (Ty.int IntKind.i64))))))) y0 (Int.toNat y4)).2.2.2.2.1 (at_ (Ty.pair (Ty.int IntKind.i64) (Ty.pair (Ty.int IntKind.i64) (Ty.pair (Ty.int IntKind.i64) (Ty.pair (Ty.int IntKind.i64) (Ty.pair (Ty.int IntKind.i64) (Ty.pair (Ty.int IntKind.i64) (Ty.int IntKind.i64))))))) y0 (Int.toNat y4)).2.2.2.2.2.1 (at_ (Ty.pair (Ty.int IntKind.i64) (Ty.pair (Ty.int IntKind.i64) (Ty.pair (Ty.int IntKind.i64) (Ty.pair (Ty.int IntKind.i64) (Ty.pair (Ty.int IntKind.i64) (Ty.pair (Ty.int IntKind.i64) (Ty.int IntKind.i64))))))) y0 (Int.toNat y4)).2.2.2.2.2.2) (.out (.inl ((false,y3)))) (.br (true) (.go ((g_Vi_GloDo_0 y3 y4 (at_ (Ty.pair (Ty.int IntKind.i64) (Ty.pair (Ty.int IntKind.i64) (Ty.pair (Ty.int IntKind.i64) (Ty.pair (Ty.int IntKind.i64) (Ty.pair (Ty.int IntKind.i64) (Ty.pair (Ty.int IntKind.i64) (Ty.int IntKind.i64))))))) y0 (Int.toNat y4)).1 (at_ (Ty.pair (Ty.int IntKind.i64) (Ty.pair (Ty.int IntKind.i64) (Ty.pair (Ty.int IntKind.i64) (Ty.pair (Ty.int IntKind.i64) (Ty.pair (Ty.int IntKind.i64) (Ty.pair (Ty.int IntKind.i64) (Ty.int IntKind.i64))))))) y0 (Int.toNat y4)).2.1 (at_ (Ty.pair (Ty.int IntKind.i64) (Ty.pair (Ty.int IntKind.i64) (Ty.pair (Ty.int IntKind.i64) (Ty.pair (Ty.int IntKind.i64) (Ty.pair (Ty.int IntKind.i64) (Ty.pair (Ty.int IntKind.i64) (Ty.int IntKind.i64))))))) y0 (Int.toNat y4)).2.2.1 (at_ (Ty.pair (Ty.int IntKind.i64) (Ty.pair (Ty.int IntKind.i64) (Ty.pair (Ty.int IntKind.i64) (Ty.pair (Ty.int IntKind.i64) (Ty.pair (Ty.int IntKind.i64) (Ty.pair (Ty.int IntKind.i64) (Ty.int IntKind.i64))))))) y0 (Int.toNat y4)).2.2.2.1 (at_ (Ty.pair (Ty.int IntKind.i64) (Ty.pair (Ty.int IntKind.i64) (Ty.pair (Ty.int IntKind.i64) (Ty.pair (Ty.int IntKind.i64) (Ty.pair (Ty.int IntKind.i64) (Ty.pair (Ty.int IntKind.i64) (Ty.int IntKind.i64))))))) y0 (Int.toNat y4)).2.2.2.2.1 (at_ (Ty.pair (Ty.int IntKind.i64) (Ty.pair (Ty.int IntKind.i64) (Ty.pair (Ty.int IntKind.i64) (Ty.pair (Ty.int IntKind.i64) (Ty.pair (Ty.int IntKind.i64) (Ty.pair (Ty.int IntKind.i64) (Ty.int IntKind.i64))))))) y0 (Int.toNat y4)).2.2.2.2.2.1 (at_ (Ty.pair (Ty.int IntKind.i64) (Ty.pair (Ty.int IntKind.i64) (Ty.pair (Ty.int IntKind.i64) (Ty.pair (Ty.int IntKind.i64) (Ty.pair (Ty.int IntKind.i64) (Ty.pair (Ty.int IntKind.i64) (Ty.int IntKind.i64))))))) y0 (Int.toNat y4)).2.2.2.2.2.2,IntKind.wrap IntKind.i64 (y4 + (1:Int))))) .bad)) .bad) .bad) .bad) (.br (true) (.go ((y3,IntKind.wrap IntKind.i64 (y4 + (1:Int))))) .bad)) .bad) .bad) (.out (.inr (y3)))) .bad
noncomputable def g_Lw_FnGloNone_0 (y0:List (Int×(Int×(Int×(Int×(Int×(Int×Int))))))) (y1:List (List (ByteArray×(List Int)))) (y2:List Bool) (x:(List (List (ByteArray×(List Int))))×Int):Option ((Bool×(List (List (ByteArray×(List Int))))) ⊕ ((List (List (ByteArray×(List Int)))))) := loopO (g_Sw_FnGloNone_0 y0 y1 y2) x
noncomputable def xw_FnGloNone_0 (y0:List (Int×(Int×(Int×(Int×(Int×(Int×Int))))))) (y1:List (List (ByteArray×(List Int)))) (y2:List Bool):((Bool×(List (List (ByteArray×(List Int))))) ⊕ ((List (List (ByteArray×(List Int)))))) → Ex×List (Pl×LV) := fun
 | .inl r => (.ret,[(.T 2,.t (.val false [.bool r.1])),(.T 4,.t (.val false [.row 4 0 0])),(.R 4 0,.r 0 (some ⟨false,.any,true,32,(.sl 42 (.pair .str (.sl 3 (.int .i64)))),y1⟩)),(.T 6,.t (.val false [.row 6 0 0])),(.R 6 0,.r 0 (some ⟨false,.any,true,32,(.sl 42 (.pair .str (.sl 3 (.int .i64)))),r.2⟩))])
 | .inr (r) => (.exit 0,[(.T 2,.t (.val false [.undef])),(.T 4,.t (.val false [.row 4 0 0])),(.R 4 0,.r 0 (some ⟨false,.any,true,32,(.sl 42 (.pair .str (.sl 3 (.int .i64)))),y1⟩)),(.T 6,.t (.val false [.row 6 0 0])),(.R 6 0,.r 0 (some ⟨false,.any,true,32,(.sl 42 (.pair .str (.sl 3 (.int .i64)))),r⟩))])
noncomputable def Ow_FnGloNone_1:Orc := fun b h => match b,h with
 | 0,[(.T 3,.t (.val false [.row 3 0 0])),(.R 3 0,.r 0 (some ⟨false,.any,true,24,(.pair (.int .i64) (.pair (.int .i64) (.pair (.int .i64) (.pair (.int .i64) (.pair (.int .i64) (.pair (.int .i64) (.int .i64))))))),y0⟩)),(.T 4,.t (.val false [.row 4 0 0])),(.R 4 0,.r 0 (some ⟨false,.any,true,32,(.sl 42 (.pair .str (.sl 3 (.int .i64)))),y1⟩)),(.T 5,.t (.val false [.row 5 0 0])),(.R 5 0,.r 0 (some ⟨false,.any,true,4,.bool,y2⟩)),(.T 6,.t (.val false [.row 6 0 0])),(.R 6 0,.r 0 (some ⟨false,.any,true,32,(.sl 42 (.pair .str (.sl 3 (.int .i64)))),y3⟩)),(.T 7,.t (.val false [.int .i64 y4]))] => some (okO (g_Lw_FnGloNone_0 y0 y1 y2 (y3,y4)),(.br (isL (valO (g_Lw_FnGloNone_0 y0 y1 y2 (y3,y4)))) (.leaf .ret [(.T 2,.t (.val false [.bool (getL (valO (g_Lw_FnGloNone_0 y0 y1 y2 (y3,y4)))).1])),(.T 4,.t (.val false [.row 4 0 0])),(.R 4 0,.r 0 (some ⟨false,.any,true,32,(.sl 42 (.pair .str (.sl 3 (.int .i64)))),y1⟩)),(.T 6,.t (.val false [.row 6 0 0])),(.R 6 0,.r 0 (some ⟨false,.any,true,32,(.sl 42 (.pair .str (.sl 3 (.int .i64)))),(getL (valO (g_Lw_FnGloNone_0 y0 y1 y2 (y3,y4)))).2⟩))]) (.leaf (.exit 0) [(.T 2,.t (.val false [.undef])),(.T 4,.t (.val false [.row 4 0 0])),(.R 4 0,.r 0 (some ⟨false,.any,true,32,(.sl 42 (.pair .str (.sl 3 (.int .i64)))),y1⟩)),(.T 6,.t (.val false [.row 6 0 0])),(.R 6 0,.r 0 (some ⟨false,.any,true,32,(.sl 42 (.pair .str (.sl 3 (.int .i64)))),(getR (valO (g_Lw_FnGloNone_0 y0 y1 y2 (y3,y4))))⟩))])))
 | b,h => Ow_FnGloNone_0 b h
theorem bw_FnGloNone_0 (y0:List (Int×(Int×(Int×(Int×(Int×(Int×Int))))))) (y1:List (List (ByteArray×(List Int)))) (y2:List Bool) (y3:List (List (ByteArray×(List Int)))) (y4:Int):Tr.bt Ew_FnGloNone Ow_FnGloNone_0 (exec Ew_FnGloNone 0 cw_FnGloNone_0 (St.of (hw_FnGloNone_0 y0 y1 y2 y3 y4)) (leafRd Ew_FnGloNone 0)) = (g_Sw_FnGloNone_0 y0 y1 y2 (y3,y4)).bt (fun ((y3,y4):(List (List (ByteArray×(List Int))))×Int) => (hw_FnGloNone_0 y0 y1 y2 y3 y4)) (xw_FnGloNone_0 y0 y1 y2) := by kernel_rfl
theorem kw_FnGloNone_1:OrcOk Ew_FnGloNone Ow_FnGloNone_1 lsw_FnGloNone 1 := orc_add kw_FnGloNone_0 (fun n p hp h ex h' ho => by
 obtain ⟨b,c⟩ := p
 obtain ⟨xt,h1,h2⟩ := ho
 have h1:Ow_FnGloNone_1 b h = some (true,xt) := h1
 unfold Ow_FnGloNone_1 at h1
 split at h1
 ·injection h1 with h1
  injection h1 with e1 e2
  subst e2
  have hc:c = cw_FnGloNone_0 := mw_FnGloNone_0 _ hp rfl
  subst hc
  right
  rename_i y0 y1 y2 y3 y4
  have key := LT_step kw_FnGloNone_0 hp (fun q hq => loopsAll_in _ _ _ _ hp hq) (fun ((y3,y4):(List (List (ByteArray×(List Int))))×Int) => (hw_FnGloNone_0 y0 y1 y2 y3 y4)) (xw_FnGloNone_0 y0 y1 y2) (g_Sw_FnGloNone_0 y0 y1 y2) (fun x => by first | exact bw_FnGloNone_0 y0 y1 y2 x.1 x.2) n (x := (y3,y4)) (okO_some e1)
  have hx:∀ r,XT.sel (.br (isL r) (.leaf .ret [(.T 2,.t (.val false [.bool (getL r).1])),(.T 4,.t (.val false [.row 4 0 0])),(.R 4 0,.r 0 (some ⟨false,.any,true,32,(.sl 42 (.pair .str (.sl 3 (.int .i64)))),y1⟩)),(.T 6,.t (.val false [.row 6 0 0])),(.R 6 0,.r 0 (some ⟨false,.any,true,32,(.sl 42 (.pair .str (.sl 3 (.int .i64)))),(getL r).2⟩))]) (.leaf (.exit 0) [(.T 2,.t (.val false [.undef])),(.T 4,.t (.val false [.row 4 0 0])),(.R 4 0,.r 0 (some ⟨false,.any,true,32,(.sl 42 (.pair .str (.sl 3 (.int .i64)))),y1⟩)),(.T 6,.t (.val false [.row 6 0 0])),(.R 6 0,.r 0 (some ⟨false,.any,true,32,(.sl 42 (.pair .str (.sl 3 (.int .i64)))),(getR r)⟩))])) = xw_FnGloNone_0 y0 y1 y2 r := fun r => by first | rfl | (rcases r with r | r <;> rfl) | (rcases r with r | r | r <;> rfl) | (rcases r with r | r | r | r <;> rfl)
  have h3 := (hx (valO (g_Lw_FnGloNone_0 y0 y1 y2 (y3,y4)))).symm.trans h2
  have e3 := congrArg Prod.fst h3
  have e4 := congrArg Prod.snd h3
  simp only at e3 e4
  rw [← e3,← e4]
  exact key
 ·exact .inl ⟨xt,h1,h2⟩)
noncomputable def g_Aw_FnGloNone (a0:List Int):Bool := decide ((↑(List.length a0):Int) > (1048576:Int)) || g_As_DrawGloPlay a0&&(g_Aw_jaGlo (g_Vs_DrawGloPlay_0 a0)&&(okO (g_Lw_FnGloNone_0 (g_Vs_DrawGloPlay_0 a0) (g_Vw_jaGlo_0 (g_Vs_DrawGloPlay_0 a0)) (g_Vw_jaGlo_1 (g_Vs_DrawGloPlay_0 a0)) (g_Vi_GloNew_0,(0:Int)))&&(isL (valO (g_Lw_FnGloNone_0 (g_Vs_DrawGloPlay_0 a0) (g_Vw_jaGlo_0 (g_Vs_DrawGloPlay_0 a0)) (g_Vw_jaGlo_1 (g_Vs_DrawGloPlay_0 a0)) (g_Vi_GloNew_0,(0:Int)))) || g_Aw_jaStos (getR (valO (g_Lw_FnGloNone_0 (g_Vs_DrawGloPlay_0 a0) (g_Vw_jaGlo_0 (g_Vs_DrawGloPlay_0 a0)) (g_Vw_jaGlo_1 (g_Vs_DrawGloPlay_0 a0)) (g_Vi_GloNew_0,(0:Int))))) (g_Vw_jaGlo_0 (g_Vs_DrawGloPlay_0 a0))&&(!g_Vw_jaStos_0 (getR (valO (g_Lw_FnGloNone_0 (g_Vs_DrawGloPlay_0 a0) (g_Vw_jaGlo_0 (g_Vs_DrawGloPlay_0 a0)) (g_Vw_jaGlo_1 (g_Vs_DrawGloPlay_0 a0)) (g_Vi_GloNew_0,(0:Int))))) (g_Vw_jaGlo_0 (g_Vs_DrawGloPlay_0 a0)) || g_Ai_GloOk (getR (valO (g_Lw_FnGloNone_0 (g_Vs_DrawGloPlay_0 a0) (g_Vw_jaGlo_0 (g_Vs_DrawGloPlay_0 a0)) (g_Vw_jaGlo_1 (g_Vs_DrawGloPlay_0 a0)) (g_Vi_GloNew_0,(0:Int)))))))))
noncomputable def g_Vw_FnGloNone_0 (a0:List Int):Bool := bif decide ((↑(List.length a0):Int) > (1048576:Int)) then true else bif isL (valO (g_Lw_FnGloNone_0 (g_Vs_DrawGloPlay_0 a0) (g_Vw_jaGlo_0 (g_Vs_DrawGloPlay_0 a0)) (g_Vw_jaGlo_1 (g_Vs_DrawGloPlay_0 a0)) (g_Vi_GloNew_0,(0:Int)))) then (getL (valO (g_Lw_FnGloNone_0 (g_Vs_DrawGloPlay_0 a0) (g_Vw_jaGlo_0 (g_Vs_DrawGloPlay_0 a0)) (g_Vw_jaGlo_1 (g_Vs_DrawGloPlay_0 a0)) (g_Vi_GloNew_0,(0:Int))))).1 else bif g_Vw_jaStos_0 (getR (valO (g_Lw_FnGloNone_0 (g_Vs_DrawGloPlay_0 a0) (g_Vw_jaGlo_0 (g_Vs_DrawGloPlay_0 a0)) (g_Vw_jaGlo_1 (g_Vs_DrawGloPlay_0 a0)) (g_Vi_GloNew_0,(0:Int))))) (g_Vw_jaGlo_0 (g_Vs_DrawGloPlay_0 a0)) then g_Vi_GloOk_0 (getR (valO (g_Lw_FnGloNone_0 (g_Vs_DrawGloPlay_0 a0) (g_Vw_jaGlo_0 (g_Vs_DrawGloPlay_0 a0)) (g_Vw_jaGlo_1 (g_Vs_DrawGloPlay_0 a0)) (g_Vi_GloNew_0,(0:Int))))) else false
noncomputable def Fw_FnGloNone:FSem := fun ys => match ys with
 | [.val false [.sl .any 5 (.int .u8) a0]] => some ((g_Aw_FnGloNone a0),.val false [.bool (g_Vw_FnGloNone_0 a0)],[])
 | _ => none
theorem vw_FnGloNone (a0:List Int):collapseH .std Ew_FnGloNone Ow_FnGloNone_1 (execFn Ew_FnGloNone Tryd.f11 msw_FnGloNone [.val false [.sl .any 5 (.int .u8) a0]]) = some ((g_Aw_FnGloNone a0),.val false [.bool (g_Vw_FnGloNone_0 a0)],[]) := by kernel_rfl
theorem sw_FnGloNone:Sound Tryd.prog 11 msw_FnGloNone Fw_FnGloNone := by
 refine fn_gen goodw_FnGloNone (by kernel_rfl) .std (fn := Tryd.f11) (c := (Tryd.f11.body.getD .skip)) (o := Ow_FnGloNone_1) (k := 1) (by kernel_rfl) (by kernel_rfl) (by kernel_rfl) (by kernel_rfl) (by decide) kw_FnGloNone_1 ?_
 intro ys r outs h
 unfold Fw_FnGloNone at h
 split at h
 ·exact (vw_FnGloNone _).trans h
 ·cases h
noncomputable def g_Vs_l3Digit_0 (a0:Int):ByteArray := { data := List.toArray (List.map (fun n => UInt8.ofNat (Int.toNat n)) [IntKind.wrap IntKind.u8 (IntKind.wrap IntKind.i64 ((48:Int) + a0))]) }
noncomputable def g_Ss_l3Plain_0:(Int×ByteArray) → RT (Int×ByteArray) ((Int×ByteArray))
 | (y0,y1) => .br (true) (.br (decide (y0 > (9:Int))) (.br (true) (.br (true) (.br (decide (ByteArray.size (g_Vs_l3Digit_0 (Int.tmod y0 (10:Int))) + ByteArray.size y1 ≤ nat_lit 9223372036854775807)) (.br (true) (.go ((IntKind.wrap IntKind.i64 (Int.tdiv y0 (10:Int)),g_Vs_l3Digit_0 (Int.tmod y0 (10:Int)) ++ y1))) .bad) .bad) .bad) .bad) (.out ((y0,y1)))) .bad
noncomputable def g_Ls_l3Plain_0 (x:Int×ByteArray):Option ((Int×ByteArray)) := loopO (g_Ss_l3Plain_0) x
noncomputable def g_As_l3Plain (a0:Int):Bool := okO (g_Ls_l3Plain_0 (a0,lit []))&&decide (ByteArray.size (g_Vs_l3Digit_0 (valO (g_Ls_l3Plain_0 (a0,lit []))).1) + ByteArray.size (valO (g_Ls_l3Plain_0 (a0,lit []))).2 ≤ nat_lit 9223372036854775807)
noncomputable def g_Vs_l3Plain_0 (a0:Int):ByteArray := g_Vs_l3Digit_0 (valO (g_Ls_l3Plain_0 (a0,lit []))).1 ++ (valO (g_Ls_l3Plain_0 (a0,lit []))).2
noncomputable def g_As_l1In (a0:Int) (a1:Int) (a2:Int):Bool := !decide (a0 ≥ a1) || true
noncomputable def g_Vs_l1In_0 (a0:Int) (a1:Int) (a2:Int):Bool := bif decide (a0 ≥ a1) then decide (a0 ≤ a2) else false
noncomputable def g_Vs_SecSum_0 (a0:Int):Int := bif !g_Vs_l1In_0 a0 (0:Int) (99:Int) then (-1:Int) else Int.tmod (IntKind.wrap IntKind.i64 (IntKind.wrap IntKind.i64 (a0 * (7919:Int)) + (104:Int))) (9973:Int)
end Go.Proofs.YtliagpcoflhphaaDoor.E
