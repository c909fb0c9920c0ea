/- What the functions that are reached do, by the engine: for the proof (laws.FnGloTheft): part 2. No conditions. -/
import Derived.Test.YtliagpcoflhphaaDoorGa
import Derived.Test.YtliagpcoflhphaaDoorProg
import Derived.Test.YtliagpcoflhphaaDoorShelf
set_option linter.all false
namespace Go.Proofs.YtliagpcoflhphaaDoor.E
open Go
set_option maxRecDepth 100000
set_option maxHeartbeats 0
noncomputable def Ei_StoDo:Env where
 tt := mkTI Tryd.prog
 fn := fun f => match f with
  | 30 => some (msi_StoStore_copied,FSem.wk msi_StoStore_copied Fi_StoStore_copied)
  | 39 => some (msi_StoOk,FSem.wk msi_StoOk Fi_StoOk)
  | 66 => some (msslices_ContainsFunc_i_StoWrite_i_StoWrite__i_StoDo_1,FSem.wk msslices_ContainsFunc_i_StoWrite_i_StoWrite__i_StoDo_1 Fslices_ContainsFunc_i_StoWrite_i_StoWrite__i_StoDo_1)
  | 68 => some (msi_StoStore_write,FSem.wk msi_StoStore_write Fi_StoStore_write)
  | _ => none
 bxf := fun _ => none
 mv := []
 keep := fun b => match b with
  | 0 => [(4,false),(5,false),(18,false),(19,false),(20,false)]
  | _ => []
 keepB := fun b => match b with
  | 0 => [(4,false),(5,false)]
  | _ => []
 keepX := fun b => match b with
  | 0 => [(4,false),(5,false)]
  | _ => []
 keepXB := fun b => match b with
  | 0 => [(4,false),(5,false)]
  | _ => []
theorem goodFi_StoDo:∀ f ms F,Ei_StoDo.fn f = some (ms,F) → Sound Tryd.prog f ms F := fun f ms F h => by
 unfold Ei_StoDo at h
 dsimp only at h
 split at h
 ·injection h with h; injection h with e1 e2; subst e1 e2; exact Sound.wk si_StoStore_copied
 ·injection h with h; injection h with e1 e2; subst e1 e2; exact Sound.wk si_StoOk
 ·injection h with h; injection h with e1 e2; subst e1 e2; exact Sound.wk sslices_ContainsFunc_i_StoWrite_i_StoWrite__i_StoDo_1
 ·injection h with h; injection h with e1 e2; subst e1 e2; exact Sound.wk si_StoStore_write
 ·cases h
theorem goodBi_StoDo:∀ f ms F,Ei_StoDo.bxf f = some (ms,F) → SoundB Tryd.prog f ms F := fun f ms F h => by cases h
theorem goodi_StoDo:Good Tryd.prog Ei_StoDo := ⟨rfl,goodFi_StoDo,goodBi_StoDo⟩
noncomputable def Oi_StoDo_0:Orc := fun _ _ => none
noncomputable def msi_StoDo:List PM := [.rd,.rd]
noncomputable def lsi_StoDo:List (Nat×Code) := loopsAll 0 (Tryd.f33.body.getD .skip)
noncomputable def ci_StoDo_0:Code := (loopOf 0 (Tryd.f33.body.getD .skip)).getD .skip
theorem lseqi_StoDo:lsi_StoDo = [(0,ci_StoDo_0)] := by kernel_rfl
theorem mi_StoDo_0:∀ p,p ∈ lsi_StoDo → p.1 = 0 → p.2 = ci_StoDo_0 := by
 intro p hp
 rw [lseqi_StoDo] at hp
 simp only [List.mem_cons,List.not_mem_nil,or_false] at hp
 subst hp; simp
theorem ki_StoDo_0:OrcOk Ei_StoDo Oi_StoDo_0 lsi_StoDo 0 := orcOk_none
noncomputable def hi_StoDo_0 (y0:List (ByteArray×(Bool×(List Int)))) (y1:Int) (y2:Int) (y3:List (ByteArray×(List Int))) (y4:List (ByteArray×(List Int))):List (Pl×LV) := [(.T 4,.t (.val false [.ptr 4 0 0])),(.T 5,.t (.val false [.ptr 5 0 0])),(.T 18,.t (.val false [.sl .any 76 (.pair .str (.pair .bool (.sl 3 (.int .i64)))) y0])),(.T 19,.t (.val false [.int .i64 y1])),(.T 20,.t (.val false [.int .i64 y2])),(.B 4,.b 0 false [.row 4 1 0]),(.R 4 1,.r 0 (some ⟨false,.any,true,42,(.pair .str (.sl 3 (.int .i64))),y3⟩)),(.B 5,.b 0 false [.row 5 1 0]),(.R 5 1,.r 0 (some ⟨false,.any,true,42,(.pair .str (.sl 3 (.int .i64))),y4⟩))]
noncomputable def g_Si_StoDo_0 (y0:List (ByteArray×(Bool×(List Int)))) (y1:Int) (y3:List (ByteArray×(List Int))):(Int×(List (ByteArray×(List Int)))) → RT (Int×(List (ByteArray×(List Int)))) (((List (ByteArray×(List Int)))×(List (ByteArray×(List Int)))) ⊕ ((List (ByteArray×(List Int)))))
 | (y2,y4) => .br (true) (.br (decide (y2 < y1)) (.br (decide ((0:Int) ≤ y2 ∧ y2 < (↑(List.length y0):Int))) (.br (g_Ai_StoStore_write y4 (at_ (Ty.pair Ty.str (Ty.pair Ty.bool (Ty.sl (nat_lit 3) (Ty.int IntKind.i64)))) y0 (Int.toNat y2)).1 (at_ (Ty.pair Ty.str (Ty.pair Ty.bool (Ty.sl (nat_lit 3) (Ty.int IntKind.i64)))) y0 (Int.toNat y2)).2.1 (at_ (Ty.pair Ty.str (Ty.pair Ty.bool (Ty.sl (nat_lit 3) (Ty.int IntKind.i64)))) y0 (Int.toNat y2)).2.2) (.br (true) (.br (decide ((↑(List.length (g_Vi_StoStore_write_0 y4 (at_ (Ty.pair Ty.str (Ty.pair Ty.bool (Ty.sl (nat_lit 3) (Ty.int IntKind.i64)))) y0 (Int.toNat y2)).1 (at_ (Ty.pair Ty.str (Ty.pair Ty.bool (Ty.sl (nat_lit 3) (Ty.int IntKind.i64)))) y0 (Int.toNat y2)).2.1 (at_ (Ty.pair Ty.str (Ty.pair Ty.bool (Ty.sl (nat_lit 3) (Ty.int IntKind.i64)))) y0 (Int.toNat y2)).2.2)):Int) > (40:Int))) (.out (.inl (([],g_Vi_StoStore_write_0 y4 (at_ (Ty.pair Ty.str (Ty.pair Ty.bool (Ty.sl (nat_lit 3) (Ty.int IntKind.i64)))) y0 (Int.toNat y2)).1 (at_ (Ty.pair Ty.str (Ty.pair Ty.bool (Ty.sl (nat_lit 3) (Ty.int IntKind.i64)))) y0 (Int.toNat y2)).2.1 (at_ (Ty.pair Ty.str (Ty.pair Ty.bool (Ty.sl (nat_lit 3) (Ty.int IntKind.i64)))) y0 (Int.toNat y2)).2.2)))) (.br (true) (.go ((IntKind.wrap IntKind.i64 (y2 + (1:Int)),g_Vi_StoStore_write_0 y4 (at_ (Ty.pair Ty.str (Ty.pair Ty.bool (Ty.sl (nat_lit 3) (Ty.int IntKind.i64)))) y0 (Int.toNat y2)).1 (at_ (Ty.pair Ty.str (Ty.pair Ty.bool (Ty.sl (nat_lit 3) (Ty.int IntKind.i64)))) y0 (Int.toNat y2)).2.1 (at_ (Ty.pair Ty.str (Ty.pair Ty.bool (Ty.sl (nat_lit 3) (Ty.int IntKind.i64)))) y0 (Int.toNat y2)).2.2))) .bad)) .bad) .bad) .bad) (.out (.inr (y4)))) .bad
noncomputable def g_Li_StoDo_0 (y0:List (ByteArray×(Bool×(List Int)))) (y1:Int) (y3:List (ByteArray×(List Int))) (x:Int×(List (ByteArray×(List Int)))):Option (((List (ByteArray×(List Int)))×(List (ByteArray×(List Int)))) ⊕ ((List (ByteArray×(List Int))))) := loopO (g_Si_StoDo_0 y0 y1 y3) x
noncomputable def xi_StoDo_0 (y0:List (ByteArray×(Bool×(List Int)))) (y1:Int) (y3:List (ByteArray×(List Int))):(((List (ByteArray×(List Int)))×(List (ByteArray×(List Int)))) ⊕ ((List (ByteArray×(List Int))))) → Ex×List (Pl×LV) := fun
 | .inl r => (.ret,[(.T 4,.t (.val false [.ptr 4 0 0])),(.T 5,.t (.val false [.ptr 5 0 0])),(.B 4,.b 0 false [.row 4 1 0]),(.R 4 1,.r 0 (some ⟨false,.any,true,42,(.pair .str (.sl 3 (.int .i64))),r.1⟩)),(.B 5,.b 0 false [.row 5 1 0]),(.R 5 1,.r 0 (some ⟨false,.any,true,42,(.pair .str (.sl 3 (.int .i64))),r.2⟩))])
 | .inr (r) => (.exit 0,[(.T 4,.t (.val false [.ptr 4 0 0])),(.T 5,.t (.val false [.ptr 5 0 0])),(.B 4,.b 0 false [.row 4 1 0]),(.R 4 1,.r 0 (some ⟨false,.any,true,42,(.pair .str (.sl 3 (.int .i64))),y3⟩)),(.B 5,.b 0 false [.row 5 1 0]),(.R 5 1,.r 0 (some ⟨false,.any,true,42,(.pair .str (.sl 3 (.int .i64))),r⟩))])
noncomputable def Oi_StoDo_1:Orc := fun b h => match b,h with
 | 0,[(.T 4,.t (.val false [.ptr 4 0 0])),(.T 5,.t (.val false [.ptr 5 0 0])),(.T 18,.t (.val false [.sl .any 76 (.pair .str (.pair .bool (.sl 3 (.int .i64)))) y0])),(.T 19,.t (.val false [.int .i64 y1])),(.T 20,.t (.val false [.int .i64 y2])),(.B 4,.b 0 false [.row 4 1 0]),(.R 4 1,.r 0 (some ⟨false,.any,true,42,(.pair .str (.sl 3 (.int .i64))),y3⟩)),(.B 5,.b 0 false [.row 5 1 0]),(.R 5 1,.r 0 (some ⟨false,.any,true,42,(.pair .str (.sl 3 (.int .i64))),y4⟩))] => some (okO (g_Li_StoDo_0 y0 y1 y3 (y2,y4)),(.br (isL (valO (g_Li_StoDo_0 y0 y1 y3 (y2,y4)))) (.leaf .ret [(.T 4,.t (.val false [.ptr 4 0 0])),(.T 5,.t (.val false [.ptr 5 0 0])),(.B 4,.b 0 false [.row 4 1 0]),(.R 4 1,.r 0 (some ⟨false,.any,true,42,(.pair .str (.sl 3 (.int .i64))),(getL (valO (g_Li_StoDo_0 y0 y1 y3 (y2,y4)))).1⟩)),(.B 5,.b 0 false [.row 5 1 0]),(.R 5 1,.r 0 (some ⟨false,.any,true,42,(.pair .str (.sl 3 (.int .i64))),(getL (valO (g_Li_StoDo_0 y0 y1 y3 (y2,y4)))).2⟩))]) (.leaf (.exit 0) [(.T 4,.t (.val false [.ptr 4 0 0])),(.T 5,.t (.val false [.ptr 5 0 0])),(.B 4,.b 0 false [.row 4 1 0]),(.R 4 1,.r 0 (some ⟨false,.any,true,42,(.pair .str (.sl 3 (.int .i64))),y3⟩)),(.B 5,.b 0 false [.row 5 1 0]),(.R 5 1,.r 0 (some ⟨false,.any,true,42,(.pair .str (.sl 3 (.int .i64))),(getR (valO (g_Li_StoDo_0 y0 y1 y3 (y2,y4))))⟩))])))
 | b,h => Oi_StoDo_0 b h
theorem bi_StoDo_0 (y0:List (ByteArray×(Bool×(List Int)))) (y1:Int) (y2:Int) (y3:List (ByteArray×(List Int))) (y4:List (ByteArray×(List Int))):Tr.bt Ei_StoDo Oi_StoDo_0 (exec Ei_StoDo 0 ci_StoDo_0 (St.of (hi_StoDo_0 y0 y1 y2 y3 y4)) (leafRd Ei_StoDo 0)) = (g_Si_StoDo_0 y0 y1 y3 (y2,y4)).bt (fun ((y2,y4):Int×(List (ByteArray×(List Int)))) => (hi_StoDo_0 y0 y1 y2 y3 y4)) (xi_StoDo_0 y0 y1 y3) := by kernel_rfl
theorem ki_StoDo_1:OrcOk Ei_StoDo Oi_StoDo_1 lsi_StoDo 1 := orc_add ki_StoDo_0 (fun n p hp h ex h' ho => by
 obtain ⟨b,c⟩ := p
 obtain ⟨xt,h1,h2⟩ := ho
 have h1:Oi_StoDo_1 b h = some (true,xt) := h1
 unfold Oi_StoDo_1 at h1
 split at h1
 ·injection h1 with h1
  injection h1 with e1 e2
  subst e2
  have hc:c = ci_StoDo_0 := mi_StoDo_0 _ hp rfl
  subst hc
  right
  rename_i y0 y1 y2 y3 y4
  have key := LT_step ki_StoDo_0 hp (fun q hq => loopsAll_in _ _ _ _ hp hq) (fun ((y2,y4):Int×(List (ByteArray×(List Int)))) => (hi_StoDo_0 y0 y1 y2 y3 y4)) (xi_StoDo_0 y0 y1 y3) (g_Si_StoDo_0 y0 y1 y3) (fun x => by first | exact bi_StoDo_0 y0 y1 x.1 y3 x.2) n (x := (y2,y4)) (okO_some e1)
  have hx:∀ r,XT.sel (.br (isL r) (.leaf .ret [(.T 4,.t (.val false [.ptr 4 0 0])),(.T 5,.t (.val false [.ptr 5 0 0])),(.B 4,.b 0 false [.row 4 1 0]),(.R 4 1,.r 0 (some ⟨false,.any,true,42,(.pair .str (.sl 3 (.int .i64))),(getL r).1⟩)),(.B 5,.b 0 false [.row 5 1 0]),(.R 5 1,.r 0 (some ⟨false,.any,true,42,(.pair .str (.sl 3 (.int .i64))),(getL r).2⟩))]) (.leaf (.exit 0) [(.T 4,.t (.val false [.ptr 4 0 0])),(.T 5,.t (.val false [.ptr 5 0 0])),(.B 4,.b 0 false [.row 4 1 0]),(.R 4 1,.r 0 (some ⟨false,.any,true,42,(.pair .str (.sl 3 (.int .i64))),y3⟩)),(.B 5,.b 0 false [.row 5 1 0]),(.R 5 1,.r 0 (some ⟨false,.any,true,42,(.pair .str (.sl 3 (.int .i64))),(getR r)⟩))])) = xi_StoDo_0 y0 y1 y3 r := fun r => by first | rfl | (rcases r with r | r <;> rfl) | (rcases r with r | r | r <;> rfl) | (rcases r with r | r | r | r <;> rfl)
  have h3 := (hx (valO (g_Li_StoDo_0 y0 y1 y3 (y2,y4)))).symm.trans h2
  have e3 := congrArg Prod.fst h3
  have e4 := congrArg Prod.snd h3
  simp only at e3 e4
  rw [← e3,← e4]
  exact key
 ·exact .inl ⟨xt,h1,h2⟩)
noncomputable def g_Ai_StoDo (a0:List (ByteArray×(List Int))) (a1:List (ByteArray×(Bool×(List Int)))):Bool := g_Ai_StoOk a0&&(!g_Vi_StoOk_0 a0 || g_Aslices_ContainsFunc_i_StoWrite_i_StoWrite__i_StoDo_1 a1&&(g_Vslices_ContainsFunc_i_StoWrite_i_StoWrite__i_StoDo_1_0 a1 || g_Ai_StoStore_copied a0&&okO (g_Li_StoDo_0 a1 (↑(List.length a1):Int) [] ((0:Int),g_Vi_StoStore_copied_0 a0))))
noncomputable def g_Vi_StoDo_0 (a0:List (ByteArray×(List Int))) (a1:List (ByteArray×(Bool×(List Int)))):List (ByteArray×(List Int)) := bif !g_Vi_StoOk_0 a0 then [] else bif g_Vslices_ContainsFunc_i_StoWrite_i_StoWrite__i_StoDo_1_0 a1 then [] else bif isL (valO (g_Li_StoDo_0 a1 (↑(List.length a1):Int) [] ((0:Int),g_Vi_StoStore_copied_0 a0))) then (getL (valO (g_Li_StoDo_0 a1 (↑(List.length a1):Int) [] ((0:Int),g_Vi_StoStore_copied_0 a0)))).1 else getR (valO (g_Li_StoDo_0 a1 (↑(List.length a1):Int) [] ((0:Int),g_Vi_StoStore_copied_0 a0)))
noncomputable def Fi_StoDo:FSem := fun ys => match ys with
 | [.val true [.sl .any 42 (.pair .str (.sl 3 (.int .i64))) a0],.val false [.sl .any 76 (.pair .str (.pair .bool (.sl 3 (.int .i64)))) a1]] => some ((g_Ai_StoDo a0 a1),.val true [.own .any true 42 (.pair .str (.sl 3 (.int .i64))) (g_Vi_StoDo_0 a0 a1)],[])
 | _ => none
theorem vi_StoDo (a0:List (ByteArray×(List Int))) (a1:List (ByteArray×(Bool×(List Int)))):collapseH .std Ei_StoDo Oi_StoDo_1 (execFn Ei_StoDo Tryd.f33 msi_StoDo [.val true [.sl .any 42 (.pair .str (.sl 3 (.int .i64))) a0],.val false [.sl .any 76 (.pair .str (.pair .bool (.sl 3 (.int .i64)))) a1]]) = some ((g_Ai_StoDo a0 a1),.val true [.own .any true 42 (.pair .str (.sl 3 (.int .i64))) (g_Vi_StoDo_0 a0 a1)],[]) := by kernel_rfl
theorem si_StoDo:Sound Tryd.prog 33 msi_StoDo Fi_StoDo := by
 refine fn_gen goodi_StoDo (by kernel_rfl) .std (fn := Tryd.f33) (c := (Tryd.f33.body.getD .skip)) (o := Oi_StoDo_1) (k := 1) (by kernel_rfl) (by kernel_rfl) (by kernel_rfl) (by kernel_rfl) (by decide) ki_StoDo_1 ?_
 intro ys r outs h
 unfold Fi_StoDo at h
 split at h
 ·exact (vi_StoDo _ _).trans h
 ·cases h
noncomputable def Ei_GloDo:Env where
 tt := mkTI Tryd.prog
 fn := fun f => match f with
  | 15 => some (msi_GloOk,FSem.wk msi_GloOk Fi_GloOk)
  | 28 => some (msi_OpOk,FSem.wk msi_OpOk Fi_OpOk)
  | 29 => some (msi_isTx,FSem.wk msi_isTx Fi_isTx)
  | 30 => some (msi_StoStore_copied,FSem.wk msi_StoStore_copied Fi_StoStore_copied)
  | 31 => some (msi_OpPlaces,FSem.wk msi_OpPlaces Fi_OpPlaces)
  | 32 => some (msi_PlcPlan,FSem.wk msi_PlcPlan Fi_PlcPlan)
  | 33 => some (msi_StoDo,FSem.wk msi_StoDo Fi_StoDo)
  | _ => none
 bxf := fun _ => none
 mv := []
 keep := fun b => match b with
  | 0 => [(0,false),(1,false),(5,false),(8,false),(9,false),(28,false),(29,false),(30,false)]
  | 2 => [(0,false),(1,false),(5,false),(8,false),(9,false),(46,false),(47,false),(48,false)]
  | _ => []
 keepB := fun b => match b with
  | 0 => [(5,false)]
  | 2 => [(5,false)]
  | _ => []
 keepX := fun b => match b with
  | 0 => [(0,false),(1,false),(5,false),(8,false),(9,false)]
  | 2 => [(6,false),(7,false),(9,false)]
  | _ => []
 keepXB := fun b => match b with
  | 0 => [(5,false)]
  | 2 => []
  | _ => []
theorem goodFi_GloDo:∀ f ms F,Ei_GloDo.fn f = some (ms,F) → Sound Tryd.prog f ms F := fun f ms F h => by
 unfold Ei_GloDo at h
 dsimp only at h
 split at h
 ·injection h with h; injection h with e1 e2; subst e1 e2; exact Sound.wk si_GloOk
 ·injection h with h; injection h with e1 e2; subst e1 e2; exact Sound.wk si_OpOk
 ·injection h with h; injection h with e1 e2; subst e1 e2; exact Sound.wk si_isTx
 ·injection h with h; injection h with e1 e2; subst e1 e2; exact Sound.wk si_StoStore_copied
 ·injection h with h; injection h with e1 e2; subst e1 e2; exact Sound.wk si_OpPlaces
 ·injection h with h; injection h with e1 e2; subst e1 e2; exact Sound.wk si_PlcPlan
 ·injection h with h; injection h with e1 e2; subst e1 e2; exact Sound.wk si_StoDo
 ·cases h
theorem goodBi_GloDo:∀ f ms F,Ei_GloDo.bxf f = some (ms,F) → SoundB Tryd.prog f ms F := fun f ms F h => by cases h
theorem goodi_GloDo:Good Tryd.prog Ei_GloDo := ⟨rfl,goodFi_GloDo,goodBi_GloDo⟩
noncomputable def Oi_GloDo_0:Orc := fun _ _ => none
noncomputable def msi_GloDo:List PM := [.rd,.own,.own]
noncomputable def lsi_GloDo:List (Nat×Code) := loopsAll 0 (Tryd.f14.body.getD .skip)
noncomputable def ci_GloDo_0:Code := (loopOf 0 (Tryd.f14.body.getD .skip)).getD .skip
noncomputable def ci_GloDo_2:Code := (loopOf 2 (Tryd.f14.body.getD .skip)).getD .skip
theorem lseqi_GloDo:lsi_GloDo = [(0,ci_GloDo_0),(2,ci_GloDo_2)] := by kernel_rfl
theorem mi_GloDo_0:∀ p,p ∈ lsi_GloDo → p.1 = 0 → p.2 = ci_GloDo_0 := by
 intro p hp
 rw [lseqi_GloDo] at hp
 simp only [List.mem_cons,List.not_mem_nil,or_false] at hp
 rcases hp with rfl | rfl <;> simp
theorem mi_GloDo_2:∀ p,p ∈ lsi_GloDo → p.1 = 2 → p.2 = ci_GloDo_2 := by
 intro p hp
 rw [lseqi_GloDo] at hp
 simp only [List.mem_cons,List.not_mem_nil,or_false] at hp
 rcases hp with rfl | rfl <;> simp
theorem ki_GloDo_0:OrcOk Ei_GloDo Oi_GloDo_0 lsi_GloDo 0 := orcOk_none
noncomputable def hi_GloDo_0 (y0:List (List (ByteArray×(List Int)))) (y1:Int) (y2:List (List (ByteArray×(List Int)))) (y3:List (List (ByteArray×(List Int)))) (y4:List (List (ByteArray×(List Int)))) (y5:Int) (y6:Int) (y7:Int) (y8:Int) (y9:Int) (y10:Int) (y11:Int) (y12:Int) (y13:Int):List (Pl×LV) := [(.T 0,.t (.val false [.sl .any 32 (.sl 42 (.pair .str (.sl 3 (.int .i64)))) y0])),(.T 1,.t (.val false [.int .i64 y1])),(.T 5,.t (.val false [.ptr 5 0 0])),(.T 8,.t (.val false [.row 8 0 0])),(.R 8 0,.r 0 (some ⟨false,.any,true,32,(.sl 42 (.pair .str (.sl 3 (.int .i64)))),y2⟩)),(.T 9,.t (.val false [.row 9 0 0])),(.R 9 0,.r 0 (some ⟨false,.any,true,32,(.sl 42 (.pair .str (.sl 3 (.int .i64)))),y3⟩)),(.T 28,.t (.val false [.sl .any 32 (.sl 42 (.pair .str (.sl 3 (.int .i64)))) y4])),(.T 29,.t (.val false [.int .i64 y5])),(.T 30,.t (.val false [.int .i64 y6])),(.B 5,.b 0 false [.int .i64 y7,.int .i64 y8,.int .i64 y9,.int .i64 y10,.int .i64 y11,.int .i64 y12,.int .i64 y13])]
noncomputable def g_Si_GloDo_0 (y0:List (List (ByteArray×(List Int)))) (y1:Int) (y4:List (List (ByteArray×(List Int)))) (y5:Int) (y7:Int) (y8:Int) (y9:Int) (y10:Int) (y11:Int) (y12:Int) (y13:Int):((List (List (ByteArray×(List Int))))×(List (List (ByteArray×(List Int))))×Int) → RT ((List (List (ByteArray×(List Int))))×(List (List (ByteArray×(List Int))))×Int) (((List (List (ByteArray×(List Int))))×(List (List (ByteArray×(List Int))))))
 | (y2,y3,y6) => .br (true) (.br (decide (y6 < y5)) (.br (decide ((0:Int) ≤ y6 ∧ y6 < (↑(List.length y4):Int))) (.br (g_Ai_StoStore_copied (at_ (Ty.sl (nat_lit 42) (Ty.pair Ty.str (Ty.sl (nat_lit 3) (Ty.int IntKind.i64)))) y4 (Int.toNat y6))) (.br (decide ((List.length y2 + List.length [g_Vi_StoStore_copied_0 (at_ (Ty.sl (nat_lit 42) (Ty.pair Ty.str (Ty.sl (nat_lit 3) (Ty.int IntKind.i64)))) y4 (Int.toNat y6))]) * nat_lit 24 ≤ nat_lit 140737488355328 ∧ List.length y2 + List.length [g_Vi_StoStore_copied_0 (at_ (Ty.sl (nat_lit 42) (Ty.pair Ty.str (Ty.sl (nat_lit 3) (Ty.int IntKind.i64)))) y4 (Int.toNat y6))] ≤ nat_lit 9223372036854775807)) (.br (g_Ai_StoStore_copied (at_ (Ty.sl (nat_lit 42) (Ty.pair Ty.str (Ty.sl (nat_lit 3) (Ty.int IntKind.i64)))) y4 (Int.toNat y6))) (.br (decide ((List.length y3 + List.length [g_Vi_StoStore_copied_0 (at_ (Ty.sl (nat_lit 42) (Ty.pair Ty.str (Ty.sl (nat_lit 3) (Ty.int IntKind.i64)))) y4 (Int.toNat y6))]) * nat_lit 24 ≤ nat_lit 140737488355328 ∧ List.length y3 + List.length [g_Vi_StoStore_copied_0 (at_ (Ty.sl (nat_lit 42) (Ty.pair Ty.str (Ty.sl (nat_lit 3) (Ty.int IntKind.i64)))) y4 (Int.toNat y6))] ≤ nat_lit 9223372036854775807)) (.br (true) (.go ((y2 ++ [g_Vi_StoStore_copied_0 (at_ (Ty.sl (nat_lit 42) (Ty.pair Ty.str (Ty.sl (nat_lit 3) (Ty.int IntKind.i64)))) y4 (Int.toNat y6))],y3 ++ [g_Vi_StoStore_copied_0 (at_ (Ty.sl (nat_lit 42) (Ty.pair Ty.str (Ty.sl (nat_lit 3) (Ty.int IntKind.i64)))) y4 (Int.toNat y6))],IntKind.wrap IntKind.i64 (y6 + (1:Int))))) .bad) .bad) .bad) .bad) .bad) .bad) (.out ((y2,y3)))) .bad
noncomputable def g_Li_GloDo_0 (y0:List (List (ByteArray×(List Int)))) (y1:Int) (y4:List (List (ByteArray×(List Int)))) (y5:Int) (y7:Int) (y8:Int) (y9:Int) (y10:Int) (y11:Int) (y12:Int) (y13:Int) (x:(List (List (ByteArray×(List Int))))×(List (List (ByteArray×(List Int))))×Int):Option (((List (List (ByteArray×(List Int))))×(List (List (ByteArray×(List Int)))))) := loopO (g_Si_GloDo_0 y0 y1 y4 y5 y7 y8 y9 y10 y11 y12 y13) x
noncomputable def xi_GloDo_0 (y0:List (List (ByteArray×(List Int)))) (y1:Int) (y4:List (List (ByteArray×(List Int)))) (y5:Int) (y7:Int) (y8:Int) (y9:Int) (y10:Int) (y11:Int) (y12:Int) (y13:Int):(((List (List (ByteArray×(List Int))))×(List (List (ByteArray×(List Int)))))) → Ex×List (Pl×LV) := fun r => (.exit 0,[(.T 0,.t (.val false [.sl .any 32 (.sl 42 (.pair .str (.sl 3 (.int .i64)))) y0])),(.T 1,.t (.val false [.int .i64 y1])),(.T 5,.t (.val false [.ptr 5 0 0])),(.T 8,.t (.val false [.row 8 0 0])),(.R 8 0,.r 0 (some ⟨false,.any,true,32,(.sl 42 (.pair .str (.sl 3 (.int .i64)))),r.1⟩)),(.T 9,.t (.val false [.row 9 0 0])),(.R 9 0,.r 0 (some ⟨false,.any,true,32,(.sl 42 (.pair .str (.sl 3 (.int .i64)))),r.2⟩)),(.B 5,.b 0 false [.int .i64 y7,.int .i64 y8,.int .i64 y9,.int .i64 y10,.int .i64 y11,.int .i64 y12,.int .i64 y13])])
noncomputable def Oi_GloDo_1:Orc := fun b h => match b,h with
 | 0,[(.T 0,.t (.val false [.sl .any 32 (.sl 42 (.pair .str (.sl 3 (.int .i64)))) y0])),(.T 1,.t (.val false [.int .i64 y1])),(.T 5,.t (.val false [.ptr 5 0 0])),(.T 8,.t (.val false [.row 8 0 0])),(.R 8 0,.r 0 (some ⟨false,.any,true,32,(.sl 42 (.pair .str (.sl 3 (.int .i64)))),y2⟩)),(.T 9,.t (.val false [.row 9 0 0])),(.R 9 0,.r 0 (some ⟨false,.any,true,32,(.sl 42 (.pair .str (.sl 3 (.int .i64)))),y3⟩)),(.T 28,.t (.val false [.sl .any 32 (.sl 42 (.pair .str (.sl 3 (.int .i64)))) y4])),(.T 29,.t (.val false [.int .i64 y5])),(.T 30,.t (.val false [.int .i64 y6])),(.B 5,.b 0 false [.int .i64 y7,.int .i64 y8,.int .i64 y9,.int .i64 y10,.int .i64 y11,.int .i64 y12,.int .i64 y13])] => some (okO (g_Li_GloDo_0 y0 y1 y4 y5 y7 y8 y9 y10 y11 y12 y13 (y2,y3,y6)),(.leaf (.exit 0) [(.T 0,.t (.val false [.sl .any 32 (.sl 42 (.pair .str (.sl 3 (.int .i64)))) y0])),(.T 1,.t (.val false [.int .i64 y1])),(.T 5,.t (.val false [.ptr 5 0 0])),(.T 8,.t (.val false [.row 8 0 0])),(.R 8 0,.r 0 (some ⟨false,.any,true,32,(.sl 42 (.pair .str (.sl 3 (.int .i64)))),(valO (g_Li_GloDo_0 y0 y1 y4 y5 y7 y8 y9 y10 y11 y12 y13 (y2,y3,y6))).1⟩)),(.T 9,.t (.val false [.row 9 0 0])),(.R 9 0,.r 0 (some ⟨false,.any,true,32,(.sl 42 (.pair .str (.sl 3 (.int .i64)))),(valO (g_Li_GloDo_0 y0 y1 y4 y5 y7 y8 y9 y10 y11 y12 y13 (y2,y3,y6))).2⟩)),(.B 5,.b 0 false [.int .i64 y7,.int .i64 y8,.int .i64 y9,.int .i64 y10,.int .i64 y11,.int .i64 y12,.int .i64 y13])]))
 | b,h => Oi_GloDo_0 b h
theorem bi_GloDo_0 (y0:List (List (ByteArray×(List Int)))) (y1:Int) (y2:List (List (ByteArray×(List Int)))) (y3:List (List (ByteArray×(List Int)))) (y4:List (List (ByteArray×(List Int)))) (y5:Int) (y6:Int) (y7:Int) (y8:Int) (y9:Int) (y10:Int) (y11:Int) (y12:Int) (y13:Int):Tr.bt Ei_GloDo Oi_GloDo_0 (exec Ei_GloDo 0 ci_GloDo_0 (St.of (hi_GloDo_0 y0 y1 y2 y3 y4 y5 y6 y7 y8 y9 y10 y11 y12 y13)) (leafRd Ei_GloDo 0)) = (g_Si_GloDo_0 y0 y1 y4 y5 y7 y8 y9 y10 y11 y12 y13 (y2,y3,y6)).bt (fun ((y2,y3,y6):(List (List (ByteArray×(List Int))))×(List (List (ByteArray×(List Int))))×Int) => (hi_GloDo_0 y0 y1 y2 y3 y4 y5 y6 y7 y8 y9 y10 y11 y12 y13)) (xi_GloDo_0 y0 y1 y4 y5 y7 y8 y9 y10 y11 y12 y13) := by kernel_rfl
theorem ki_GloDo_1:OrcOk Ei_GloDo Oi_GloDo_1 lsi_GloDo 1 := orc_add ki_GloDo_0 (fun n p hp h ex h' ho => by
 obtain ⟨b,c⟩ := p
 obtain ⟨xt,h1,h2⟩ := ho
 have h1:Oi_GloDo_1 b h = some (true,xt) := h1
 unfold Oi_GloDo_1 at h1
 split at h1
 ·injection h1 with h1
  injection h1 with e1 e2
  subst e2
  have hc:c = ci_GloDo_0 := mi_GloDo_0 _ hp rfl
  subst hc
  right
  rename_i y0 y1 y2 y3 y4 y5 y6 y7 y8 y9 y10 y11 y12 y13
  have key := LT_step ki_GloDo_0 hp (fun q hq => loopsAll_in _ _ _ _ hp hq) (fun ((y2,y3,y6):(List (List (ByteArray×(List Int))))×(List (List (ByteArray×(List Int))))×Int) => (hi_GloDo_0 y0 y1 y2 y3 y4 y5 y6 y7 y8 y9 y10 y11 y12 y13)) (xi_GloDo_0 y0 y1 y4 y5 y7 y8 y9 y10 y11 y12 y13) (g_Si_GloDo_0 y0 y1 y4 y5 y7 y8 y9 y10 y11 y12 y13) (fun x => by first | exact bi_GloDo_0 y0 y1 x.1 x.2.1 y4 y5 x.2.2 y7 y8 y9 y10 y11 y12 y13) n (x := (y2,y3,y6)) (okO_some e1)
  have hx:∀ r,XT.sel (.leaf (.exit 0) [(.T 0,.t (.val false [.sl .any 32 (.sl 42 (.pair .str (.sl 3 (.int .i64)))) y0])),(.T 1,.t (.val false [.int .i64 y1])),(.T 5,.t (.val false [.ptr 5 0 0])),(.T 8,.t (.val false [.row 8 0 0])),(.R 8 0,.r 0 (some ⟨false,.any,true,32,(.sl 42 (.pair .str (.sl 3 (.int .i64)))),r.1⟩)),(.T 9,.t (.val false [.row 9 0 0])),(.R 9 0,.r 0 (some ⟨false,.any,true,32,(.sl 42 (.pair .str (.sl 3 (.int .i64)))),r.2⟩)),(.B 5,.b 0 false [.int .i64 y7,.int .i64 y8,.int .i64 y9,.int .i64 y10,.int .i64 y11,.int .i64 y12,.int .i64 y13])]) = xi_GloDo_0 y0 y1 y4 y5 y7 y8 y9 y10 y11 y12 y13 r := fun r => by first | rfl | (rcases r with r | r <;> rfl) | (rcases r with r | r | r <;> rfl) | (rcases r with r | r | r | r <;> rfl)
  have h3 := (hx (valO (g_Li_GloDo_0 y0 y1 y4 y5 y7 y8 y9 y10 y11 y12 y13 (y2,y3,y6)))).symm.trans h2
  have e3 := congrArg Prod.fst h3
  have e4 := congrArg Prod.snd h3
  simp only at e3 e4
  rw [← e3,← e4]
  exact key
 ·exact .inl ⟨xt,h1,h2⟩)
noncomputable def hi_GloDo_2 (y0:List (List (ByteArray×(List Int)))) (y1:Int) (y2:List (List (ByteArray×(List Int)))) (y3:List (List (ByteArray×(List Int)))) (y4:List Int) (y5:Int) (y6:Int) (y7:Int) (y8:Int) (y9:Int) (y10:Int) (y11:Int) (y12:Int) (y13:Int):List (Pl×LV) := [(.T 0,.t (.val false [.sl .any 32 (.sl 42 (.pair .str (.sl 3 (.int .i64)))) y0])),(.T 1,.t (.val false [.int .i64 y1])),(.T 5,.t (.val false [.ptr 5 0 0])),(.T 8,.t (.val false [.row 8 0 0])),(.R 8 0,.r 0 (some ⟨false,.any,true,32,(.sl 42 (.pair .str (.sl 3 (.int .i64)))),y2⟩)),(.T 9,.t (.val false [.row 9 0 0])),(.R 9 0,.r 0 (some ⟨false,.any,true,32,(.sl 42 (.pair .str (.sl 3 (.int .i64)))),y3⟩)),(.T 46,.t (.val false [.row 46 0 0])),(.R 46 0,.r 0 (some ⟨false,.any,true,3,(.int .i64),y4⟩)),(.T 47,.t (.val false [.int .i64 y5])),(.T 48,.t (.val false [.int .i64 y6])),(.B 5,.b 0 false [.int .i64 y7,.int .i64 y8,.int .i64 y9,.int .i64 y10,.int .i64 y11,.int .i64 y12,.int .i64 y13])]
noncomputable def g_Si_GloDo_2 (y0:List (List (ByteArray×(List Int)))) (y1:Int) (y2:List (List (ByteArray×(List Int)))) (y4:List Int) (y5:Int) (y7:Int) (y8:Int) (y9:Int) (y10:Int) (y11:Int) (y12:Int) (y13:Int):((List (List (ByteArray×(List Int))))×Int) → RT ((List (List (ByteArray×(List Int))))×Int) ((Bool×(List (List (ByteArray×(List Int))))) ⊕ ((List (List (ByteArray×(List Int))))))
 | (y3,y6) => .br (true) (.br (decide (y6 < y5)) (.br (decide ((0:Int) ≤ y6 ∧ y6 < (↑(List.length y4):Int))) (.br (decide (Int.toNat y6 < List.length y4)) (.br (true) (.br (decide ((0:Int) ≤ IntKind.wrap IntKind.i64 (at_ (Ty.int IntKind.i64) y4 (Int.toNat y6) - (1:Int)) ∧ IntKind.wrap IntKind.i64 (at_ (Ty.int IntKind.i64) y4 (Int.toNat y6) - (1:Int)) < (↑(List.length y0):Int))) (.br (g_Ai_PlcPlan (at_ (Ty.int IntKind.i64) y4 (Int.toNat y6)) (at_ (Ty.sl (nat_lit 42) (Ty.pair Ty.str (Ty.sl (nat_lit 3) (Ty.int IntKind.i64)))) y0 (Int.toNat (IntKind.wrap IntKind.i64 (at_ (Ty.int IntKind.i64) y4 (Int.toNat y6) - (1:Int))))) y1 y7 y8 y9 y10 y11 y12 y13) (.br (!g_Vi_PlcPlan_0 (at_ (Ty.int IntKind.i64) y4 (Int.toNat y6)) (at_ (Ty.sl (nat_lit 42) (Ty.pair Ty.str (Ty.sl (nat_lit 3) (Ty.int IntKind.i64)))) y0 (Int.toNat (IntKind.wrap IntKind.i64 (at_ (Ty.int IntKind.i64) y4 (Int.toNat y6) - (1:Int))))) y1 y7 y8 y9 y10 y11 y12 y13) (.out (.inl ((false,y3)))) (.br (true) (.br (true) (.br (decide ((0:Int) ≤ IntKind.wrap IntKind.i64 (at_ (Ty.int IntKind.i64) y4 (Int.toNat y6) - (1:Int)) ∧ IntKind.wrap IntKind.i64 (at_ (Ty.int IntKind.i64) y4 (Int.toNat y6) - (1:Int)) < (↑(List.length y0):Int))) (.br (g_Ai_StoDo (at_ (Ty.sl (nat_lit 42) (Ty.pair Ty.str (Ty.sl (nat_lit 3) (Ty.int IntKind.i64)))) y0 (Int.toNat (IntKind.wrap IntKind.i64 (at_ (Ty.int IntKind.i64) y4 (Int.toNat y6) - (1:Int))))) (g_Vi_PlcPlan_2 (at_ (Ty.int IntKind.i64) y4 (Int.toNat y6)) (at_ (Ty.sl (nat_lit 42) (Ty.pair Ty.str (Ty.sl (nat_lit 3) (Ty.int IntKind.i64)))) y0 (Int.toNat (IntKind.wrap IntKind.i64 (at_ (Ty.int IntKind.i64) y4 (Int.toNat y6) - (1:Int))))) y1 y7 y8 y9 y10 y11 y12 y13)) (.br (decide ((0:Int) ≤ IntKind.wrap IntKind.i64 (at_ (Ty.int IntKind.i64) y4 (Int.toNat y6) - (1:Int)) ∧ IntKind.wrap IntKind.i64 (at_ (Ty.int IntKind.i64) y4 (Int.toNat y6) - (1:Int)) < (↑(List.length y3):Int))) (.br (decide (Int.toNat (IntKind.wrap IntKind.i64 (at_ (Ty.int IntKind.i64) y4 (Int.toNat y6) - (1:Int))) < List.length y3)) (.br (true) (.go ((List.set y3 (Int.toNat (IntKind.wrap IntKind.i64 (at_ (Ty.int IntKind.i64) y4 (Int.toNat y6) - (1:Int)))) (g_Vi_StoDo_0 (at_ (Ty.sl (nat_lit 42) (Ty.pair Ty.str (Ty.sl (nat_lit 3) (Ty.int IntKind.i64)))) y0 (Int.toNat (IntKind.wrap IntKind.i64 (at_ (Ty.int IntKind.i64) y4 (Int.toNat y6) - (1:Int))))) (g_Vi_PlcPlan_2 (at_ (Ty.int IntKind.i64) y4 (Int.toNat y6)) (at_ (Ty.sl (nat_lit 42) (Ty.pair Ty.str (Ty.sl (nat_lit 3) (Ty.int IntKind.i64)))) y0 (Int.toNat (IntKind.wrap IntKind.i64 (at_ (Ty.int IntKind.i64) y4 (Int.toNat y6) - (1:Int))))) y1 y7 y8 y9 y10 y11 y12 y13)),IntKind.wrap IntKind.i64 (y6 + (1:Int))))) .bad) .bad) .bad) .bad) .bad) .bad) .bad)) .bad) .bad) .bad) .bad) .bad) (.out (.inr (y3)))) .bad
noncomputable def g_Li_GloDo_2 (y0:List (List (ByteArray×(List Int)))) (y1:Int) (y2:List (List (ByteArray×(List Int)))) (y4:List Int) (y5:Int) (y7:Int) (y8:Int) (y9:Int) (y10:Int) (y11:Int) (y12:Int) (y13:Int) (x:(List (List (ByteArray×(List Int))))×Int):Option ((Bool×(List (List (ByteArray×(List Int))))) ⊕ ((List (List (ByteArray×(List Int)))))) := loopO (g_Si_GloDo_2 y0 y1 y2 y4 y5 y7 y8 y9 y10 y11 y12 y13) x
noncomputable def xi_GloDo_2 (y0:List (List (ByteArray×(List Int)))) (y1:Int) (y2:List (List (ByteArray×(List Int)))) (y4:List Int) (y5:Int) (y7:Int) (y8:Int) (y9:Int) (y10:Int) (y11:Int) (y12:Int) (y13:Int):((Bool×(List (List (ByteArray×(List Int))))) ⊕ ((List (List (ByteArray×(List Int)))))) → Ex×List (Pl×LV) := fun
 | .inl r => (.ret,[(.T 6,.t (.val false [.row 6 0 0])),(.R 6 0,.r 0 (some ⟨false,.any,true,32,(.sl 42 (.pair .str (.sl 3 (.int .i64)))),y2⟩)),(.T 7,.t (.val false [.bool r.1])),(.T 9,.t (.val false [.row 9 0 0])),(.R 9 0,.r 0 (some ⟨false,.any,true,32,(.sl 42 (.pair .str (.sl 3 (.int .i64)))),r.2⟩))])
 | .inr (r) => (.exit 2,[(.T 6,.t (.val false [.undef])),(.T 7,.t (.val false [.undef])),(.T 9,.t (.val false [.row 9 0 0])),(.R 9 0,.r 0 (some ⟨false,.any,true,32,(.sl 42 (.pair .str (.sl 3 (.int .i64)))),r⟩))])
noncomputable def Oi_GloDo_2:Orc := fun b h => match b,h with
 | 2,[(.T 0,.t (.val false [.sl .any 32 (.sl 42 (.pair .str (.sl 3 (.int .i64)))) y0])),(.T 1,.t (.val false [.int .i64 y1])),(.T 5,.t (.val false [.ptr 5 0 0])),(.T 8,.t (.val false [.row 8 0 0])),(.R 8 0,.r 0 (some ⟨false,.any,true,32,(.sl 42 (.pair .str (.sl 3 (.int .i64)))),y2⟩)),(.T 9,.t (.val false [.row 9 0 0])),(.R 9 0,.r 0 (some ⟨false,.any,true,32,(.sl 42 (.pair .str (.sl 3 (.int .i64)))),y3⟩)),(.T 46,.t (.val false [.row 46 0 0])),(.R 46 0,.r 0 (some ⟨false,.any,true,3,(.int .i64),y4⟩)),(.T 47,.t (.val false [.int .i64 y5])),(.T 48,.t (.val false [.int .i64 y6])),(.B 5,.b 0 false [.int .i64 y7,.int .i64 y8,.int .i64 y9,.int .i64 y10,.int .i64 y11,.int .i64 y12,.int .i64 y13])] => some (okO (g_Li_GloDo_2 y0 y1 y2 y4 y5 y7 y8 y9 y10 y11 y12 y13 (y3,y6)),(.br (isL (valO (g_Li_GloDo_2 y0 y1 y2 y4 y5 y7 y8 y9 y10 y11 y12 y13 (y3,y6)))) (.leaf .ret [(.T 6,.t (.val false [.row 6 0 0])),(.R 6 0,.r 0 (some ⟨false,.any,true,32,(.sl 42 (.pair .str (.sl 3 (.int .i64)))),y2⟩)),(.T 7,.t (.val false [.bool (getL (valO (g_Li_GloDo_2 y0 y1 y2 y4 y5 y7 y8 y9 y10 y11 y12 y13 (y3,y6)))).1])),(.T 9,.t (.val false [.row 9 0 0])),(.R 9 0,.r 0 (some ⟨false,.any,true,32,(.sl 42 (.pair .str (.sl 3 (.int .i64)))),(getL (valO (g_Li_GloDo_2 y0 y1 y2 y4 y5 y7 y8 y9 y10 y11 y12 y13 (y3,y6)))).2⟩))]) (.leaf (.exit 2) [(.T 6,.t (.val false [.undef])),(.T 7,.t (.val false [.undef])),(.T 9,.t (.val false [.row 9 0 0])),(.R 9 0,.r 0 (some ⟨false,.any,true,32,(.sl 42 (.pair .str (.sl 3 (.int .i64)))),(getR (valO (g_Li_GloDo_2 y0 y1 y2 y4 y5 y7 y8 y9 y10 y11 y12 y13 (y3,y6))))⟩))])))
 | b,h => Oi_GloDo_1 b h
theorem bi_GloDo_2 (y0:List (List (ByteArray×(List Int)))) (y1:Int) (y2:List (List (ByteArray×(List Int)))) (y3:List (List (ByteArray×(List Int)))) (y4:List Int) (y5:Int) (y6:Int) (y7:Int) (y8:Int) (y9:Int) (y10:Int) (y11:Int) (y12:Int) (y13:Int):Tr.bt Ei_GloDo Oi_GloDo_1 (exec Ei_GloDo 2 ci_GloDo_2 (St.of (hi_GloDo_2 y0 y1 y2 y3 y4 y5 y6 y7 y8 y9 y10 y11 y12 y13)) (leafRd Ei_GloDo 2)) = (g_Si_GloDo_2 y0 y1 y2 y4 y5 y7 y8 y9 y10 y11 y12 y13 (y3,y6)).bt (fun ((y3,y6):(List (List (ByteArray×(List Int))))×Int) => (hi_GloDo_2 y0 y1 y2 y3 y4 y5 y6 y7 y8 y9 y10 y11 y12 y13)) (xi_GloDo_2 y0 y1 y2 y4 y5 y7 y8 y9 y10 y11 y12 y13) := by kernel_rfl
theorem ki_GloDo_2:OrcOk Ei_GloDo Oi_GloDo_2 lsi_GloDo 2 := orc_add ki_GloDo_1 (fun n p hp h ex h' ho => by
 obtain ⟨b,c⟩ := p
 obtain ⟨xt,h1,h2⟩ := ho
 have h1:Oi_GloDo_2 b h = some (true,xt) := h1
 unfold Oi_GloDo_2 at h1
 split at h1
 ·injection h1 with h1
  injection h1 with e1 e2
  subst e2
  have hc:c = ci_GloDo_2 := mi_GloDo_2 _ hp rfl
  subst hc
  right
  rename_i y0 y1 y2 y3 y4 y5 y6 y7 y8 y9 y10 y11 y12 y13
  have key := LT_step ki_GloDo_1 hp (fun q hq => loopsAll_in _ _ _ _ hp hq) (fun ((y3,y6):(List (List (ByteArray×(List Int))))×Int) => (hi_GloDo_2 y0 y1 y2 y3 y4 y5 y6 y7 y8 y9 y10 y11 y12 y13)) (xi_GloDo_2 y0 y1 y2 y4 y5 y7 y8 y9 y10 y11 y12 y13) (g_Si_GloDo_2 y0 y1 y2 y4 y5 y7 y8 y9 y10 y11 y12 y13) (fun x => by first | exact bi_GloDo_2 y0 y1 y2 x.1 y4 y5 x.2 y7 y8 y9 y10 y11 y12 y13) n (x := (y3,y6)) (okO_some e1)
  have hx:∀ r,XT.sel (.br (isL r) (.leaf .ret [(.T 6,.t (.val false [.row 6 0 0])),(.R 6 0,.r 0 (some ⟨false,.any,true,32,(.sl 42 (.pair .str (.sl 3 (.int .i64)))),y2⟩)),(.T 7,.t (.val false [.bool (getL r).1])),(.T 9,.t (.val false [.row 9 0 0])),(.R 9 0,.r 0 (some ⟨false,.any,true,32,(.sl 42 (.pair .str (.sl 3 (.int .i64)))),(getL r).2⟩))]) (.leaf (.exit 2) [(.T 6,.t (.val false [.undef])),(.T 7,.t (.val false [.undef])),(.T 9,.t (.val false [.row 9 0 0])),(.R 9 0,.r 0 (some ⟨false,.any,true,32,(.sl 42 (.pair .str (.sl 3 (.int .i64)))),(getR r)⟩))])) = xi_GloDo_2 y0 y1 y2 y4 y5 y7 y8 y9 y10 y11 y12 y13 r := fun r => by first | rfl | (rcases r with r | r <;> rfl) | (rcases r with r | r | r <;> rfl) | (rcases r with r | r | r | r <;> rfl)
  have h3 := (hx (valO (g_Li_GloDo_2 y0 y1 y2 y4 y5 y7 y8 y9 y10 y11 y12 y13 (y3,y6)))).symm.trans h2
  have e3 := congrArg Prod.fst h3
  have e4 := congrArg Prod.snd h3
  simp only at e3 e4
  rw [← e3,← e4]
  exact key
 ·exact .inl ⟨xt,h1,h2⟩)
noncomputable def g_Ai_GloDo (a0:List (List (ByteArray×(List Int)))) (a1:Int) (a2:Int) (a3:Int) (a4:Int) (a5:Int) (a6:Int) (a7:Int) (a8:Int):Bool := g_Ai_GloOk a0&&(!g_Vi_GloOk_0 a0 || g_Ai_OpOk a2 a3 a4 a5 a6 a7 a8&&(!g_Vi_OpOk_0 a2 a3 a4 a5 a6 a7 a8 || g_Ai_isTx a1&&(!g_Vi_isTx_0 a1 || okO (g_Li_GloDo_0 a0 a1 a0 (↑(List.length a0):Int) a2 a3 a4 a5 a6 a7 a8 ([],[],(0:Int)))&&(g_Ai_OpPlaces a2 a3 a4 a5 a6 a7 a8&&okO (g_Li_GloDo_2 a0 a1 (valO (g_Li_GloDo_0 a0 a1 a0 (↑(List.length a0):Int) a2 a3 a4 a5 a6 a7 a8 ([],[],(0:Int)))).1 (g_Vi_OpPlaces_0 a2 a3 a4 a5 a6 a7 a8) (↑(List.length (g_Vi_OpPlaces_0 a2 a3 a4 a5 a6 a7 a8)):Int) a2 a3 a4 a5 a6 a7 a8 ((valO (g_Li_GloDo_0 a0 a1 a0 (↑(List.length a0):Int) a2 a3 a4 a5 a6 a7 a8 ([],[],(0:Int)))).2,(0:Int)))))))
noncomputable def g_Vi_GloDo_0 (a0:List (List (ByteArray×(List Int)))) (a1:Int) (a2:Int) (a3:Int) (a4:Int) (a5:Int) (a6:Int) (a7:Int) (a8:Int):List (List (ByteArray×(List Int))) := bif !g_Vi_GloOk_0 a0 then [] else bif !g_Vi_OpOk_0 a2 a3 a4 a5 a6 a7 a8 then [] else bif !g_Vi_isTx_0 a1 then [] else bif isL (valO (g_Li_GloDo_2 a0 a1 (valO (g_Li_GloDo_0 a0 a1 a0 (↑(List.length a0):Int) a2 a3 a4 a5 a6 a7 a8 ([],[],(0:Int)))).1 (g_Vi_OpPlaces_0 a2 a3 a4 a5 a6 a7 a8) (↑(List.length (g_Vi_OpPlaces_0 a2 a3 a4 a5 a6 a7 a8)):Int) a2 a3 a4 a5 a6 a7 a8 ((valO (g_Li_GloDo_0 a0 a1 a0 (↑(List.length a0):Int) a2 a3 a4 a5 a6 a7 a8 ([],[],(0:Int)))).2,(0:Int)))) then (valO (g_Li_GloDo_0 a0 a1 a0 (↑(List.length a0):Int) a2 a3 a4 a5 a6 a7 a8 ([],[],(0:Int)))).1 else getR (valO (g_Li_GloDo_2 a0 a1 (valO (g_Li_GloDo_0 a0 a1 a0 (↑(List.length a0):Int) a2 a3 a4 a5 a6 a7 a8 ([],[],(0:Int)))).1 (g_Vi_OpPlaces_0 a2 a3 a4 a5 a6 a7 a8) (↑(List.length (g_Vi_OpPlaces_0 a2 a3 a4 a5 a6 a7 a8)):Int) a2 a3 a4 a5 a6 a7 a8 ((valO (g_Li_GloDo_0 a0 a1 a0 (↑(List.length a0):Int) a2 a3 a4 a5 a6 a7 a8 ([],[],(0:Int)))).2,(0:Int))))
noncomputable def g_Vi_GloDo_1 (a0:List (List (ByteArray×(List Int)))) (a1:Int) (a2:Int) (a3:Int) (a4:Int) (a5:Int) (a6:Int) (a7:Int) (a8:Int):Bool := bif !g_Vi_GloOk_0 a0 then false else bif !g_Vi_OpOk_0 a2 a3 a4 a5 a6 a7 a8 then false else bif !g_Vi_isTx_0 a1 then false else bif isL (valO (g_Li_GloDo_2 a0 a1 (valO (g_Li_GloDo_0 a0 a1 a0 (↑(List.length a0):Int) a2 a3 a4 a5 a6 a7 a8 ([],[],(0:Int)))).1 (g_Vi_OpPlaces_0 a2 a3 a4 a5 a6 a7 a8) (↑(List.length (g_Vi_OpPlaces_0 a2 a3 a4 a5 a6 a7 a8)):Int) a2 a3 a4 a5 a6 a7 a8 ((valO (g_Li_GloDo_0 a0 a1 a0 (↑(List.length a0):Int) a2 a3 a4 a5 a6 a7 a8 ([],[],(0:Int)))).2,(0:Int)))) then (getL (valO (g_Li_GloDo_2 a0 a1 (valO (g_Li_GloDo_0 a0 a1 a0 (↑(List.length a0):Int) a2 a3 a4 a5 a6 a7 a8 ([],[],(0:Int)))).1 (g_Vi_OpPlaces_0 a2 a3 a4 a5 a6 a7 a8) (↑(List.length (g_Vi_OpPlaces_0 a2 a3 a4 a5 a6 a7 a8)):Int) a2 a3 a4 a5 a6 a7 a8 ((valO (g_Li_GloDo_0 a0 a1 a0 (↑(List.length a0):Int) a2 a3 a4 a5 a6 a7 a8 ([],[],(0:Int)))).2,(0:Int))))).1 else true
noncomputable def Fi_GloDo:FSem := fun ys => match ys with
 | [.val false [.sl .any 32 (.sl 42 (.pair .str (.sl 3 (.int .i64)))) a0],.val false [.int .i64 a1],.val true [.int .i64 a2,.int .i64 a3,.int .i64 a4,.int .i64 a5,.int .i64 a6,.int .i64 a7,.int .i64 a8]] => some ((g_Ai_GloDo a0 a1 a2 a3 a4 a5 a6 a7 a8),.tup [(false,[.own .any true 32 (.sl 42 (.pair .str (.sl 3 (.int .i64)))) (g_Vi_GloDo_0 a0 a1 a2 a3 a4 a5 a6 a7 a8)]),(false,[.bool (g_Vi_GloDo_1 a0 a1 a2 a3 a4 a5 a6 a7 a8)])],[])
 | _ => none
theorem vi_GloDo (a0:List (List (ByteArray×(List Int)))) (a1:Int) (a2:Int) (a3:Int) (a4:Int) (a5:Int) (a6:Int) (a7:Int) (a8:Int):collapseH .std Ei_GloDo Oi_GloDo_2 (execFn Ei_GloDo Tryd.f14 msi_GloDo [.val false [.sl .any 32 (.sl 42 (.pair .str (.sl 3 (.int .i64)))) a0],.val false [.int .i64 a1],.val true [.int .i64 a2,.int .i64 a3,.int .i64 a4,.int .i64 a5,.int .i64 a6,.int .i64 a7,.int .i64 a8]]) = some ((g_Ai_GloDo a0 a1 a2 a3 a4 a5 a6 a7 a8),.tup [(false,[.own .any true 32 (.sl 42 (.pair .str (.sl 3 (.int .i64)))) (g_Vi_GloDo_0 a0 a1 a2 a3 a4 a5 a6 a7 a8)]),(false,[.bool (g_Vi_GloDo_1 a0 a1 a2 a3 a4 a5 a6 a7 a8)])],[]) := by kernel_rfl
theorem si_GloDo:Sound Tryd.prog 14 msi_GloDo Fi_GloDo := by
 refine fn_gen goodi_GloDo (by kernel_rfl) .std (fn := Tryd.f14) (c := (Tryd.f14.body.getD .skip)) (o := Oi_GloDo_2) (k := 2) (by kernel_rfl) (by kernel_rfl) (by kernel_rfl) (by kernel_rfl) (by decide) ki_GloDo_2 ?_
 intro ys r outs h
 unfold Fi_GloDo at h
 split at h
 ·exact (vi_GloDo _ _ _ _ _ _ _ _ _).trans h
 ·cases h
noncomputable def Ei_GloNew:Env where
 tt := mkTI Tryd.prog
 fn := fun _ => none
 bxf := fun _ => none
 mv := []
 keep := fun _ => []
 keepB := fun _ => []
 keepX := fun _ => []
 keepXB := fun _ => []
theorem goodFi_GloNew:∀ f ms F,Ei_GloNew.fn f = some (ms,F) → Sound Tryd.prog f ms F := fun f ms F h => by cases h
theorem goodBi_GloNew:∀ f ms F,Ei_GloNew.bxf f = some (ms,F) → SoundB Tryd.prog f ms F := fun f ms F h => by cases h
theorem goodi_GloNew:Good Tryd.prog Ei_GloNew := ⟨rfl,goodFi_GloNew,goodBi_GloNew⟩
noncomputable def Oi_GloNew_0:Orc := fun _ _ => none
noncomputable def msi_GloNew:List PM := []
noncomputable def lsi_GloNew:List (Nat×Code) := loopsAll 0 (Tryd.f17.body.getD .skip)
theorem ki_GloNew_0:OrcOk Ei_GloNew Oi_GloNew_0 lsi_GloNew 0 := orcOk_none
noncomputable def g_Vi_GloNew_0:List (List (ByteArray×(List Int))) := [[],[],[]]
noncomputable def Fi_GloNew:FSem := fun ys => match ys with
 | [] => some (true,.val false [.own .any true 32 (.sl 42 (.pair .str (.sl 3 (.int .i64)))) g_Vi_GloNew_0],[])
 | _ => none
theorem vi_GloNew:collapseH .std Ei_GloNew Oi_GloNew_0 (execFn Ei_GloNew Tryd.f17 msi_GloNew []) = some (true,.val false [.own .any true 32 (.sl 42 (.pair .str (.sl 3 (.int .i64)))) g_Vi_GloNew_0],[]) := by kernel_rfl
theorem si_GloNew:Sound Tryd.prog 17 msi_GloNew Fi_GloNew := by
 refine fn_gen goodi_GloNew (by kernel_rfl) .std (fn := Tryd.f17) (c := (Tryd.f17.body.getD .skip)) (o := Oi_GloNew_0) (k := 0) (by kernel_rfl) (by kernel_rfl) (by kernel_rfl) (by kernel_rfl) (by decide) ki_GloNew_0 ?_
 intro ys r outs h
 unfold Fi_GloNew at h
 split at h
 ·exact (vi_GloNew).trans h
 ·cases h
noncomputable def Ew_jaGlo:Env where
 tt := mkTI Tryd.prog
 fn := fun f => match f with
  | 14 => some (msi_GloDo,FSem.wk msi_GloDo Fi_GloDo)
  | 17 => some (msi_GloNew,FSem.wk msi_GloNew Fi_GloNew)
  | _ => none
 bxf := fun _ => none
 mv := []
 keep := fun b => match b with
  | 0 => [(0,false),(4,false),(5,false),(6,false)]
  | _ => []
 keepB := fun b => match b with
  | 0 => []
  | _ => []
 keepX := fun b => match b with
  | 0 => [(4,false),(5,false)]
  | _ => []
 keepXB := fun b => match b with
  | 0 => []
  | _ => []
theorem goodFw_jaGlo:∀ f ms F,Ew_jaGlo.fn f = some (ms,F) → Sound Tryd.prog f ms F := fun f ms F h => by
 unfold Ew_jaGlo at h
 dsimp only at h
 split at h
 ·injection h with h; injection h with e1 e2; subst e1 e2; exact Sound.wk si_GloDo
 ·injection h with h; injection h with e1 e2; subst e1 e2; exact Sound.wk si_GloNew
 ·cases h
theorem goodBw_jaGlo:∀ f ms F,Ew_jaGlo.bxf f = some (ms,F) → SoundB Tryd.prog f ms F := fun f ms F h => by cases h
theorem goodw_jaGlo:Good Tryd.prog Ew_jaGlo := ⟨rfl,goodFw_jaGlo,goodBw_jaGlo⟩
noncomputable def Ow_jaGlo_0:Orc := fun _ _ => none
noncomputable def msw_jaGlo:List PM := [.rd]
noncomputable def lsw_jaGlo:List (Nat×Code) := loopsAll 0 (Tryd.f13.body.getD .skip)
noncomputable def cw_jaGlo_0:Code := (loopOf 0 (Tryd.f13.body.getD .skip)).getD .skip
theorem lseqw_jaGlo:lsw_jaGlo = [(0,cw_jaGlo_0)] := by kernel_rfl
theorem mw_jaGlo_0:∀ p,p ∈ lsw_jaGlo → p.1 = 0 → p.2 = cw_jaGlo_0 := by
 intro p hp
 rw [lseqw_jaGlo] at hp
 simp only [List.mem_cons,List.not_mem_nil,or_false] at hp
 subst hp; simp
theorem kw_jaGlo_0:OrcOk Ew_jaGlo Ow_jaGlo_0 lsw_jaGlo 0 := orcOk_none
noncomputable def hw_jaGlo_0 (y0:List (Int×(Int×(Int×(Int×(Int×(Int×Int))))))) (y1:List (List (ByteArray×(List Int)))) (y2:List Bool) (y3:Int):List (Pl×LV) := [(.T 0,.t (.val false [.sl .any 24 (.pair (.int .i64) (.pair (.int .i64) (.pair (.int .i64) (.pair (.int .i64) (.pair (.int .i64) (.pair (.int .i64) (.int .i64))))))) y0])),(.T 4,.t (.val false [.row 4 0 0])),(.R 4 0,.r 0 (some ⟨false,.any,true,32,(.sl 42 (.pair .str (.sl 3 (.int .i64)))),y1⟩)),(.T 5,.t (.val false [.row 5 0 0])),(.R 5 0,.r 0 (some ⟨false,.non,true,4,.bool,y2⟩)),(.T 6,.t (.val false [.int .i64 y3]))]
noncomputable def g_Sw_jaGlo_0 (y0:List (Int×(Int×(Int×(Int×(Int×(Int×Int))))))):((List (List (ByteArray×(List Int))))×(List Bool)×Int) → RT ((List (List (ByteArray×(List Int))))×(List Bool)×Int) (((List (List (ByteArray×(List Int))))×(List Bool)))
 | (y1,y2,y3) => .br (true) (.br (decide (y3 < (↑(List.length y0):Int))) (.br (decide ((0:Int) ≤ y3 ∧ y3 < (↑(List.length y0):Int))) (.br (g_Ai_GloDo y1 y3 (at_ (Ty.pair (Ty.int IntKind.i64) (Ty.pair (Ty.int IntKind.i64) (Ty.pair (Ty.int IntKind.i64) (Ty.pair (Ty.int IntKind.i64) (Ty.pair (Ty.int IntKind.i64) (Ty.pair (Ty.int IntKind.i64) (Ty.int IntKind.i64))))))) y0 (Int.toNat y3)).1 (at_ (Ty.pair (Ty.int IntKind.i64) (Ty.pair (Ty.int IntKind.i64) (Ty.pair (Ty.int IntKind.i64) (Ty.pair (Ty.int IntKind.i64) (Ty.pair (Ty.int IntKind.i64) (Ty.pair (Ty.int IntKind.i64) (Ty.int IntKind.i64))))))) y0 (Int.toNat y3)).2.1 (at_ (Ty.pair (Ty.int IntKind.i64) (Ty.pair (Ty.int IntKind.i64) (Ty.pair (Ty.int IntKind.i64) (Ty.pair (Ty.int IntKind.i64) (Ty.pair (Ty.int IntKind.i64) (Ty.pair (Ty.int IntKind.i64) (Ty.int IntKind.i64))))))) y0 (Int.toNat y3)).2.2.1 (at_ (Ty.pair (Ty.int IntKind.i64) (Ty.pair (Ty.int IntKind.i64) (Ty.pair (Ty.int IntKind.i64) (Ty.pair (Ty.int IntKind.i64) (Ty.pair (Ty.int IntKind.i64) (Ty.pair (Ty.int IntKind.i64) (Ty.int IntKind.i64))))))) y0 (Int.toNat y3)).2.2.2.1 (at_ (Ty.pair (Ty.int IntKind.i64) (Ty.pair (Ty.int IntKind.i64) (Ty.pair (Ty.int IntKind.i64) (Ty.pair (Ty.int IntKind.i64) (Ty.pair (Ty.int IntKind.i64) (Ty.pair (Ty.int IntKind.i64) (Ty.int IntKind.i64))))))) y0 (Int.toNat y3)).2.2.2.2.1 (at_ (Ty.pair (Ty.int IntKind.i64) (Ty.pair (Ty.int IntKind.i64) (Ty.pair (Ty.int IntKind.i64) (Ty.pair (Ty.int IntKind.i64) (Ty.pair (Ty.int IntKind.i64) (Ty.pair (Ty.int IntKind.i64) (Ty.int IntKind.i64))))))) y0 (Int.toNat y3)).2.2.2.2.2.1 (at_ (Ty.pair (Ty.int IntKind.i64) (Ty.pair (Ty.int IntKind.i64) (Ty.pair (Ty.int IntKind.i64) (Ty.pair (Ty.int IntKind.i64) (Ty.pair (Ty.int IntKind.i64) (Ty.pair (Ty.int IntKind.i64) (Ty.int IntKind.i64))))))) y0 (Int.toNat y3)).2.2.2.2.2.2) (.br (g_Vi_GloDo_1 y1 y3 (at_ (Ty.pair (Ty.int IntKind.i64) (Ty.pair (Ty.int IntKind.i64) (Ty.pair (Ty.int IntKind.i64) (Ty.pair (Ty.int IntKind.i64) (Ty.pair (Ty.int IntKind.i64) (Ty.pair (Ty.int IntKind.i64) (Ty.int IntKind.i64))))))) y0 (Int.toNat y3)).1 (at_ (Ty.pair (Ty.int IntKind.i64) (Ty.pair (Ty.int IntKind.i64) (Ty.pair (Ty.int IntKind.i64) (Ty.pair (Ty.int IntKind.i64) (Ty.pair (Ty.int IntKind.i64) (Ty.pair (Ty.int IntKind.i64) (Ty.int IntKind.i64))))))) y0 (Int.toNat y3)).2.1 (at_ (Ty.pair (Ty.int IntKind.i64) (Ty.pair (Ty.int IntKind.i64) (Ty.pair (Ty.int IntKind.i64) (Ty.pair (Ty.int IntKind.i64) (Ty.pair (Ty.int IntKind.i64) (Ty.pair (Ty.int IntKind.i64) (Ty.int IntKind.i64))))))) y0 (Int.toNat y3)).2.2.1 (at_ (Ty.pair (Ty.int IntKind.i64) (Ty.pair (Ty.int IntKind.i64) (Ty.pair (Ty.int IntKind.i64) (Ty.pair (Ty.int IntKind.i64) (Ty.pair (Ty.int IntKind.i64) (Ty.pair (Ty.int IntKind.i64) (Ty.int IntKind.i64))))))) y0 (Int.toNat y3)).2.2.2.1 (at_ (Ty.pair (Ty.int IntKind.i64) (Ty.pair (Ty.int IntKind.i64) (Ty.pair (Ty.int IntKind.i64) (Ty.pair (Ty.int IntKind.i64) (Ty.pair (Ty.int IntKind.i64) (Ty.pair (Ty.int IntKind.i64) (Ty.int IntKind.i64))))))) y0 (Int.toNat y3)).2.2.2.2.1 (at_ (Ty.pair (Ty.int IntKind.i64) (Ty.pair (Ty.int IntKind.i64) (Ty.pair (Ty.int IntKind.i64) (Ty.pair (Ty.int IntKind.i64) (Ty.pair (Ty.int IntKind.i64) (Ty.pair (Ty.int IntKind.i64) (Ty.int IntKind.i64))))))) y0 (Int.toNat y3)).2.2.2.2.2.1 (at_ (Ty.pair (Ty.int IntKind.i64) (Ty.pair (Ty.int IntKind.i64) (Ty.pair (Ty.int IntKind.i64) (Ty.pair (Ty.int IntKind.i64) (Ty.pair (Ty.int IntKind.i64) (Ty.pair (Ty.int IntKind.i64) (Ty.int IntKind.i64))))))) y0 (Int.toNat y3)).2.2.2.2.2.2) (.br (decide ((List.length y2 + List.length [g_Vi_GloDo_1 y1 y3 (at_ (Ty.pair (Ty.int IntKind.i64) (Ty.pair (Ty.int IntKind.i64) (Ty.pair (Ty.int IntKind.i64) (Ty.pair (Ty.int IntKind.i64) (Ty.pair (Ty.int IntKind.i64) (Ty.pair (Ty.int IntKind.i64) (Ty.int IntKind.i64))))))) y0 (Int.toNat y3)).1 (at_ (Ty.pair (Ty.int IntKind.i64) (Ty.pair (Ty.int IntKind.i64) (Ty.pair (Ty.int IntKind.i64) (Ty.pair (Ty.int IntKind.i64) (Ty.pair (Ty.int IntKind.i64) (Ty.pair (Ty.int IntKind.i64) (Ty.int IntKind.i64))))))) y0 (Int.toNat y3)).2.1 (at_ (Ty.pair (Ty.int IntKind.i64) (Ty.pair (Ty.int IntKind.i64) (Ty.pair (Ty.int IntKind.i64) (Ty.pair (Ty.int IntKind.i64) (Ty.pair (Ty.int IntKind.i64) (Ty.pair (Ty.int IntKind.i64) (Ty.int IntKind.i64))))))) y0 (Int.toNat y3)).2.2.1 (at_ (Ty.pair (Ty.int IntKind.i64) (Ty.pair (Ty.int IntKind.i64) (Ty.pair (Ty.int IntKind.i64) (Ty.pair (Ty.int IntKind.i64) (Ty.pair (Ty.int IntKind.i64) (Ty.pair (Ty.int IntKind.i64) (Ty.int IntKind.i64))))))) y0 (Int.toNat y3)).2.2.2.1 (at_ (Ty.pair (Ty.int IntKind.i64) (Ty.pair (Ty.int IntKind.i64) (Ty.pair (Ty.int IntKind.i64) (Ty.pair (Ty.int IntKind.i64) (Ty.pair (Ty.int IntKind.i64) (Ty.pair (Ty.int IntKind.i64) (Ty.int IntKind.i64))))))) y0 (Int.toNat y3)).2.2.2.2.1 (at_ (Ty.pair (Ty.int IntKind.i64) (Ty.pair (Ty.int IntKind.i64) (Ty.pair (Ty.int IntKind.i64) (Ty.pair (Ty.int IntKind.i64) (Ty.pair (Ty.int IntKind.i64) (Ty.pair (Ty.int IntKind.i64) (Ty.int IntKind.i64))))))) y0 (Int.toNat y3)).2.2.2.2.2.1 (at_ (Ty.pair (Ty.int IntKind.i64) (Ty.pair (Ty.int IntKind.i64) (Ty.pair (Ty.int IntKind.i64) (Ty.pair (Ty.int IntKind.i64) (Ty.pair (Ty.int IntKind.i64) (Ty.pair (Ty.int IntKind.i64) (Ty.int IntKind.i64))))))) y0 (Int.toNat y3)).2.2.2.2.2.2]) * nat_lit 1 ≤ nat_lit 140737488355328 ∧ List.length y2 + List.length [g_Vi_GloDo_1 y1 y3 (at_ (Ty.pair (Ty.int IntKind.i64) (Ty.pair (Ty.int IntKind.i64) (Ty.pair (Ty.int IntKind.i64) (Ty.pair (Ty.int IntKind.i64) (Ty.pair (Ty.int IntKind.i64) (Ty.pair (Ty.int IntKind.i64) (Ty.int IntKind.i64))))))) y0 (Int.toNat y3)).1 (at_ (Ty.pair (Ty.int IntKind.i64) (Ty.pair (Ty.int IntKind.i64) (Ty.pair (Ty.int IntKind.i64) (Ty.pair (Ty.int IntKind.i64) (Ty.pair (Ty.int IntKind.i64) (Ty.pair (Ty.int IntKind.i64) (Ty.int IntKind.i64))))))) y0 (Int.toNat y3)).2.1 (at_ (Ty.pair (Ty.int IntKind.i64) (Ty.pair (Ty.int IntKind.i64) (Ty.pair (Ty.int IntKind.i64) (Ty.pair (Ty.int IntKind.i64) (Ty.pair (Ty.int IntKind.i64) (Ty.pair (Ty.int IntKind.i64) (Ty.int IntKind.i64))))))) y0 (Int.toNat y3)).2.2.1 (at_ (Ty.pair (Ty.int IntKind.i64) (Ty.pair (Ty.int IntKind.i64) (Ty.pair (Ty.int IntKind.i64) (Ty.pair (Ty.int IntKind.i64) (Ty.pair (Ty.int IntKind.i64) (Ty.pair (Ty.int IntKind.i64) (Ty.int IntKind.i64))))))) y0 (Int.toNat y3)).2.2.2.1 (at_ (Ty.pair (Ty.int IntKind.i64) (Ty.pair (Ty.int IntKind.i64) (Ty.pair (Ty.int IntKind.i64) (Ty.pair (Ty.int IntKind.i64) (Ty.pair (Ty.int IntKind.i64) (Ty.pair (Ty.int IntKind.i64) (Ty.int IntKind.i64))))))) y0 (Int.toNat y3)).2.2.2.2.1 (at_ (Ty.pair (Ty.int IntKind.i64) (Ty.pair (Ty.int IntKind.i64) (Ty.pair (Ty.int IntKind.i64) (Ty.pair (Ty.int IntKind.i64) (Ty.pair (Ty.int IntKind.i64) (Ty.pair (Ty.int IntKind.i64) (Ty.int IntKind.i64))))))) y0 (Int.toNat y3)).2.2.2.2.2.1 (at_ (Ty.pair (Ty.int IntKind.i64) (Ty.pair (Ty.int IntKind.i64) (Ty.pair (Ty.int IntKind.i64) (Ty.pair (Ty.int IntKind.i64) (Ty.pair (Ty.int IntKind.i64) (Ty.pair (Ty.int IntKind.i64) (Ty.int IntKind.i64))))))) y0 (Int.toNat y3)).2.2.2.2.2.2] ≤ nat_lit 9223372036854775807)) (.br (true) (.go ((g_Vi_GloDo_0 y1 y3 (at_ (Ty.pair (Ty.int IntKind.i64) (Ty.pair (Ty.int IntKind.i64) (Ty.pair (Ty.int IntKind.i64) (Ty.pair (Ty.int IntKind.i64) (Ty.pair (Ty.int IntKind.i64) (Ty.pair (Ty.int IntKind.i64) (Ty.int IntKind.i64))))))) y0 (Int.toNat y3)).1 (at_ (Ty.pair (Ty.int IntKind.i64) (Ty.pair (Ty.int IntKind.i64) (Ty.pair (Ty.int IntKind.i64) (Ty.pair (Ty.int IntKind.i64) (Ty.pair (Ty.int IntKind.i64) (Ty.pair (Ty.int IntKind.i64) (Ty.int IntKind.i64))))))) y0 (Int.toNat y3)).2.1 (at_ (Ty.pair (Ty.int IntKind.i64) (Ty.pair (Ty.int IntKind.i64) (Ty.pair (Ty.int IntKind.i64) (Ty.pair (Ty.int IntKind.i64) (Ty.pair (Ty.int IntKind.i64) (Ty.pair (Ty.int IntKind.i64) (Ty.int IntKind.i64))))))) y0 (Int.toNat y3)).2.2.1 (at_ (Ty.pair (Ty.int IntKind.i64) (Ty.pair (Ty.int IntKind.i64) (Ty.pair (Ty.int IntKind.i64) (Ty.pair (Ty.int IntKind.i64) (Ty.pair (Ty.int IntKind.i64) (Ty.pair (Ty.int IntKind.i64) (Ty.int IntKind.i64))))))) y0 (Int.toNat y3)).2.2.2.1 (at_ (Ty.pair (Ty.int IntKind.i64) (Ty.pair (Ty.int IntKind.i64) (Ty.pair (Ty.int IntKind.i64) (Ty.pair (Ty.int IntKind.i64) (Ty.pair (Ty.int IntKind.i64) (Ty.pair (Ty.int IntKind.i64) (Ty.int IntKind.i64))))))) y0 (Int.toNat y3)).2.2.2.2.1 (at_ (Ty.pair (Ty.int IntKind.i64) (Ty.pair (Ty.int IntKind.i64) (Ty.pair (Ty.int IntKind.i64) (Ty.pair (Ty.int IntKind.i64) (Ty.pair (Ty.int IntKind.i64) (Ty.pair (Ty.int IntKind.i64) (Ty.int IntKind.i64))))))) y0 (Int.toNat y3)).2.2.2.2.2.1 (at_ (Ty.pair (Ty.int IntKind.i64) (Ty.pair (Ty.int IntKind.i64) (Ty.pair (Ty.int IntKind.i64) (Ty.pair (Ty.int IntKind.i64) (Ty.pair (Ty.int IntKind.i64) (Ty.pair (Ty.int IntKind.i64) (Ty.int IntKind.i64))))))) y0 (Int.toNat y3)).2.2.2.2.2.2,y2 ++ [g_Vi_GloDo_1 y1 y3 (at_ (Ty.pair (Ty.int IntKind.i64) (Ty.pair (Ty.int IntKind.i64) (Ty.pair (Ty.int IntKind.i64) (Ty.pair (Ty.int IntKind.i64) (Ty.pair (Ty.int IntKind.i64) (Ty.pair (Ty.int IntKind.i64) (Ty.int IntKind.i64))))))) y0 (Int.toNat y3)).1 (at_ (Ty.pair (Ty.int IntKind.i64) (Ty.pair (Ty.int IntKind.i64) (Ty.pair (Ty.int IntKind.i64) (Ty.pair (Ty.int IntKind.i64) (Ty.pair (Ty.int IntKind.i64) (Ty.pair (Ty.int IntKind.i64) (Ty.int IntKind.i64))))))) y0 (Int.toNat y3)).2.1 (at_ (Ty.pair (Ty.int IntKind.i64) (Ty.pair (Ty.int IntKind.i64) (Ty.pair (Ty.int IntKind.i64) (Ty.pair (Ty.int IntKind.i64) (Ty.pair (Ty.int IntKind.i64) (Ty.pair (Ty.int IntKind.i64) (Ty.int IntKind.i64))))))) y0 (Int.toNat y3)).2.2.1 (at_ (Ty.pair (Ty.int IntKind.i64) (Ty.pair (Ty.int IntKind.i64) (Ty.pair (Ty.int IntKind.i64) (Ty.pair (Ty.int IntKind.i64) (Ty.pair (Ty.int IntKind.i64) (Ty.pair (Ty.int IntKind.i64) (Ty.int IntKind.i64))))))) y0 (Int.toNat y3)).2.2.2.1 (at_ (Ty.pair (Ty.int IntKind.i64) (Ty.pair (Ty.int IntKind.i64) (Ty.pair (Ty.int IntKind.i64) (Ty.pair (Ty.int IntKind.i64) (Ty.pair (Ty.int IntKind.i64) (Ty.pair (Ty.int IntKind.i64) (Ty.int IntKind.i64))))))) y0 (Int.toNat y3)).2.2.2.2.1 (at_ (Ty.pair (Ty.int IntKind.i64) (Ty.pair (Ty.int IntKind.i64) (Ty.pair (Ty.int IntKind.i64) (Ty.pair (Ty.int IntKind.i64) (Ty.pair (Ty.int IntKind.i64) (Ty.pair (Ty.int IntKind.i64) (Ty.int IntKind.i64))))))) y0 (Int.toNat y3)).2.2.2.2.2.1 (at_ (Ty.pair (Ty.int IntKind.i64) (Ty.pair (Ty.int IntKind.i64) (Ty.pair (Ty.int IntKind.i64) (Ty.pair (Ty.int IntKind.i64) (Ty.pair (Ty.int IntKind.i64) (Ty.pair (Ty.int IntKind.i64) (Ty.int IntKind.i64))))))) y0 (Int.toNat y3)).2.2.2.2.2.2],IntKind.wrap IntKind.i64 (y3 + (1:Int))))) .bad) .bad) (.br (decide ((List.length y2 + List.length [g_Vi_GloDo_1 y1 y3 (at_ (Ty.pair (Ty.int IntKind.i64) (Ty.pair (Ty.int IntKind.i64) (Ty.pair (Ty.int IntKind.i64) (Ty.pair (Ty.int IntKind.i64) (Ty.pair (Ty.int IntKind.i64) (Ty.pair (Ty.int IntKind.i64) (Ty.int IntKind.i64))))))) y0 (Int.toNat y3)).1 (at_ (Ty.pair (Ty.int IntKind.i64) (Ty.pair (Ty.int IntKind.i64) (Ty.pair (Ty.int IntKind.i64) (Ty.pair (Ty.int IntKind.i64) (Ty.pair (Ty.int IntKind.i64) (Ty.pair (Ty.int IntKind.i64) (Ty.int IntKind.i64))))))) y0 (Int.toNat y3)).2.1 (at_ (Ty.pair (Ty.int IntKind.i64) (Ty.pair (Ty.int IntKind.i64) (Ty.pair (Ty.int IntKind.i64) (Ty.pair (Ty.int IntKind.i64) (Ty.pair (Ty.int IntKind.i64) (Ty.pair (Ty.int IntKind.i64) (Ty.int IntKind.i64))))))) y0 (Int.toNat y3)).2.2.1 (at_ (Ty.pair (Ty.int IntKind.i64) (Ty.pair (Ty.int IntKind.i64) (Ty.pair (Ty.int IntKind.i64) (Ty.pair (Ty.int IntKind.i64) (Ty.pair (Ty.int IntKind.i64) (Ty.pair (Ty.int IntKind.i64) (Ty.int IntKind.i64))))))) y0 (Int.toNat y3)).2.2.2.1 (at_ (Ty.pair (Ty.int IntKind.i64) (Ty.pair (Ty.int IntKind.i64) (Ty.pair (Ty.int IntKind.i64) (Ty.pair (Ty.int IntKind.i64) (Ty.pair (Ty.int IntKind.i64) (Ty.pair (Ty.int IntKind.i64) (Ty.int IntKind.i64))))))) y0 (Int.toNat y3)).2.2.2.2.1 (at_ (Ty.pair (Ty.int IntKind.i64) (Ty.pair (Ty.int IntKind.i64) (Ty.pair (Ty.int IntKind.i64) (Ty.pair (Ty.int IntKind.i64) (Ty.pair (Ty.int IntKind.i64) (Ty.pair (Ty.int IntKind.i64) (Ty.int IntKind.i64))))))) y0 (Int.toNat y3)).2.2.2.2.2.1 (at_ (Ty.pair (Ty.int IntKind.i64) (Ty.pair (Ty.int IntKind.i64) (Ty.pair (Ty.int IntKind.i64) (Ty.pair (Ty.int IntKind.i64) (Ty.pair (Ty.int IntKind.i64) (Ty.pair (Ty.int IntKind.i64) (Ty.int IntKind.i64))))))) y0 (Int.toNat y3)).2.2.2.2.2.2]) * nat_lit 1 ≤ nat_lit 140737488355328 ∧ List.length y2 + List.length [g_Vi_GloDo_1 y1 y3 (at_ (Ty.pair (Ty.int IntKind.i64) (Ty.pair (Ty.int IntKind.i64) (Ty.pair (Ty.int IntKind.i64) (Ty.pair (Ty.int IntKind.i64) (Ty.pair (Ty.int IntKind.i64) (Ty.pair (Ty.int IntKind.i64) (Ty.int IntKind.i64))))))) y0 (Int.toNat y3)).1 (at_ (Ty.pair (Ty.int IntKind.i64) (Ty.pair (Ty.int IntKind.i64) (Ty.pair (Ty.int IntKind.i64) (Ty.pair (Ty.int IntKind.i64) (Ty.pair (Ty.int IntKind.i64) (Ty.pair (Ty.int IntKind.i64) (Ty.int IntKind.i64))))))) y0 (Int.toNat y3)).2.1 (at_ (Ty.pair (Ty.int IntKind.i64) (Ty.pair (Ty.int IntKind.i64) (Ty.pair (Ty.int IntKind.i64) (Ty.pair (Ty.int IntKind.i64) (Ty.pair (Ty.int IntKind.i64) (Ty.pair (Ty.int IntKind.i64) (Ty.int IntKind.i64))))))) y0 (Int.toNat y3)).2.2.1 (at_ (Ty.pair (Ty.int IntKind.i64) (Ty.pair (Ty.int IntKind.i64) (Ty.pair (Ty.int IntKind.i64) (Ty.pair (Ty.int IntKind.i64) (Ty.pair (Ty.int IntKind.i64) (Ty.pair (Ty.int IntKind.i64) (Ty.int IntKind.i64))))))) y0 (Int.toNat y3)).2.2.2.1 (at_ (Ty.pair (Ty.int IntKind.i64) (Ty.pair (Ty.int IntKind.i64) (Ty.pair (Ty.int IntKind.i64) (Ty.pair (Ty.int IntKind.i64) (Ty.pair (Ty.int IntKind.i64) (Ty.pair (Ty.int IntKind.i64) (Ty.int IntKind.i64))))))) y0 (Int.toNat y3)).2.2.2.2.1 (at_ (Ty.pair (Ty.int IntKind.i64) (Ty.pair (Ty.int IntKind.i64) (Ty.pair (Ty.int IntKind.i64) (Ty.pair (Ty.int IntKind.i64) (Ty.pair (Ty.int IntKind.i64) (Ty.pair (Ty.int IntKind.i64) (Ty.int IntKind.i64))))))) y0 (Int.toNat y3)).2.2.2.2.2.1 (at_ (Ty.pair (Ty.int IntKind.i64) (Ty.pair (Ty.int IntKind.i64) (Ty.pair (Ty.int IntKind.i64) (Ty.pair (Ty.int IntKind.i64) (Ty.pair (Ty.int IntKind.i64) (Ty.pair (Ty.int IntKind.i64) (Ty.int IntKind.i64))))))) y0 (Int.toNat y3)).2.2.2.2.2.2] ≤ nat_lit 9223372036854775807)) (.br (true) (.go ((y1,y2 ++ [g_Vi_GloDo_1 y1 y3 (at_ (Ty.pair (Ty.int IntKind.i64) (Ty.pair (Ty.int IntKind.i64) (Ty.pair (Ty.int IntKind.i64) (Ty.pair (Ty.int IntKind.i64) (Ty.pair (Ty.int IntKind.i64) (Ty.pair (Ty.int IntKind.i64) (Ty.int IntKind.i64))))))) y0 (Int.toNat y3)).1 (at_ (Ty.pair (Ty.int IntKind.i64) (Ty.pair (Ty.int IntKind.i64) (Ty.pair (Ty.int IntKind.i64) (Ty.pair (Ty.int IntKind.i64) (Ty.pair (Ty.int IntKind.i64) (Ty.pair (Ty.int IntKind.i64) (Ty.int IntKind.i64))))))) y0 (Int.toNat y3)).2.1 (at_ (Ty.pair (Ty.int IntKind.i64) (Ty.pair (Ty.int IntKind.i64) (Ty.pair (Ty.int IntKind.i64) (Ty.pair (Ty.int IntKind.i64) (Ty.pair (Ty.int IntKind.i64) (Ty.pair (Ty.int IntKind.i64) (Ty.int IntKind.i64))))))) y0 (Int.toNat y3)).2.2.1 (at_ (Ty.pair (Ty.int IntKind.i64) (Ty.pair (Ty.int IntKind.i64) (Ty.pair (Ty.int IntKind.i64) (Ty.pair (Ty.int IntKind.i64) (Ty.pair (Ty.int IntKind.i64) (Ty.pair (Ty.int IntKind.i64) (Ty.int IntKind.i64))))))) y0 (Int.toNat y3)).2.2.2.1 (at_ (Ty.pair (Ty.int IntKind.i64) (Ty.pair (Ty.int IntKind.i64) (Ty.pair (Ty.int IntKind.i64) (Ty.pair (Ty.int IntKind.i64) (Ty.pair (Ty.int IntKind.i64) (Ty.pair (Ty.int IntKind.i64) (Ty.int IntKind.i64))))))) y0 (Int.toNat y3)).2.2.2.2.1 (at_ (Ty.pair (Ty.int IntKind.i64) (Ty.pair (Ty.int IntKind.i64) (Ty.pair (Ty.int IntKind.i64) (Ty.pair (Ty.int IntKind.i64) (Ty.pair (Ty.int IntKind.i64) (Ty.pair (Ty.int IntKind.i64) (Ty.int IntKind.i64))))))) y0 (Int.toNat y3)).2.2.2.2.2.1 (at_ (Ty.pair (Ty.int IntKind.i64) (Ty.pair (Ty.int IntKind.i64) (Ty.pair (Ty.int IntKind.i64) (Ty.pair (Ty.int IntKind.i64) (Ty.pair (Ty.int IntKind.i64) (Ty.pair (Ty.int IntKind.i64) (Ty.int IntKind.i64))))))) y0 (Int.toNat y3)).2.2.2.2.2.2],IntKind.wrap IntKind.i64 (y3 + (1:Int))))) .bad) .bad)) .bad) .bad) (.out ((y1,y2)))) .bad
noncomputable def g_Lw_jaGlo_0 (y0:List (Int×(Int×(Int×(Int×(Int×(Int×Int))))))) (x:(List (List (ByteArray×(List Int))))×(List Bool)×Int):Option (((List (List (ByteArray×(List Int))))×(List Bool))) := loopO (g_Sw_jaGlo_0 y0) x
noncomputable def xw_jaGlo_0 (y0:List (Int×(Int×(Int×(Int×(Int×(Int×Int))))))):(((List (List (ByteArray×(List Int))))×(List Bool))) → Ex×List (Pl×LV) := fun r => (.exit 0,[(.T 4,.t (.val false [.row 4 0 0])),(.R 4 0,.r 0 (some ⟨false,.any,true,32,(.sl 42 (.pair .str (.sl 3 (.int .i64)))),r.1⟩)),(.T 5,.t (.val false [.row 5 0 0])),(.R 5 0,.r 0 (some ⟨false,.non,true,4,.bool,r.2⟩))])
noncomputable def Ow_jaGlo_1:Orc := fun b h => match b,h with
 | 0,[(.T 0,.t (.val false [.sl .any 24 (.pair (.int .i64) (.pair (.int .i64) (.pair (.int .i64) (.pair (.int .i64) (.pair (.int .i64) (.pair (.int .i64) (.int .i64))))))) y0])),(.T 4,.t (.val false [.row 4 0 0])),(.R 4 0,.r 0 (some ⟨false,.any,true,32,(.sl 42 (.pair .str (.sl 3 (.int .i64)))),y1⟩)),(.T 5,.t (.val false [.row 5 0 0])),(.R 5 0,.r 0 (some ⟨false,.non,true,4,.bool,y2⟩)),(.T 6,.t (.val false [.int .i64 y3]))] => some (okO (g_Lw_jaGlo_0 y0 (y1,y2,y3)),(.leaf (.exit 0) [(.T 4,.t (.val false [.row 4 0 0])),(.R 4 0,.r 0 (some ⟨false,.any,true,32,(.sl 42 (.pair .str (.sl 3 (.int .i64)))),(valO (g_Lw_jaGlo_0 y0 (y1,y2,y3))).1⟩)),(.T 5,.t (.val false [.row 5 0 0])),(.R 5 0,.r 0 (some ⟨false,.non,true,4,.bool,(valO (g_Lw_jaGlo_0 y0 (y1,y2,y3))).2⟩))]))
 | b,h => Ow_jaGlo_0 b h
theorem bw_jaGlo_0 (y0:List (Int×(Int×(Int×(Int×(Int×(Int×Int))))))) (y1:List (List (ByteArray×(List Int)))) (y2:List Bool) (y3:Int):Tr.bt Ew_jaGlo Ow_jaGlo_0 (exec Ew_jaGlo 0 cw_jaGlo_0 (St.of (hw_jaGlo_0 y0 y1 y2 y3)) (leafRd Ew_jaGlo 0)) = (g_Sw_jaGlo_0 y0 (y1,y2,y3)).bt (fun ((y1,y2,y3):(List (List (ByteArray×(List Int))))×(List Bool)×Int) => (hw_jaGlo_0 y0 y1 y2 y3)) (xw_jaGlo_0 y0) := by kernel_rfl
theorem kw_jaGlo_1:OrcOk Ew_jaGlo Ow_jaGlo_1 lsw_jaGlo 1 := orc_add kw_jaGlo_0 (fun n p hp h ex h' ho => by
 obtain ⟨b,c⟩ := p
 obtain ⟨xt,h1,h2⟩ := ho
 have h1:Ow_jaGlo_1 b h = some (true,xt) := h1
 unfold Ow_jaGlo_1 at h1
 split at h1
 ·injection h1 with h1
  injection h1 with e1 e2
  subst e2
  have hc:c = cw_jaGlo_0 := mw_jaGlo_0 _ hp rfl
  subst hc
  right
  rename_i y0 y1 y2 y3
  have key := LT_step kw_jaGlo_0 hp (fun q hq => loopsAll_in _ _ _ _ hp hq) (fun ((y1,y2,y3):(List (List (ByteArray×(List Int))))×(List Bool)×Int) => (hw_jaGlo_0 y0 y1 y2 y3)) (xw_jaGlo_0 y0) (g_Sw_jaGlo_0 y0) (fun x => by first | exact bw_jaGlo_0 y0 x.1 x.2.1 x.2.2) n (x := (y1,y2,y3)) (okO_some e1)
  have hx:∀ r,XT.sel (.leaf (.exit 0) [(.T 4,.t (.val false [.row 4 0 0])),(.R 4 0,.r 0 (some ⟨false,.any,true,32,(.sl 42 (.pair .str (.sl 3 (.int .i64)))),r.1⟩)),(.T 5,.t (.val false [.row 5 0 0])),(.R 5 0,.r 0 (some ⟨false,.non,true,4,.bool,r.2⟩))]) = xw_jaGlo_0 y0 r := fun r => by first | rfl | (rcases r with r | r <;> rfl) | (rcases r with r | r | r <;> rfl) | (rcases r with r | r | r | r <;> rfl)
  have h3 := (hx (valO (g_Lw_jaGlo_0 y0 (y1,y2,y3)))).symm.trans h2
  have e3 := congrArg Prod.fst h3
  have e4 := congrArg Prod.snd h3
  simp only at e3 e4
  rw [← e3,← e4]
  exact key
 ·exact .inl ⟨xt,h1,h2⟩)
noncomputable def g_Aw_jaGlo (a0:List (Int×(Int×(Int×(Int×(Int×(Int×Int))))))):Bool := okO (g_Lw_jaGlo_0 a0 (g_Vi_GloNew_0,[],(0:Int)))
noncomputable def g_Vw_jaGlo_0 (a0:List (Int×(Int×(Int×(Int×(Int×(Int×Int))))))):List (List (ByteArray×(List Int))) := (valO (g_Lw_jaGlo_0 a0 (g_Vi_GloNew_0,[],(0:Int)))).1
noncomputable def g_Vw_jaGlo_1 (a0:List (Int×(Int×(Int×(Int×(Int×(Int×Int))))))):List Bool := (valO (g_Lw_jaGlo_0 a0 (g_Vi_GloNew_0,[],(0:Int)))).2
noncomputable def Fw_jaGlo:FSem := fun ys => match ys with
 | [.val false [.sl .any 24 (.pair (.int .i64) (.pair (.int .i64) (.pair (.int .i64) (.pair (.int .i64) (.pair (.int .i64) (.pair (.int .i64) (.int .i64))))))) a0]] => some ((g_Aw_jaGlo a0),.tup [(false,[.own .any true 32 (.sl 42 (.pair .str (.sl 3 (.int .i64)))) (g_Vw_jaGlo_0 a0)]),(false,[.own .any true 4 .bool (g_Vw_jaGlo_1 a0)])],[])
 | _ => none
theorem vw_jaGlo (a0:List (Int×(Int×(Int×(Int×(Int×(Int×Int))))))):collapseH .std Ew_jaGlo Ow_jaGlo_1 (execFn Ew_jaGlo Tryd.f13 msw_jaGlo [.val false [.sl .any 24 (.pair (.int .i64) (.pair (.int .i64) (.pair (.int .i64) (.pair (.int .i64) (.pair (.int .i64) (.pair (.int .i64) (.int .i64))))))) a0]]) = some ((g_Aw_jaGlo a0),.tup [(false,[.own .any true 32 (.sl 42 (.pair .str (.sl 3 (.int .i64)))) (g_Vw_jaGlo_0 a0)]),(false,[.own .any true 4 .bool (g_Vw_jaGlo_1 a0)])],[]) := by kernel_rfl
theorem sw_jaGlo:Sound Tryd.prog 13 msw_jaGlo Fw_jaGlo := by
 refine fn_gen goodw_jaGlo (by kernel_rfl) .std (fn := Tryd.f13) (c := (Tryd.f13.body.getD .skip)) (o := Ow_jaGlo_1) (k := 1) (by kernel_rfl) (by kernel_rfl) (by kernel_rfl) (by kernel_rfl) (by decide) kw_jaGlo_1 ?_
 intro ys r outs h
 unfold Fw_jaGlo at h
 split at h
 ·exact (vw_jaGlo _).trans h
 ·cases h
noncomputable def Ew_FnGloTheft:Env where
 tt := mkTI Tryd.prog
 fn := fun f => match f with
  | 13 => some (msw_jaGlo,FSem.wk msw_jaGlo Fw_jaGlo)
  | 14 => some (msi_GloDo,FSem.wk msi_GloDo Fi_GloDo)
  | 15 => some (msi_GloOk,FSem.wk msi_GloOk Fi_GloOk)
  | _ => none
 bxf := fun _ => none
 mv := []
 keep := fun b => match b with
  | 0 => [(0,false),(3,false),(4,false),(5,false)]
  | 2 => [(3,false),(4,false),(7,false),(9,false)]
  | _ => []
 keepB := fun b => match b with
  | 0 => []
  | 2 => []
  | _ => []
 keepX := fun b => match b with
  | 0 => [(0,false),(3,false),(4,false)]
  | 2 => [(2,false),(7,false)]
  | _ => []
 keepXB := fun b => match b with
  | 0 => []
  | 2 => []
  | _ => []
theorem goodFw_FnGloTheft:∀ f ms F,Ew_FnGloTheft.fn f = some (ms,F) → Sound Tryd.prog f ms F := fun f ms F h => by
 unfold Ew_FnGloTheft at h
 dsimp only at h
 split at h
 ·injection h with h; injection h with e1 e2; subst e1 e2; exact Sound.wk sw_jaGlo
 ·injection h with h; injection h with e1 e2; subst e1 e2; exact Sound.wk si_GloDo
 ·injection h with h; injection h with e1 e2; subst e1 e2; exact Sound.wk si_GloOk
 ·cases h
theorem goodBw_FnGloTheft:∀ f ms F,Ew_FnGloTheft.bxf f = some (ms,F) → SoundB Tryd.prog f ms F := fun f ms F h => by cases h
theorem goodw_FnGloTheft:Good Tryd.prog Ew_FnGloTheft := ⟨rfl,goodFw_FnGloTheft,goodBw_FnGloTheft⟩
noncomputable def Ow_FnGloTheft_0:Orc := fun _ _ => none
noncomputable def msw_FnGloTheft:List PM := [.rd]
noncomputable def lsw_FnGloTheft:List (Nat×Code) := loopsAll 0 (Tryd.f3.body.getD .skip)
noncomputable def cw_FnGloTheft_0:Code := (loopOf 0 (Tryd.f3.body.getD .skip)).getD .skip
noncomputable def cw_FnGloTheft_2:Code := (loopOf 2 (Tryd.f3.body.getD .skip)).getD .skip
theorem lseqw_FnGloTheft:lsw_FnGloTheft = [(0,cw_FnGloTheft_0),(2,cw_FnGloTheft_2)] := by kernel_rfl
theorem mw_FnGloTheft_0:∀ p,p ∈ lsw_FnGloTheft → p.1 = 0 → p.2 = cw_FnGloTheft_0 := by
 intro p hp
 rw [lseqw_FnGloTheft] at hp
 simp only [List.mem_cons,List.not_mem_nil,or_false] at hp
 rcases hp with rfl | rfl <;> simp
theorem mw_FnGloTheft_2:∀ p,p ∈ lsw_FnGloTheft → p.1 = 2 → p.2 = cw_FnGloTheft_2 := by
 intro p hp
 rw [lseqw_FnGloTheft] at hp
 simp only [List.mem_cons,List.not_mem_nil,or_false] at hp
 rcases hp with rfl | rfl <;> simp
theorem kw_FnGloTheft_0:OrcOk Ew_FnGloTheft Ow_FnGloTheft_0 lsw_FnGloTheft 0 := orcOk_none
noncomputable def hw_FnGloTheft_0 (y0:List Int) (y1:Int) (y2:List (Int×(Int×(Int×(Int×(Int×(Int×Int))))))) (y3:Int):List (Pl×LV) := [(.T 0,.t (.val false [.sl .any 5 (.int .u8) y0])),(.T 3,.t (.val false [.int .i64 y1])),(.T 4,.t (.val false [.row 4 0 0])),(.R 4 0,.r 0 (some ⟨false,.non,true,24,(.pair (.int .i64) (.pair (.int .i64) (.pair (.int .i64) (.pair (.int .i64) (.pair (.int .i64) (.pair (.int .i64) (.int .i64))))))),y2⟩)),(.T 5,.t (.val false [.int .i64 y3]))]
noncomputable def g_Sw_FnGloTheft_0 (y0:List Int) (y1:Int):((List (Int×(Int×(Int×(Int×(Int×(Int×Int)))))))×Int) → RT ((List (Int×(Int×(Int×(Int×(Int×(Int×Int)))))))×Int) (((List (Int×(Int×(Int×(Int×(Int×(Int×Int)))))))))
 | (y2,y3) => .br (true) (.br (decide (y3 < y1)) (.br (decide ((List.length y2 + List.length [((4:Int),(0:Int),(0:Int),(0:Int),(0:Int),(3:Int),y3)]) * nat_lit 56 ≤ nat_lit 140737488355328 ∧ List.length y2 + List.length [((4:Int),(0:Int),(0:Int),(0:Int),(0:Int),(3:Int),y3)] ≤ nat_lit 9223372036854775807)) (.br (true) (.go ((y2 ++ [((4:Int),(0:Int),(0:Int),(0:Int),(0:Int),(3:Int),y3)],IntKind.wrap IntKind.i64 (y3 + (1:Int))))) .bad) .bad) (.out (y2))) .bad
noncomputable def g_Lw_FnGloTheft_0 (y0:List Int) (y1:Int) (x:(List (Int×(Int×(Int×(Int×(Int×(Int×Int)))))))×Int):Option (((List (Int×(Int×(Int×(Int×(Int×(Int×Int))))))))) := loopO (g_Sw_FnGloTheft_0 y0 y1) x
noncomputable def xw_FnGloTheft_0 (y0:List Int) (y1:Int):(((List (Int×(Int×(Int×(Int×(Int×(Int×Int))))))))) → Ex×List (Pl×LV) := fun r => (.exit 0,[(.T 0,.t (.val false [.sl .any 5 (.int .u8) y0])),(.T 3,.t (.val false [.int .i64 y1])),(.T 4,.t (.val false [.row 4 0 0])),(.R 4 0,.r 0 (some ⟨false,.non,true,24,(.pair (.int .i64) (.pair (.int .i64) (.pair (.int .i64) (.pair (.int .i64) (.pair (.int .i64) (.pair (.int .i64) (.int .i64))))))),r⟩))])
noncomputable def Ow_FnGloTheft_1:Orc := fun b h => match b,h with
 | 0,[(.T 0,.t (.val false [.sl .any 5 (.int .u8) y0])),(.T 3,.t (.val false [.int .i64 y1])),(.T 4,.t (.val false [.row 4 0 0])),(.R 4 0,.r 0 (some ⟨false,.non,true,24,(.pair (.int .i64) (.pair (.int .i64) (.pair (.int .i64) (.pair (.int .i64) (.pair (.int .i64) (.pair (.int .i64) (.int .i64))))))),y2⟩)),(.T 5,.t (.val false [.int .i64 y3]))] => some (okO (g_Lw_FnGloTheft_0 y0 y1 (y2,y3)),(.leaf (.exit 0) [(.T 0,.t (.val false [.sl .any 5 (.int .u8) y0])),(.T 3,.t (.val false [.int .i64 y1])),(.T 4,.t (.val false [.row 4 0 0])),(.R 4 0,.r 0 (some ⟨false,.non,true,24,(.pair (.int .i64) (.pair (.int .i64) (.pair (.int .i64) (.pair (.int .i64) (.pair (.int .i64) (.pair (.int .i64) (.int .i64))))))),(valO (g_Lw_FnGloTheft_0 y0 y1 (y2,y3)))⟩))]))
 | b,h => Ow_FnGloTheft_0 b h
theorem bw_FnGloTheft_0 (y0:List Int) (y1:Int) (y2:List (Int×(Int×(Int×(Int×(Int×(Int×Int))))))) (y3:Int):Tr.bt Ew_FnGloTheft Ow_FnGloTheft_0 (exec Ew_FnGloTheft 0 cw_FnGloTheft_0 (St.of (hw_FnGloTheft_0 y0 y1 y2 y3)) (leafRd Ew_FnGloTheft 0)) = (g_Sw_FnGloTheft_0 y0 y1 (y2,y3)).bt (fun ((y2,y3):(List (Int×(Int×(Int×(Int×(Int×(Int×Int)))))))×Int) => (hw_FnGloTheft_0 y0 y1 y2 y3)) (xw_FnGloTheft_0 y0 y1) := by kernel_rfl
theorem kw_FnGloTheft_1:OrcOk Ew_FnGloTheft Ow_FnGloTheft_1 lsw_FnGloTheft 1 := orc_add kw_FnGloTheft_0 (fun n p hp h ex h' ho => by
 obtain ⟨b,c⟩ := p
 obtain ⟨xt,h1,h2⟩ := ho
 have h1:Ow_FnGloTheft_1 b h = some (true,xt) := h1
 unfold Ow_FnGloTheft_1 at h1
 split at h1
 ·injection h1 with h1
  injection h1 with e1 e2
  subst e2
  have hc:c = cw_FnGloTheft_0 := mw_FnGloTheft_0 _ hp rfl
  subst hc
  right
  rename_i y0 y1 y2 y3
  have key := LT_step kw_FnGloTheft_0 hp (fun q hq => loopsAll_in _ _ _ _ hp hq) (fun ((y2,y3):(List (Int×(Int×(Int×(Int×(Int×(Int×Int)))))))×Int) => (hw_FnGloTheft_0 y0 y1 y2 y3)) (xw_FnGloTheft_0 y0 y1) (g_Sw_FnGloTheft_0 y0 y1) (fun x => by first | exact bw_FnGloTheft_0 y0 y1 x.1 x.2) n (x := (y2,y3)) (okO_some e1)
  have hx:∀ r,XT.sel (.leaf (.exit 0) [(.T 0,.t (.val false [.sl .any 5 (.int .u8) y0])),(.T 3,.t (.val false [.int .i64 y1])),(.T 4,.t (.val false [.row 4 0 0])),(.R 4 0,.r 0 (some ⟨false,.non,true,24,(.pair (.int .i64) (.pair (.int .i64) (.pair (.int .i64) (.pair (.int .i64) (.pair (.int .i64) (.pair (.int .i64) (.int .i64))))))),r⟩))]) = xw_FnGloTheft_0 y0 y1 r := fun r => by first | rfl | (rcases r with r | r <;> rfl) | (rcases r with r | r | r <;> rfl) | (rcases r with r | r | r | r <;> rfl)
  have h3 := (hx (valO (g_Lw_FnGloTheft_0 y0 y1 (y2,y3)))).symm.trans h2
  have e3 := congrArg Prod.fst h3
  have e4 := congrArg Prod.snd h3
  simp only at e3 e4
  rw [← e3,← e4]
  exact key
 ·exact .inl ⟨xt,h1,h2⟩)
noncomputable def hw_FnGloTheft_2 (y0:Int) (y1:List (Int×(Int×(Int×(Int×(Int×(Int×Int))))))) (y2:List (List (ByteArray×(List Int)))) (y3:Int):List (Pl×LV) := [(.T 3,.t (.val false [.int .i64 y0])),(.T 4,.t (.val false [.row 4 0 0])),(.R 4 0,.r 0 (some ⟨false,.non,true,24,(.pair (.int .i64) (.pair (.int .i64) (.pair (.int .i64) (.pair (.int .i64) (.pair (.int .i64) (.pair (.int .i64) (.int .i64))))))),y1⟩)),(.T 7,.t (.val false [.row 7 0 0])),(.R 7 0,.r 0 (some ⟨false,.any,false,32,(.sl 42 (.pair .str (.sl 3 (.int .i64)))),y2⟩)),(.T 9,.t (.val false [.int .i64 y3]))]
noncomputable def g_Sw_FnGloTheft_2 (y0:Int) (y1:List (Int×(Int×(Int×(Int×(Int×(Int×Int))))))) (y2:List (List (ByteArray×(List Int)))):(Int) → RT (Int) ((Bool) ⊕ (Unit))
 | y3 => .br (true) (.br (true) (.br (decide (y3 ≤ IntKind.wrap IntKind.i64 (y0 + (1:Int)))) (.br (g_Ai_GloDo y2 (↑(List.length y1):Int) (4:Int) (0:Int) (0:Int) (0:Int) (0:Int) (3:Int) y3) (.br (g_Vi_GloDo_1 y2 (↑(List.length y1):Int) (4:Int) (0:Int) (0:Int) (0:Int) (0:Int) (3:Int) y3) (.out (.inl false)) (.br (true) (.go (IntKind.wrap IntKind.i64 (y3 + (1:Int)))) .bad)) .bad) (.out (.inr (())))) .bad) .bad
noncomputable def g_Lw_FnGloTheft_2 (y0:Int) (y1:List (Int×(Int×(Int×(Int×(Int×(Int×Int))))))) (y2:List (List (ByteArray×(List Int)))) (x:Int):Option ((Bool) ⊕ (Unit)) := loopO (g_Sw_FnGloTheft_2 y0 y1 y2) x
noncomputable def xw_FnGloTheft_2 (y0:Int) (y1:List (Int×(Int×(Int×(Int×(Int×(Int×Int))))))) (y2:List (List (ByteArray×(List Int)))):((Bool) ⊕ (Unit)) → Ex×List (Pl×LV) := fun
 | .inl r => (.ret,[(.T 2,.t (.val false [.bool r])),(.T 7,.t (.val false [.row 7 0 0])),(.R 7 0,.r 0 (some ⟨false,.any,false,32,(.sl 42 (.pair .str (.sl 3 (.int .i64)))),y2⟩))])
 | .inr (r) => (.exit 2,[(.T 2,.t (.val false [.undef])),(.T 7,.t (.val false [.row 7 0 0])),(.R 7 0,.r 0 (some ⟨false,.any,false,32,(.sl 42 (.pair .str (.sl 3 (.int .i64)))),y2⟩))])
noncomputable def Ow_FnGloTheft_2:Orc := fun b h => match b,h with
 | 2,[(.T 3,.t (.val false [.int .i64 y0])),(.T 4,.t (.val false [.row 4 0 0])),(.R 4 0,.r 0 (some ⟨false,.non,true,24,(.pair (.int .i64) (.pair (.int .i64) (.pair (.int .i64) (.pair (.int .i64) (.pair (.int .i64) (.pair (.int .i64) (.int .i64))))))),y1⟩)),(.T 7,.t (.val false [.row 7 0 0])),(.R 7 0,.r 0 (some ⟨false,.any,false,32,(.sl 42 (.pair .str (.sl 3 (.int .i64)))),y2⟩)),(.T 9,.t (.val false [.int .i64 y3]))] => some (okO (g_Lw_FnGloTheft_2 y0 y1 y2 y3),(.br (isL (valO (g_Lw_FnGloTheft_2 y0 y1 y2 y3))) (.leaf .ret [(.T 2,.t (.val false [.bool (getL (valO (g_Lw_FnGloTheft_2 y0 y1 y2 y3)))])),(.T 7,.t (.val false [.row 7 0 0])),(.R 7 0,.r 0 (some ⟨false,.any,false,32,(.sl 42 (.pair .str (.sl 3 (.int .i64)))),y2⟩))]) (.leaf (.exit 2) [(.T 2,.t (.val false [.undef])),(.T 7,.t (.val false [.row 7 0 0])),(.R 7 0,.r 0 (some ⟨false,.any,false,32,(.sl 42 (.pair .str (.sl 3 (.int .i64)))),y2⟩))])))
 | b,h => Ow_FnGloTheft_1 b h
theorem bw_FnGloTheft_2 (y0:Int) (y1:List (Int×(Int×(Int×(Int×(Int×(Int×Int))))))) (y2:List (List (ByteArray×(List Int)))) (y3:Int):Tr.bt Ew_FnGloTheft Ow_FnGloTheft_1 (exec Ew_FnGloTheft 2 cw_FnGloTheft_2 (St.of (hw_FnGloTheft_2 y0 y1 y2 y3)) (leafRd Ew_FnGloTheft 2)) = (g_Sw_FnGloTheft_2 y0 y1 y2 y3).bt (fun (y3:Int) => (hw_FnGloTheft_2 y0 y1 y2 y3)) (xw_FnGloTheft_2 y0 y1 y2) := by kernel_rfl
theorem kw_FnGloTheft_2:OrcOk Ew_FnGloTheft Ow_FnGloTheft_2 lsw_FnGloTheft 2 := orc_add kw_FnGloTheft_1 (fun n p hp h ex h' ho => by
 obtain ⟨b,c⟩ := p
 obtain ⟨xt,h1,h2⟩ := ho
 have h1:Ow_FnGloTheft_2 b h = some (true,xt) := h1
 unfold Ow_FnGloTheft_2 at h1
 split at h1
 ·injection h1 with h1
  injection h1 with e1 e2
  subst e2
  have hc:c = cw_FnGloTheft_2 := mw_FnGloTheft_2 _ hp rfl
  subst hc
  right
  rename_i y0 y1 y2 y3
  have key := LT_step kw_FnGloTheft_1 hp (fun q hq => loopsAll_in _ _ _ _ hp hq) (fun (y3:Int) => (hw_FnGloTheft_2 y0 y1 y2 y3)) (xw_FnGloTheft_2 y0 y1 y2) (g_Sw_FnGloTheft_2 y0 y1 y2) (fun x => by first | exact bw_FnGloTheft_2 y0 y1 y2 x) n (x := y3) (okO_some e1)
  have hx:∀ r,XT.sel (.br (isL r) (.leaf .ret [(.T 2,.t (.val false [.bool (getL r)])),(.T 7,.t (.val false [.row 7 0 0])),(.R 7 0,.r 0 (some ⟨false,.any,false,32,(.sl 42 (.pair .str (.sl 3 (.int .i64)))),y2⟩))]) (.leaf (.exit 2) [(.T 2,.t (.val false [.undef])),(.T 7,.t (.val false [.row 7 0 0])),(.R 7 0,.r 0 (some ⟨false,.any,false,32,(.sl 42 (.pair .str (.sl 3 (.int .i64)))),y2⟩))])) = xw_FnGloTheft_2 y0 y1 y2 r := fun r => by first | rfl | (rcases r with r | r <;> rfl) | (rcases r with r | r | r <;> rfl) | (rcases r with r | r | r | r <;> rfl)
  have h3 := (hx (valO (g_Lw_FnGloTheft_2 y0 y1 y2 y3))).symm.trans h2
  have e3 := congrArg Prod.fst h3
  have e4 := congrArg Prod.snd h3
  simp only at e3 e4
  rw [← e3,← e4]
  exact key
 ·exact .inl ⟨xt,h1,h2⟩)
noncomputable def g_Aw_FnGloTheft (a0:List Int):Bool := decide ((↑(List.length a0):Int) > (1048576:Int)) || okO (g_Lw_FnGloTheft_0 a0 (IntKind.wrap IntKind.i64 ((2:Int) + Int.tmod (↑(List.length a0):Int) (6:Int))) ([((1:Int),(1:Int),(1:Int),(0:Int),(0:Int),(0:Int),(0:Int)),((2:Int),(1:Int),(1:Int),(1:Int),(5:Int),(0:Int),(0:Int)),((3:Int),(0:Int),(0:Int),(1:Int),(5:Int),(3:Int),(0:Int))],(1:Int)))&&(!IntKind.wrap IntKind.i64 (IntKind.wrap IntKind.i64 ((2:Int) + Int.tmod (↑(List.length a0):Int) (6:Int)) - (1:Int)) == (0:Int)&&(decide ((List.length (valO (g_Lw_FnGloTheft_0 a0 (IntKind.wrap IntKind.i64 ((2:Int) + Int.tmod (↑(List.length a0):Int) (6:Int))) ([((1:Int),(1:Int),(1:Int),(0:Int),(0:Int),(0:Int),(0:Int)),((2:Int),(1:Int),(1:Int),(1:Int),(5:Int),(0:Int),(0:Int)),((3:Int),(0:Int),(0:Int),(1:Int),(5:Int),(3:Int),(0:Int))],(1:Int)))) + List.length [((4:Int),(0:Int),(0:Int),(0:Int),(0:Int),(3:Int),IntKind.wrap IntKind.i64 ((1:Int) + Int.tmod (IntKind.wrap IntKind.i64 (Int.tdiv (↑(List.length a0):Int) (6:Int))) (IntKind.wrap IntKind.i64 (IntKind.wrap IntKind.i64 ((2:Int) + Int.tmod (↑(List.length a0):Int) (6:Int)) - (1:Int)))))]) * nat_lit 56 ≤ nat_lit 140737488355328 ∧ List.length (valO (g_Lw_FnGloTheft_0 a0 (IntKind.wrap IntKind.i64 ((2:Int) + Int.tmod (↑(List.length a0):Int) (6:Int))) ([((1:Int),(1:Int),(1:Int),(0:Int),(0:Int),(0:Int),(0:Int)),((2:Int),(1:Int),(1:Int),(1:Int),(5:Int),(0:Int),(0:Int)),((3:Int),(0:Int),(0:Int),(1:Int),(5:Int),(3:Int),(0:Int))],(1:Int)))) + List.length [((4:Int),(0:Int),(0:Int),(0:Int),(0:Int),(3:Int),IntKind.wrap IntKind.i64 ((1:Int) + Int.tmod (IntKind.wrap IntKind.i64 (Int.tdiv (↑(List.length a0):Int) (6:Int))) (IntKind.wrap IntKind.i64 (IntKind.wrap IntKind.i64 ((2:Int) + Int.tmod (↑(List.length a0):Int) (6:Int)) - (1:Int)))))] ≤ nat_lit 9223372036854775807)&&(g_Aw_jaGlo (valO (g_Lw_FnGloTheft_0 a0 (IntKind.wrap IntKind.i64 ((2:Int) + Int.tmod (↑(List.length a0):Int) (6:Int))) ([((1:Int),(1:Int),(1:Int),(0:Int),(0:Int),(0:Int),(0:Int)),((2:Int),(1:Int),(1:Int),(1:Int),(5:Int),(0:Int),(0:Int)),((3:Int),(0:Int),(0:Int),(1:Int),(5:Int),(3:Int),(0:Int))],(1:Int))) ++ [((4:Int),(0:Int),(0:Int),(0:Int),(0:Int),(3:Int),IntKind.wrap IntKind.i64 ((1:Int) + Int.tmod (IntKind.wrap IntKind.i64 (Int.tdiv (↑(List.length a0):Int) (6:Int))) (IntKind.wrap IntKind.i64 (IntKind.wrap IntKind.i64 ((2:Int) + Int.tmod (↑(List.length a0):Int) (6:Int)) - (1:Int)))))])&&(decide ((0:Int) ≤ IntKind.wrap IntKind.i64 ((↑(List.length (g_Vw_jaGlo_1 (valO (g_Lw_FnGloTheft_0 a0 (IntKind.wrap IntKind.i64 ((2:Int) + Int.tmod (↑(List.length a0):Int) (6:Int))) ([((1:Int),(1:Int),(1:Int),(0:Int),(0:Int),(0:Int),(0:Int)),((2:Int),(1:Int),(1:Int),(1:Int),(5:Int),(0:Int),(0:Int)),((3:Int),(0:Int),(0:Int),(1:Int),(5:Int),(3:Int),(0:Int))],(1:Int))) ++ [((4:Int),(0:Int),(0:Int),(0:Int),(0:Int),(3:Int),IntKind.wrap IntKind.i64 ((1:Int) + Int.tmod (IntKind.wrap IntKind.i64 (Int.tdiv (↑(List.length a0):Int) (6:Int))) (IntKind.wrap IntKind.i64 (IntKind.wrap IntKind.i64 ((2:Int) + Int.tmod (↑(List.length a0):Int) (6:Int)) - (1:Int)))))]))):Int) - (1:Int)) ∧ IntKind.wrap IntKind.i64 ((↑(List.length (g_Vw_jaGlo_1 (valO (g_Lw_FnGloTheft_0 a0 (IntKind.wrap IntKind.i64 ((2:Int) + Int.tmod (↑(List.length a0):Int) (6:Int))) ([((1:Int),(1:Int),(1:Int),(0:Int),(0:Int),(0:Int),(0:Int)),((2:Int),(1:Int),(1:Int),(1:Int),(5:Int),(0:Int),(0:Int)),((3:Int),(0:Int),(0:Int),(1:Int),(5:Int),(3:Int),(0:Int))],(1:Int))) ++ [((4:Int),(0:Int),(0:Int),(0:Int),(0:Int),(3:Int),IntKind.wrap IntKind.i64 ((1:Int) + Int.tmod (IntKind.wrap IntKind.i64 (Int.tdiv (↑(List.length a0):Int) (6:Int))) (IntKind.wrap IntKind.i64 (IntKind.wrap IntKind.i64 ((2:Int) + Int.tmod (↑(List.length a0):Int) (6:Int)) - (1:Int)))))]))):Int) - (1:Int)) < (↑(List.length (g_Vw_jaGlo_1 (valO (g_Lw_FnGloTheft_0 a0 (IntKind.wrap IntKind.i64 ((2:Int) + Int.tmod (↑(List.length a0):Int) (6:Int))) ([((1:Int),(1:Int),(1:Int),(0:Int),(0:Int),(0:Int),(0:Int)),((2:Int),(1:Int),(1:Int),(1:Int),(5:Int),(0:Int),(0:Int)),((3:Int),(0:Int),(0:Int),(1:Int),(5:Int),(3:Int),(0:Int))],(1:Int))) ++ [((4:Int),(0:Int),(0:Int),(0:Int),(0:Int),(3:Int),IntKind.wrap IntKind.i64 ((1:Int) + Int.tmod (IntKind.wrap IntKind.i64 (Int.tdiv (↑(List.length a0):Int) (6:Int))) (IntKind.wrap IntKind.i64 (IntKind.wrap IntKind.i64 ((2:Int) + Int.tmod (↑(List.length a0):Int) (6:Int)) - (1:Int)))))]))):Int))&&(decide (Int.toNat (IntKind.wrap IntKind.i64 ((↑(List.length (g_Vw_jaGlo_1 (valO (g_Lw_FnGloTheft_0 a0 (IntKind.wrap IntKind.i64 ((2:Int) + Int.tmod (↑(List.length a0):Int) (6:Int))) ([((1:Int),(1:Int),(1:Int),(0:Int),(0:Int),(0:Int),(0:Int)),((2:Int),(1:Int),(1:Int),(1:Int),(5:Int),(0:Int),(0:Int)),((3:Int),(0:Int),(0:Int),(1:Int),(5:Int),(3:Int),(0:Int))],(1:Int))) ++ [((4:Int),(0:Int),(0:Int),(0:Int),(0:Int),(3:Int),IntKind.wrap IntKind.i64 ((1:Int) + Int.tmod (IntKind.wrap IntKind.i64 (Int.tdiv (↑(List.length a0):Int) (6:Int))) (IntKind.wrap IntKind.i64 (IntKind.wrap IntKind.i64 ((2:Int) + Int.tmod (↑(List.length a0):Int) (6:Int)) - (1:Int)))))]))):Int) - (1:Int))) < List.length (g_Vw_jaGlo_1 (valO (g_Lw_FnGloTheft_0 a0 (IntKind.wrap IntKind.i64 ((2:Int) + Int.tmod (↑(List.length a0):Int) (6:Int))) ([((1:Int),(1:Int),(1:Int),(0:Int),(0:Int),(0:Int),(0:Int)),((2:Int),(1:Int),(1:Int),(1:Int),(5:Int),(0:Int),(0:Int)),((3:Int),(0:Int),(0:Int),(1:Int),(5:Int),(3:Int),(0:Int))],(1:Int))) ++ [((4:Int),(0:Int),(0:Int),(0:Int),(0:Int),(3:Int),IntKind.wrap IntKind.i64 ((1:Int) + Int.tmod (IntKind.wrap IntKind.i64 (Int.tdiv (↑(List.length a0):Int) (6:Int))) (IntKind.wrap IntKind.i64 (IntKind.wrap IntKind.i64 ((2:Int) + Int.tmod (↑(List.length a0):Int) (6:Int)) - (1:Int)))))])))&&(!at_ Ty.bool (g_Vw_jaGlo_1 (valO (g_Lw_FnGloTheft_0 a0 (IntKind.wrap IntKind.i64 ((2:Int) + Int.tmod (↑(List.length a0):Int) (6:Int))) ([((1:Int),(1:Int),(1:Int),(0:Int),(0:Int),(0:Int),(0:Int)),((2:Int),(1:Int),(1:Int),(1:Int),(5:Int),(0:Int),(0:Int)),((3:Int),(0:Int),(0:Int),(1:Int),(5:Int),(3:Int),(0:Int))],(1:Int))) ++ [((4:Int),(0:Int),(0:Int),(0:Int),(0:Int),(3:Int),IntKind.wrap IntKind.i64 ((1:Int) + Int.tmod (IntKind.wrap IntKind.i64 (Int.tdiv (↑(List.length a0):Int) (6:Int))) (IntKind.wrap IntKind.i64 (IntKind.wrap IntKind.i64 ((2:Int) + Int.tmod (↑(List.length a0):Int) (6:Int)) - (1:Int)))))])) (Int.toNat (IntKind.wrap IntKind.i64 ((↑(List.length (g_Vw_jaGlo_1 (valO (g_Lw_FnGloTheft_0 a0 (IntKind.wrap IntKind.i64 ((2:Int) + Int.tmod (↑(List.length a0):Int) (6:Int))) ([((1:Int),(1:Int),(1:Int),(0:Int),(0:Int),(0:Int),(0:Int)),((2:Int),(1:Int),(1:Int),(1:Int),(5:Int),(0:Int),(0:Int)),((3:Int),(0:Int),(0:Int),(1:Int),(5:Int),(3:Int),(0:Int))],(1:Int))) ++ [((4:Int),(0:Int),(0:Int),(0:Int),(0:Int),(3:Int),IntKind.wrap IntKind.i64 ((1:Int) + Int.tmod (IntKind.wrap IntKind.i64 (Int.tdiv (↑(List.length a0):Int) (6:Int))) (IntKind.wrap IntKind.i64 (IntKind.wrap IntKind.i64 ((2:Int) + Int.tmod (↑(List.length a0):Int) (6:Int)) - (1:Int)))))]))):Int) - (1:Int)))) || decide ((0:Int) ≤ (2:Int) ∧ (2:Int) < (↑(List.length (g_Vw_jaGlo_0 (valO (g_Lw_FnGloTheft_0 a0 (IntKind.wrap IntKind.i64 ((2:Int) + Int.tmod (↑(List.length a0):Int) (6:Int))) ([((1:Int),(1:Int),(1:Int),(0:Int),(0:Int),(0:Int),(0:Int)),((2:Int),(1:Int),(1:Int),(1:Int),(5:Int),(0:Int),(0:Int)),((3:Int),(0:Int),(0:Int),(1:Int),(5:Int),(3:Int),(0:Int))],(1:Int))) ++ [((4:Int),(0:Int),(0:Int),(0:Int),(0:Int),(3:Int),IntKind.wrap IntKind.i64 ((1:Int) + Int.tmod (IntKind.wrap IntKind.i64 (Int.tdiv (↑(List.length a0):Int) (6:Int))) (IntKind.wrap IntKind.i64 (IntKind.wrap IntKind.i64 ((2:Int) + Int.tmod (↑(List.length a0):Int) (6:Int)) - (1:Int)))))]))):Int))&&(decide (nat_lit 2 < List.length (g_Vw_jaGlo_0 (valO (g_Lw_FnGloTheft_0 a0 (IntKind.wrap IntKind.i64 ((2:Int) + Int.tmod (↑(List.length a0):Int) (6:Int))) ([((1:Int),(1:Int),(1:Int),(0:Int),(0:Int),(0:Int),(0:Int)),((2:Int),(1:Int),(1:Int),(1:Int),(5:Int),(0:Int),(0:Int)),((3:Int),(0:Int),(0:Int),(1:Int),(5:Int),(3:Int),(0:Int))],(1:Int))) ++ [((4:Int),(0:Int),(0:Int),(0:Int),(0:Int),(3:Int),IntKind.wrap IntKind.i64 ((1:Int) + Int.tmod (IntKind.wrap IntKind.i64 (Int.tdiv (↑(List.length a0):Int) (6:Int))) (IntKind.wrap IntKind.i64 (IntKind.wrap IntKind.i64 ((2:Int) + Int.tmod (↑(List.length a0):Int) (6:Int)) - (1:Int)))))])))&&((↑(List.length (at_ (Ty.sl (nat_lit 42) (Ty.pair Ty.str (Ty.sl (nat_lit 3) (Ty.int IntKind.i64)))) (g_Vw_jaGlo_0 (valO (g_Lw_FnGloTheft_0 a0 (IntKind.wrap IntKind.i64 ((2:Int) + Int.tmod (↑(List.length a0):Int) (6:Int))) ([((1:Int),(1:Int),(1:Int),(0:Int),(0:Int),(0:Int),(0:Int)),((2:Int),(1:Int),(1:Int),(1:Int),(5:Int),(0:Int),(0:Int)),((3:Int),(0:Int),(0:Int),(1:Int),(5:Int),(3:Int),(0:Int))],(1:Int))) ++ [((4:Int),(0:Int),(0:Int),(0:Int),(0:Int),(3:Int),IntKind.wrap IntKind.i64 ((1:Int) + Int.tmod (IntKind.wrap IntKind.i64 (Int.tdiv (↑(List.length a0):Int) (6:Int))) (IntKind.wrap IntKind.i64 (IntKind.wrap IntKind.i64 ((2:Int) + Int.tmod (↑(List.length a0):Int) (6:Int)) - (1:Int)))))])) (nat_lit 2))):Int) != (↑(List.length (valO (g_Lw_FnGloTheft_0 a0 (IntKind.wrap IntKind.i64 ((2:Int) + Int.tmod (↑(List.length a0):Int) (6:Int))) ([((1:Int),(1:Int),(1:Int),(0:Int),(0:Int),(0:Int),(0:Int)),((2:Int),(1:Int),(1:Int),(1:Int),(5:Int),(0:Int),(0:Int)),((3:Int),(0:Int),(0:Int),(1:Int),(5:Int),(3:Int),(0:Int))],(1:Int))) ++ [((4:Int),(0:Int),(0:Int),(0:Int),(0:Int),(3:Int),IntKind.wrap IntKind.i64 ((1:Int) + Int.tmod (IntKind.wrap IntKind.i64 (Int.tdiv (↑(List.length a0):Int) (6:Int))) (IntKind.wrap IntKind.i64 (IntKind.wrap IntKind.i64 ((2:Int) + Int.tmod (↑(List.length a0):Int) (6:Int)) - (1:Int)))))])):Int) || okO (g_Lw_FnGloTheft_2 (IntKind.wrap IntKind.i64 ((2:Int) + Int.tmod (↑(List.length a0):Int) (6:Int))) (valO (g_Lw_FnGloTheft_0 a0 (IntKind.wrap IntKind.i64 ((2:Int) + Int.tmod (↑(List.length a0):Int) (6:Int))) ([((1:Int),(1:Int),(1:Int),(0:Int),(0:Int),(0:Int),(0:Int)),((2:Int),(1:Int),(1:Int),(1:Int),(5:Int),(0:Int),(0:Int)),((3:Int),(0:Int),(0:Int),(1:Int),(5:Int),(3:Int),(0:Int))],(1:Int))) ++ [((4:Int),(0:Int),(0:Int),(0:Int),(0:Int),(3:Int),IntKind.wrap IntKind.i64 ((1:Int) + Int.tmod (IntKind.wrap IntKind.i64 (Int.tdiv (↑(List.length a0):Int) (6:Int))) (IntKind.wrap IntKind.i64 (IntKind.wrap IntKind.i64 ((2:Int) + Int.tmod (↑(List.length a0):Int) (6:Int)) - (1:Int)))))]) (g_Vw_jaGlo_0 (valO (g_Lw_FnGloTheft_0 a0 (IntKind.wrap IntKind.i64 ((2:Int) + Int.tmod (↑(List.length a0):Int) (6:Int))) ([((1:Int),(1:Int),(1:Int),(0:Int),(0:Int),(0:Int),(0:Int)),((2:Int),(1:Int),(1:Int),(1:Int),(5:Int),(0:Int),(0:Int)),((3:Int),(0:Int),(0:Int),(1:Int),(5:Int),(3:Int),(0:Int))],(1:Int))) ++ [((4:Int),(0:Int),(0:Int),(0:Int),(0:Int),(3:Int),IntKind.wrap IntKind.i64 ((1:Int) + Int.tmod (IntKind.wrap IntKind.i64 (Int.tdiv (↑(List.length a0):Int) (6:Int))) (IntKind.wrap IntKind.i64 (IntKind.wrap IntKind.i64 ((2:Int) + Int.tmod (↑(List.length a0):Int) (6:Int)) - (1:Int)))))])) (0:Int))&&(isL (valO (g_Lw_FnGloTheft_2 (IntKind.wrap IntKind.i64 ((2:Int) + Int.tmod (↑(List.length a0):Int) (6:Int))) (valO (g_Lw_FnGloTheft_0 a0 (IntKind.wrap IntKind.i64 ((2:Int) + Int.tmod (↑(List.length a0):Int) (6:Int))) ([((1:Int),(1:Int),(1:Int),(0:Int),(0:Int),(0:Int),(0:Int)),((2:Int),(1:Int),(1:Int),(1:Int),(5:Int),(0:Int),(0:Int)),((3:Int),(0:Int),(0:Int),(1:Int),(5:Int),(3:Int),(0:Int))],(1:Int))) ++ [((4:Int),(0:Int),(0:Int),(0:Int),(0:Int),(3:Int),IntKind.wrap IntKind.i64 ((1:Int) + Int.tmod (IntKind.wrap IntKind.i64 (Int.tdiv (↑(List.length a0):Int) (6:Int))) (IntKind.wrap IntKind.i64 (IntKind.wrap IntKind.i64 ((2:Int) + Int.tmod (↑(List.length a0):Int) (6:Int)) - (1:Int)))))]) (g_Vw_jaGlo_0 (valO (g_Lw_FnGloTheft_0 a0 (IntKind.wrap IntKind.i64 ((2:Int) + Int.tmod (↑(List.length a0):Int) (6:Int))) ([((1:Int),(1:Int),(1:Int),(0:Int),(0:Int),(0:Int),(0:Int)),((2:Int),(1:Int),(1:Int),(1:Int),(5:Int),(0:Int),(0:Int)),((3:Int),(0:Int),(0:Int),(1:Int),(5:Int),(3:Int),(0:Int))],(1:Int))) ++ [((4:Int),(0:Int),(0:Int),(0:Int),(0:Int),(3:Int),IntKind.wrap IntKind.i64 ((1:Int) + Int.tmod (IntKind.wrap IntKind.i64 (Int.tdiv (↑(List.length a0):Int) (6:Int))) (IntKind.wrap IntKind.i64 (IntKind.wrap IntKind.i64 ((2:Int) + Int.tmod (↑(List.length a0):Int) (6:Int)) - (1:Int)))))])) (0:Int))) || g_Ai_GloOk (g_Vw_jaGlo_0 (valO (g_Lw_FnGloTheft_0 a0 (IntKind.wrap IntKind.i64 ((2:Int) + Int.tmod (↑(List.length a0):Int) (6:Int))) ([((1:Int),(1:Int),(1:Int),(0:Int),(0:Int),(0:Int),(0:Int)),((2:Int),(1:Int),(1:Int),(1:Int),(5:Int),(0:Int),(0:Int)),((3:Int),(0:Int),(0:Int),(1:Int),(5:Int),(3:Int),(0:Int))],(1:Int))) ++ [((4:Int),(0:Int),(0:Int),(0:Int),(0:Int),(3:Int),IntKind.wrap IntKind.i64 ((1:Int) + Int.tmod (IntKind.wrap IntKind.i64 (Int.tdiv (↑(List.length a0):Int) (6:Int))) (IntKind.wrap IntKind.i64 (IntKind.wrap IntKind.i64 ((2:Int) + Int.tmod (↑(List.length a0):Int) (6:Int)) - (1:Int)))))])))))))))))
noncomputable def g_Vw_FnGloTheft_0 (a0:List Int):Bool := bif decide ((↑(List.length a0):Int) > (1048576:Int)) then true else bif !at_ Ty.bool (g_Vw_jaGlo_1 (valO (g_Lw_FnGloTheft_0 a0 (IntKind.wrap IntKind.i64 ((2:Int) + Int.tmod (↑(List.length a0):Int) (6:Int))) ([((1:Int),(1:Int),(1:Int),(0:Int),(0:Int),(0:Int),(0:Int)),((2:Int),(1:Int),(1:Int),(1:Int),(5:Int),(0:Int),(0:Int)),((3:Int),(0:Int),(0:Int),(1:Int),(5:Int),(3:Int),(0:Int))],(1:Int))) ++ [((4:Int),(0:Int),(0:Int),(0:Int),(0:Int),(3:Int),IntKind.wrap IntKind.i64 ((1:Int) + Int.tmod (IntKind.wrap IntKind.i64 (Int.tdiv (↑(List.length a0):Int) (6:Int))) (IntKind.wrap IntKind.i64 (IntKind.wrap IntKind.i64 ((2:Int) + Int.tmod (↑(List.length a0):Int) (6:Int)) - (1:Int)))))])) (Int.toNat (IntKind.wrap IntKind.i64 ((↑(List.length (g_Vw_jaGlo_1 (valO (g_Lw_FnGloTheft_0 a0 (IntKind.wrap IntKind.i64 ((2:Int) + Int.tmod (↑(List.length a0):Int) (6:Int))) ([((1:Int),(1:Int),(1:Int),(0:Int),(0:Int),(0:Int),(0:Int)),((2:Int),(1:Int),(1:Int),(1:Int),(5:Int),(0:Int),(0:Int)),((3:Int),(0:Int),(0:Int),(1:Int),(5:Int),(3:Int),(0:Int))],(1:Int))) ++ [((4:Int),(0:Int),(0:Int),(0:Int),(0:Int),(3:Int),IntKind.wrap IntKind.i64 ((1:Int) + Int.tmod (IntKind.wrap IntKind.i64 (Int.tdiv (↑(List.length a0):Int) (6:Int))) (IntKind.wrap IntKind.i64 (IntKind.wrap IntKind.i64 ((2:Int) + Int.tmod (↑(List.length a0):Int) (6:Int)) - (1:Int)))))]))):Int) - (1:Int)))) then false else bif (↑(List.length (at_ (Ty.sl (nat_lit 42) (Ty.pair Ty.str (Ty.sl (nat_lit 3) (Ty.int IntKind.i64)))) (g_Vw_jaGlo_0 (valO (g_Lw_FnGloTheft_0 a0 (IntKind.wrap IntKind.i64 ((2:Int) + Int.tmod (↑(List.length a0):Int) (6:Int))) ([((1:Int),(1:Int),(1:Int),(0:Int),(0:Int),(0:Int),(0:Int)),((2:Int),(1:Int),(1:Int),(1:Int),(5:Int),(0:Int),(0:Int)),((3:Int),(0:Int),(0:Int),(1:Int),(5:Int),(3:Int),(0:Int))],(1:Int))) ++ [((4:Int),(0:Int),(0:Int),(0:Int),(0:Int),(3:Int),IntKind.wrap IntKind.i64 ((1:Int) + Int.tmod (IntKind.wrap IntKind.i64 (Int.tdiv (↑(List.length a0):Int) (6:Int))) (IntKind.wrap IntKind.i64 (IntKind.wrap IntKind.i64 ((2:Int) + Int.tmod (↑(List.length a0):Int) (6:Int)) - (1:Int)))))])) (nat_lit 2))):Int) != (↑(List.length (valO (g_Lw_FnGloTheft_0 a0 (IntKind.wrap IntKind.i64 ((2:Int) + Int.tmod (↑(List.length a0):Int) (6:Int))) ([((1:Int),(1:Int),(1:Int),(0:Int),(0:Int),(0:Int),(0:Int)),((2:Int),(1:Int),(1:Int),(1:Int),(5:Int),(0:Int),(0:Int)),((3:Int),(0:Int),(0:Int),(1:Int),(5:Int),(3:Int),(0:Int))],(1:Int))) ++ [((4:Int),(0:Int),(0:Int),(0:Int),(0:Int),(3:Int),IntKind.wrap IntKind.i64 ((1:Int) + Int.tmod (IntKind.wrap IntKind.i64 (Int.tdiv (↑(List.length a0):Int) (6:Int))) (IntKind.wrap IntKind.i64 (IntKind.wrap IntKind.i64 ((2:Int) + Int.tmod (↑(List.length a0):Int) (6:Int)) - (1:Int)))))])):Int) then false else bif isL (valO (g_Lw_FnGloTheft_2 (IntKind.wrap IntKind.i64 ((2:Int) + Int.tmod (↑(List.length a0):Int) (6:Int))) (valO (g_Lw_FnGloTheft_0 a0 (IntKind.wrap IntKind.i64 ((2:Int) + Int.tmod (↑(List.length a0):Int) (6:Int))) ([((1:Int),(1:Int),(1:Int),(0:Int),(0:Int),(0:Int),(0:Int)),((2:Int),(1:Int),(1:Int),(1:Int),(5:Int),(0:Int),(0:Int)),((3:Int),(0:Int),(0:Int),(1:Int),(5:Int),(3:Int),(0:Int))],(1:Int))) ++ [((4:Int),(0:Int),(0:Int),(0:Int),(0:Int),(3:Int),IntKind.wrap IntKind.i64 ((1:Int) + Int.tmod (IntKind.wrap IntKind.i64 (Int.tdiv (↑(List.length a0):Int) (6:Int))) (IntKind.wrap IntKind.i64 (IntKind.wrap IntKind.i64 ((2:Int) + Int.tmod (↑(List.length a0):Int) (6:Int)) - (1:Int)))))]) (g_Vw_jaGlo_0 (valO (g_Lw_FnGloTheft_0 a0 (IntKind.wrap IntKind.i64 ((2:Int) + Int.tmod (↑(List.length a0):Int) (6:Int))) ([((1:Int),(1:Int),(1:Int),(0:Int),(0:Int),(0:Int),(0:Int)),((2:Int),(1:Int),(1:Int),(1:Int),(5:Int),(0:Int),(0:Int)),((3:Int),(0:Int),(0:Int),(1:Int),(5:Int),(3:Int),(0:Int))],(1:Int))) ++ [((4:Int),(0:Int),(0:Int),(0:Int),(0:Int),(3:Int),IntKind.wrap IntKind.i64 ((1:Int) + Int.tmod (IntKind.wrap IntKind.i64 (Int.tdiv (↑(List.length a0):Int) (6:Int))) (IntKind.wrap IntKind.i64 (IntKind.wrap IntKind.i64 ((2:Int) + Int.tmod (↑(List.length a0):Int) (6:Int)) - (1:Int)))))])) (0:Int))) then getL (valO (g_Lw_FnGloTheft_2 (IntKind.wrap IntKind.i64 ((2:Int) + Int.tmod (↑(List.length a0):Int) (6:Int))) (valO (g_Lw_FnGloTheft_0 a0 (IntKind.wrap IntKind.i64 ((2:Int) + Int.tmod (↑(List.length a0):Int) (6:Int))) ([((1:Int),(1:Int),(1:Int),(0:Int),(0:Int),(0:Int),(0:Int)),((2:Int),(1:Int),(1:Int),(1:Int),(5:Int),(0:Int),(0:Int)),((3:Int),(0:Int),(0:Int),(1:Int),(5:Int),(3:Int),(0:Int))],(1:Int))) ++ [((4:Int),(0:Int),(0:Int),(0:Int),(0:Int),(3:Int),IntKind.wrap IntKind.i64 ((1:Int) + Int.tmod (IntKind.wrap IntKind.i64 (Int.tdiv (↑(List.length a0):Int) (6:Int))) (IntKind.wrap IntKind.i64 (IntKind.wrap IntKind.i64 ((2:Int) + Int.tmod (↑(List.length a0):Int) (6:Int)) - (1:Int)))))]) (g_Vw_jaGlo_0 (valO (g_Lw_FnGloTheft_0 a0 (IntKind.wrap IntKind.i64 ((2:Int) + Int.tmod (↑(List.length a0):Int) (6:Int))) ([((1:Int),(1:Int),(1:Int),(0:Int),(0:Int),(0:Int),(0:Int)),((2:Int),(1:Int),(1:Int),(1:Int),(5:Int),(0:Int),(0:Int)),((3:Int),(0:Int),(0:Int),(1:Int),(5:Int),(3:Int),(0:Int))],(1:Int))) ++ [((4:Int),(0:Int),(0:Int),(0:Int),(0:Int),(3:Int),IntKind.wrap IntKind.i64 ((1:Int) + Int.tmod (IntKind.wrap IntKind.i64 (Int.tdiv (↑(List.length a0):Int) (6:Int))) (IntKind.wrap IntKind.i64 (IntKind.wrap IntKind.i64 ((2:Int) + Int.tmod (↑(List.length a0):Int) (6:Int)) - (1:Int)))))])) (0:Int))) else g_Vi_GloOk_0 (g_Vw_jaGlo_0 (valO (g_Lw_FnGloTheft_0 a0 (IntKind.wrap IntKind.i64 ((2:Int) + Int.tmod (↑(List.length a0):Int) (6:Int))) ([((1:Int),(1:Int),(1:Int),(0:Int),(0:Int),(0:Int),(0:Int)),((2:Int),(1:Int),(1:Int),(1:Int),(5:Int),(0:Int),(0:Int)),((3:Int),(0:Int),(0:Int),(1:Int),(5:Int),(3:Int),(0:Int))],(1:Int))) ++ [((4:Int),(0:Int),(0:Int),(0:Int),(0:Int),(3:Int),IntKind.wrap IntKind.i64 ((1:Int) + Int.tmod (IntKind.wrap IntKind.i64 (Int.tdiv (↑(List.length a0):Int) (6:Int))) (IntKind.wrap IntKind.i64 (IntKind.wrap IntKind.i64 ((2:Int) + Int.tmod (↑(List.length a0):Int) (6:Int)) - (1:Int)))))]))
noncomputable def Fw_FnGloTheft:FSem := fun ys => match ys with
 | [.val false [.sl .any 5 (.int .u8) a0]] => some ((g_Aw_FnGloTheft a0),.val false [.bool (g_Vw_FnGloTheft_0 a0)],[])
 | _ => none
theorem vw_FnGloTheft (a0:List Int):collapseH .std Ew_FnGloTheft Ow_FnGloTheft_2 (execFn Ew_FnGloTheft Tryd.f3 msw_FnGloTheft [.val false [.sl .any 5 (.int .u8) a0]]) = some ((g_Aw_FnGloTheft a0),.val false [.bool (g_Vw_FnGloTheft_0 a0)],[]) := by kernel_rfl
theorem sw_FnGloTheft:Sound Tryd.prog 3 msw_FnGloTheft Fw_FnGloTheft := by
 refine fn_gen goodw_FnGloTheft (by kernel_rfl) .std (fn := Tryd.f3) (c := (Tryd.f3.body.getD .skip)) (o := Ow_FnGloTheft_2) (k := 2) (by kernel_rfl) (by kernel_rfl) (by kernel_rfl) (by kernel_rfl) (by decide) kw_FnGloTheft_2 ?_
 intro ys r outs h
 unfold Fw_FnGloTheft at h
 split at h
 ·exact (vw_FnGloTheft _).trans h
 ·cases h
noncomputable def g_Vs_l3Digit_0 (a0:Int):ByteArray := { data := List.toArray (List.map (fun n => UInt8.ofNat (Int.toNat n)) [IntKind.wrap IntKind.u8 (IntKind.wrap IntKind.i64 ((48:Int) + a0))]) }
noncomputable def g_Ss_l3Plain_0:(Int×ByteArray) → RT (Int×ByteArray) ((Int×ByteArray))
 | (y0,y1) => .br (true) (.br (decide (y0 > (9:Int))) (.br (true) (.br (true) (.br (decide (ByteArray.size (g_Vs_l3Digit_0 (Int.tmod y0 (10:Int))) + ByteArray.size y1 ≤ nat_lit 9223372036854775807)) (.br (true) (.go ((IntKind.wrap IntKind.i64 (Int.tdiv y0 (10:Int)),g_Vs_l3Digit_0 (Int.tmod y0 (10:Int)) ++ y1))) .bad) .bad) .bad) .bad) (.out ((y0,y1)))) .bad
noncomputable def g_Ls_l3Plain_0 (x:Int×ByteArray):Option ((Int×ByteArray)) := loopO (g_Ss_l3Plain_0) x
noncomputable def g_As_l3Plain (a0:Int):Bool := okO (g_Ls_l3Plain_0 (a0,lit []))&&decide (ByteArray.size (g_Vs_l3Digit_0 (valO (g_Ls_l3Plain_0 (a0,lit []))).1) + ByteArray.size (valO (g_Ls_l3Plain_0 (a0,lit []))).2 ≤ nat_lit 9223372036854775807)
noncomputable def g_Vs_l3Plain_0 (a0:Int):ByteArray := g_Vs_l3Digit_0 (valO (g_Ls_l3Plain_0 (a0,lit []))).1 ++ (valO (g_Ls_l3Plain_0 (a0,lit []))).2
noncomputable def g_As_l1In (a0:Int) (a1:Int) (a2:Int):Bool := !decide (a0 ≥ a1) || true
noncomputable def g_Vs_l1In_0 (a0:Int) (a1:Int) (a2:Int):Bool := bif decide (a0 ≥ a1) then decide (a0 ≤ a2) else false
noncomputable def g_Vs_SecSum_0 (a0:Int):Int := bif !g_Vs_l1In_0 a0 (0:Int) (99:Int) then (-1:Int) else Int.tmod (IntKind.wrap IntKind.i64 (IntKind.wrap IntKind.i64 (a0 * (7919:Int)) + (104:Int))) (9973:Int)
end Go.Proofs.YtliagpcoflhphaaDoor.E
