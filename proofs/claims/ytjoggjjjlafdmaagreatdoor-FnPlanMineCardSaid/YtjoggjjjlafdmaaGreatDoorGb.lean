/- What the functions that are reached do, by the engine: for the proof (laws.FnPlanMine): part 2. No conditions. -/
import Derived.Test.YtjoggjjjlafdmaaGreatDoorGa
import Derived.Test.YtjoggjjjlafdmaaGreatDoorProg
import Derived.Test.YtjoggjjjlafdmaaGreatDoorShelf
set_option linter.all false
namespace Go.Proofs.YtjoggjjjlafdmaaGreatDoor.E
open Go
set_option maxRecDepth 100000
set_option maxHeartbeats 0
noncomputable section
def Ei_GloDo:Env where
 tt := mkTI Tryz.prog
 fn := fun f => match f with
  | 11 => some (msi_PlcPlan,FSem.wk msi_PlcPlan Fi_PlcPlan)
  | 17 => some (msi_GloOk,FSem.wk msi_GloOk Fi_GloOk)
  | 35 => some (msi_StoDo,FSem.wk msi_StoDo Fi_StoDo)
  | 46 => some (msi_isTx,FSem.wk msi_isTx Fi_isTx)
  | 48 => some (msi_OpPlaces,FSem.wk msi_OpPlaces Fi_OpPlaces)
  | 83 => some (msi_StoStore_copied,FSem.wk msi_StoStore_copied Fi_StoStore_copied)
  | 85 => some (msi_OpOk,FSem.wk msi_OpOk Fi_OpOk)
  | _ => none
 bxf := fun _ => none
 mv := []
 keep := fun b => match b with
  | 0 => [(0,false),(1,false),(5,false),(8,false),(9,false),(28,false),(29,false),(30,false)]
  | 2 => [(0,false),(1,false),(5,false),(8,false),(9,false),(46,false),(47,false),(48,false)]
  | _ => []
 keepB := fun b => match b with
  | 0 => [(5,false)]
  | 2 => [(5,false)]
  | _ => []
 keepX := fun b => match b with
  | 0 => [(0,false),(1,false),(5,false),(8,false),(9,false)]
  | 2 => [(6,false),(7,false),(9,false)]
  | _ => []
 keepXB := fun b => match b with
  | 0 => [(5,false)]
  | 2 => []
  | _ => []
theorem goodFi_GloDo:∀ f ms F,Ei_GloDo.fn f = some (ms,F) → Sound Tryz.prog f ms F := fun f ms F h => by
 unfold Ei_GloDo at h
 dsimp only at h
 split at h
 ·exact gF si_PlcPlan h
 ·exact gF si_GloOk h
 ·exact gF si_StoDo h
 ·exact gF si_isTx h
 ·exact gF si_OpPlaces h
 ·exact gF si_StoStore_copied h
 ·exact gF si_OpOk h
 ·cases h
theorem goodi_GloDo:Good Tryz.prog Ei_GloDo := ⟨rfl,goodFi_GloDo,fun f ms F h => by cases h⟩
def Oi_GloDo_0:Orc := fun _ _ => none
def msi_GloDo:List PM := [.rd,.own,.own]
def lsi_GloDo:List (Nat×Code) := loopsAll 0 (Tryz.f36.body.getD .skip)
def ci_GloDo_0:Code := (loopOf 0 (Tryz.f36.body.getD .skip)).getD .skip
def ci_GloDo_2:Code := (loopOf 2 (Tryz.f36.body.getD .skip)).getD .skip
theorem lseqi_GloDo:lsi_GloDo = [(0,ci_GloDo_0),(2,ci_GloDo_2)] := by kernel_rfl
theorem mi_GloDo_0:∀ p,p ∈ lsi_GloDo → p.1 = 0 → p.2 = ci_GloDo_0 := by
 intro p hp
 rw [lseqi_GloDo] at hp
 simp only [List.mem_cons,List.not_mem_nil,or_false] at hp
 rcases hp with rfl | rfl <;> simp
theorem mi_GloDo_2:∀ p,p ∈ lsi_GloDo → p.1 = 2 → p.2 = ci_GloDo_2 := by
 intro p hp
 rw [lseqi_GloDo] at hp
 simp only [List.mem_cons,List.not_mem_nil,or_false] at hp
 rcases hp with rfl | rfl <;> simp
theorem ki_GloDo_0:OrcOk Ei_GloDo Oi_GloDo_0 lsi_GloDo 0 := orcOk_none
def hi_GloDo_0 (y0:List tS) (y1:Int) (y2:List tS) (y3:List tS) (y4:List tS) (y5:Int) (y6:Int) (y7:Int) (y8:Int) (y9:Int) (y10:Int) (y11:Int) (y12:Int) (y13:Int):List (Pl×LV) := [(.T 0,.t (.val false [.sl .any 25 (.sl 49 (.pair .str (.sl 3 (.int .i64)))) y0])),(.T 1,.t (.val false [.int .i64 y1])),(.T 5,.t (.val false [.ptr 5 0 0])),(.T 8,.t (.val false [.row 8 0 0])),(.R 8 0,.r 0 (some ⟨false,.any,true,25,(.sl 49 (.pair .str (.sl 3 (.int .i64)))),y2⟩)),(.T 9,.t (.val false [.row 9 0 0])),(.R 9 0,.r 0 (some ⟨false,.any,true,25,(.sl 49 (.pair .str (.sl 3 (.int .i64)))),y3⟩)),(.T 28,.t (.val false [.sl .any 25 (.sl 49 (.pair .str (.sl 3 (.int .i64)))) y4])),(.T 29,.t (.val false [.int .i64 y5])),(.T 30,.t (.val false [.int .i64 y6])),(.B 5,.b 0 false [.int .i64 y7,.int .i64 y8,.int .i64 y9,.int .i64 y10,.int .i64 y11,.int .i64 y12,.int .i64 y13])]
def g_Si_GloDo_0 (y0:List tS) (y1:Int) (y4:List tS) (y5:Int) (y7:Int) (y8:Int) (y9:Int) (y10:Int) (y11:Int) (y12:Int) (y13:Int):((List tS)×(List tS)×Int) → RT ((List tS)×(List tS)×Int) (((List tS)×(List tS)))
 | (y2,y3,y6) => .br (true) (.br (decide (y6 < y5)) (.br (decide (0 ≤ y6 ∧ y6 < (y4.length:Int))) (.br (g_Ai_StoStore_copied (at_ (.sl (nat_lit 49) (.pair .str (.sl (nat_lit 3) (.int .i64)))) y4 (Int.toNat y6))) (.br (decide ((List.length y2 + List.length [g_Vi_StoStore_copied_0 (at_ (.sl (nat_lit 49) (.pair .str (.sl (nat_lit 3) (.int .i64)))) y4 (Int.toNat y6))]) * nat_lit 24 ≤ nat_lit 140737488355328 ∧ List.length y2 + List.length [g_Vi_StoStore_copied_0 (at_ (.sl (nat_lit 49) (.pair .str (.sl (nat_lit 3) (.int .i64)))) y4 (Int.toNat y6))] ≤ nat_lit 9223372036854775807)) (.br (g_Ai_StoStore_copied (at_ (.sl (nat_lit 49) (.pair .str (.sl (nat_lit 3) (.int .i64)))) y4 (Int.toNat y6))) (.br (decide ((List.length y3 + List.length [g_Vi_StoStore_copied_0 (at_ (.sl (nat_lit 49) (.pair .str (.sl (nat_lit 3) (.int .i64)))) y4 (Int.toNat y6))]) * nat_lit 24 ≤ nat_lit 140737488355328 ∧ List.length y3 + List.length [g_Vi_StoStore_copied_0 (at_ (.sl (nat_lit 49) (.pair .str (.sl (nat_lit 3) (.int .i64)))) y4 (Int.toNat y6))] ≤ nat_lit 9223372036854775807)) (.br (true) (.go ((y2 ++ [g_Vi_StoStore_copied_0 (at_ (.sl (nat_lit 49) (.pair .str (.sl (nat_lit 3) (.int .i64)))) y4 (Int.toNat y6))],y3 ++ [g_Vi_StoStore_copied_0 (at_ (.sl (nat_lit 49) (.pair .str (.sl (nat_lit 3) (.int .i64)))) y4 (Int.toNat y6))],IntKind.i64.wrap (y6 + 1)))) .bad) .bad) .bad) .bad) .bad) .bad) (.out ((y2,y3)))) .bad
def g_Li_GloDo_0 (y0:List tS) (y1:Int) (y4:List tS) (y5:Int) (y7:Int) (y8:Int) (y9:Int) (y10:Int) (y11:Int) (y12:Int) (y13:Int) (x:(List tS)×(List tS)×Int):Option (((List tS)×(List tS))) := loopO (g_Si_GloDo_0 y0 y1 y4 y5 y7 y8 y9 y10 y11 y12 y13) x
def xi_GloDo_0 (y0:List tS) (y1:Int) (y4:List tS) (y5:Int) (y7:Int) (y8:Int) (y9:Int) (y10:Int) (y11:Int) (y12:Int) (y13:Int):(((List tS)×(List tS))) → Ex×List (Pl×LV) := fun r => (.exit 0,[(.T 0,.t (.val false [.sl .any 25 (.sl 49 (.pair .str (.sl 3 (.int .i64)))) y0])),(.T 1,.t (.val false [.int .i64 y1])),(.T 5,.t (.val false [.ptr 5 0 0])),(.T 8,.t (.val false [.row 8 0 0])),(.R 8 0,.r 0 (some ⟨false,.any,true,25,(.sl 49 (.pair .str (.sl 3 (.int .i64)))),r.1⟩)),(.T 9,.t (.val false [.row 9 0 0])),(.R 9 0,.r 0 (some ⟨false,.any,true,25,(.sl 49 (.pair .str (.sl 3 (.int .i64)))),r.2⟩)),(.B 5,.b 0 false [.int .i64 y7,.int .i64 y8,.int .i64 y9,.int .i64 y10,.int .i64 y11,.int .i64 y12,.int .i64 y13])])
def Oi_GloDo_1:Orc := fun b h => match b,h with
 | 0,[(.T 0,.t (.val false [.sl .any 25 (.sl 49 (.pair .str (.sl 3 (.int .i64)))) y0])),(.T 1,.t (.val false [.int .i64 y1])),(.T 5,.t (.val false [.ptr 5 0 0])),(.T 8,.t (.val false [.row 8 0 0])),(.R 8 0,.r 0 (some ⟨false,.any,true,25,(.sl 49 (.pair .str (.sl 3 (.int .i64)))),y2⟩)),(.T 9,.t (.val false [.row 9 0 0])),(.R 9 0,.r 0 (some ⟨false,.any,true,25,(.sl 49 (.pair .str (.sl 3 (.int .i64)))),y3⟩)),(.T 28,.t (.val false [.sl .any 25 (.sl 49 (.pair .str (.sl 3 (.int .i64)))) y4])),(.T 29,.t (.val false [.int .i64 y5])),(.T 30,.t (.val false [.int .i64 y6])),(.B 5,.b 0 false [.int .i64 y7,.int .i64 y8,.int .i64 y9,.int .i64 y10,.int .i64 y11,.int .i64 y12,.int .i64 y13])] => some (okO (g_Li_GloDo_0 y0 y1 y4 y5 y7 y8 y9 y10 y11 y12 y13 (y2,y3,y6)),(.leaf (.exit 0) [(.T 0,.t (.val false [.sl .any 25 (.sl 49 (.pair .str (.sl 3 (.int .i64)))) y0])),(.T 1,.t (.val false [.int .i64 y1])),(.T 5,.t (.val false [.ptr 5 0 0])),(.T 8,.t (.val false [.row 8 0 0])),(.R 8 0,.r 0 (some ⟨false,.any,true,25,(.sl 49 (.pair .str (.sl 3 (.int .i64)))),(valO (g_Li_GloDo_0 y0 y1 y4 y5 y7 y8 y9 y10 y11 y12 y13 (y2,y3,y6))).1⟩)),(.T 9,.t (.val false [.row 9 0 0])),(.R 9 0,.r 0 (some ⟨false,.any,true,25,(.sl 49 (.pair .str (.sl 3 (.int .i64)))),(valO (g_Li_GloDo_0 y0 y1 y4 y5 y7 y8 y9 y10 y11 y12 y13 (y2,y3,y6))).2⟩)),(.B 5,.b 0 false [.int .i64 y7,.int .i64 y8,.int .i64 y9,.int .i64 y10,.int .i64 y11,.int .i64 y12,.int .i64 y13])]))
 | b,h => Oi_GloDo_0 b h
theorem bi_GloDo_0 (y0:List tS) (y1:Int) (y2:List tS) (y3:List tS) (y4:List tS) (y5:Int) (y6:Int) (y7:Int) (y8:Int) (y9:Int) (y10:Int) (y11:Int) (y12:Int) (y13:Int):Tr.bt Ei_GloDo Oi_GloDo_0 (exec Ei_GloDo 0 ci_GloDo_0 (St.of (hi_GloDo_0 y0 y1 y2 y3 y4 y5 y6 y7 y8 y9 y10 y11 y12 y13)) (leafRd Ei_GloDo 0)) = (g_Si_GloDo_0 y0 y1 y4 y5 y7 y8 y9 y10 y11 y12 y13 (y2,y3,y6)).bt (fun ((y2,y3,y6):(List tS)×(List tS)×Int) => (hi_GloDo_0 y0 y1 y2 y3 y4 y5 y6 y7 y8 y9 y10 y11 y12 y13)) (xi_GloDo_0 y0 y1 y4 y5 y7 y8 y9 y10 y11 y12 y13) := by kernel_rfl
theorem ki_GloDo_1:OrcOk Ei_GloDo Oi_GloDo_1 lsi_GloDo 1 := orc_add ki_GloDo_0 (fun n p hp h ex h' ho => by
 obtain ⟨b,c⟩ := p
 obtain ⟨xt,h1,h2⟩ := ho
 have h1:Oi_GloDo_1 b h = some (true,xt) := h1
 unfold Oi_GloDo_1 at h1
 split at h1
 ·injection h1 with h1
  injection h1 with e1 e2
  subst e2
  have hc:c = ci_GloDo_0 := mi_GloDo_0 _ hp rfl
  subst hc
  right
  rename_i y0 y1 y2 y3 y4 y5 y6 y7 y8 y9 y10 y11 y12 y13
  have key := LT_step ki_GloDo_0 hp (fun q hq => loopsAll_in _ _ _ _ hp hq) (fun ((y2,y3,y6):(List tS)×(List tS)×Int) => (hi_GloDo_0 y0 y1 y2 y3 y4 y5 y6 y7 y8 y9 y10 y11 y12 y13)) (xi_GloDo_0 y0 y1 y4 y5 y7 y8 y9 y10 y11 y12 y13) (g_Si_GloDo_0 y0 y1 y4 y5 y7 y8 y9 y10 y11 y12 y13) (fun x => by first | exact bi_GloDo_0 y0 y1 x.1 x.2.1 y4 y5 x.2.2 y7 y8 y9 y10 y11 y12 y13) n (x := (y2,y3,y6)) (okO_some e1)
  have hx:∀ r,XT.sel (.leaf (.exit 0) [(.T 0,.t (.val false [.sl .any 25 (.sl 49 (.pair .str (.sl 3 (.int .i64)))) y0])),(.T 1,.t (.val false [.int .i64 y1])),(.T 5,.t (.val false [.ptr 5 0 0])),(.T 8,.t (.val false [.row 8 0 0])),(.R 8 0,.r 0 (some ⟨false,.any,true,25,(.sl 49 (.pair .str (.sl 3 (.int .i64)))),r.1⟩)),(.T 9,.t (.val false [.row 9 0 0])),(.R 9 0,.r 0 (some ⟨false,.any,true,25,(.sl 49 (.pair .str (.sl 3 (.int .i64)))),r.2⟩)),(.B 5,.b 0 false [.int .i64 y7,.int .i64 y8,.int .i64 y9,.int .i64 y10,.int .i64 y11,.int .i64 y12,.int .i64 y13])]) = xi_GloDo_0 y0 y1 y4 y5 y7 y8 y9 y10 y11 y12 y13 r := fun r => by first | rfl | rcases r with r | r <;> rfl | rcases r with r | r | r <;> rfl | rcases r with r | r | r | r <;> rfl
  have h3 := (hx (valO (g_Li_GloDo_0 y0 y1 y4 y5 y7 y8 y9 y10 y11 y12 y13 (y2,y3,y6)))).symm.trans h2
  have e3 := congrArg Prod.fst h3
  have e4 := congrArg Prod.snd h3
  simp only at e3 e4
  rw [← e3,← e4]
  exact key
 ·exact .inl ⟨xt,h1,h2⟩)
def hi_GloDo_2 (y0:List tS) (y1:Int) (y2:List tS) (y3:List tS) (y4:List Int) (y5:Int) (y6:Int) (y7:Int) (y8:Int) (y9:Int) (y10:Int) (y11:Int) (y12:Int) (y13:Int):List (Pl×LV) := [(.T 0,.t (.val false [.sl .any 25 (.sl 49 (.pair .str (.sl 3 (.int .i64)))) y0])),(.T 1,.t (.val false [.int .i64 y1])),(.T 5,.t (.val false [.ptr 5 0 0])),(.T 8,.t (.val false [.row 8 0 0])),(.R 8 0,.r 0 (some ⟨false,.any,true,25,(.sl 49 (.pair .str (.sl 3 (.int .i64)))),y2⟩)),(.T 9,.t (.val false [.row 9 0 0])),(.R 9 0,.r 0 (some ⟨false,.any,true,25,(.sl 49 (.pair .str (.sl 3 (.int .i64)))),y3⟩)),(.T 46,.t (.val false [.row 46 0 0])),(.R 46 0,.r 0 (some ⟨false,.any,true,3,(.int .i64),y4⟩)),(.T 47,.t (.val false [.int .i64 y5])),(.T 48,.t (.val false [.int .i64 y6])),(.B 5,.b 0 false [.int .i64 y7,.int .i64 y8,.int .i64 y9,.int .i64 y10,.int .i64 y11,.int .i64 y12,.int .i64 y13])]
def g_Si_GloDo_2 (y0:List tS) (y1:Int) (y2:List tS) (y4:List Int) (y5:Int) (y7:Int) (y8:Int) (y9:Int) (y10:Int) (y11:Int) (y12:Int) (y13:Int):((List tS)×Int) → RT ((List tS)×Int) ((Bool×(List tS)) ⊕ ((List tS)))
 | (y3,y6) => .br (true) (.br (decide (y6 < y5)) (.br (decide (0 ≤ y6 ∧ y6 < (y4.length:Int))) (.br (decide (Int.toNat y6 < List.length y4)) (.br (true) (.br (decide (0 ≤ IntKind.i64.wrap (at_ (.int .i64) y4 (Int.toNat y6) - 1) ∧ IntKind.i64.wrap (at_ (.int .i64) y4 (Int.toNat y6) - 1) < (y0.length:Int))) (.br (g_Ai_PlcPlan (at_ (.int .i64) y4 (Int.toNat y6)) (at_ (.sl (nat_lit 49) (.pair .str (.sl (nat_lit 3) (.int .i64)))) y0 (Int.toNat (IntKind.i64.wrap (at_ (.int .i64) y4 (Int.toNat y6) - 1)))) y1 y7 y8 y9 y10 y11 y12 y13) (.br (!g_Vi_PlcPlan_0 (at_ (.int .i64) y4 (Int.toNat y6)) (at_ (.sl (nat_lit 49) (.pair .str (.sl (nat_lit 3) (.int .i64)))) y0 (Int.toNat (IntKind.i64.wrap (at_ (.int .i64) y4 (Int.toNat y6) - 1)))) y1 y7 y8 y9 y10 y11 y12 y13) (.out (.inl ((false,y3)))) (.br (true) (.br (true) (.br (decide (0 ≤ IntKind.i64.wrap (at_ (.int .i64) y4 (Int.toNat y6) - 1) ∧ IntKind.i64.wrap (at_ (.int .i64) y4 (Int.toNat y6) - 1) < (y0.length:Int))) (.br (g_Ai_StoDo (at_ (.sl (nat_lit 49) (.pair .str (.sl (nat_lit 3) (.int .i64)))) y0 (Int.toNat (IntKind.i64.wrap (at_ (.int .i64) y4 (Int.toNat y6) - 1)))) (g_Vi_PlcPlan_2 (at_ (.int .i64) y4 (Int.toNat y6)) (at_ (.sl (nat_lit 49) (.pair .str (.sl (nat_lit 3) (.int .i64)))) y0 (Int.toNat (IntKind.i64.wrap (at_ (.int .i64) y4 (Int.toNat y6) - 1)))) y1 y7 y8 y9 y10 y11 y12 y13)) (.br (decide (0 ≤ IntKind.i64.wrap (at_ (.int .i64) y4 (Int.toNat y6) - 1) ∧ IntKind.i64.wrap (at_ (.int .i64) y4 (Int.toNat y6) - 1) < (y3.length:Int))) (.br (decide (Int.toNat (IntKind.i64.wrap (at_ (.int .i64) y4 (Int.toNat y6) - 1)) < List.length y3)) (.br (true) (.go ((List.set y3 (Int.toNat (IntKind.i64.wrap (at_ (.int .i64) y4 (Int.toNat y6) - 1))) (g_Vi_StoDo_0 (at_ (.sl (nat_lit 49) (.pair .str (.sl (nat_lit 3) (.int .i64)))) y0 (Int.toNat (IntKind.i64.wrap (at_ (.int .i64) y4 (Int.toNat y6) - 1)))) (g_Vi_PlcPlan_2 (at_ (.int .i64) y4 (Int.toNat y6)) (at_ (.sl (nat_lit 49) (.pair .str (.sl (nat_lit 3) (.int .i64)))) y0 (Int.toNat (IntKind.i64.wrap (at_ (.int .i64) y4 (Int.toNat y6) - 1)))) y1 y7 y8 y9 y10 y11 y12 y13)),IntKind.i64.wrap (y6 + 1)))) .bad) .bad) .bad) .bad) .bad) .bad) .bad)) .bad) .bad) .bad) .bad) .bad) (.out (.inr (y3)))) .bad
def g_Li_GloDo_2 (y0:List tS) (y1:Int) (y2:List tS) (y4:List Int) (y5:Int) (y7:Int) (y8:Int) (y9:Int) (y10:Int) (y11:Int) (y12:Int) (y13:Int) (x:(List tS)×Int):Option ((Bool×(List tS)) ⊕ ((List tS))) := loopO (g_Si_GloDo_2 y0 y1 y2 y4 y5 y7 y8 y9 y10 y11 y12 y13) x
def xi_GloDo_2 (y0:List tS) (y1:Int) (y2:List tS) (y4:List Int) (y5:Int) (y7:Int) (y8:Int) (y9:Int) (y10:Int) (y11:Int) (y12:Int) (y13:Int):((Bool×(List tS)) ⊕ ((List tS))) → Ex×List (Pl×LV) := fun
 | .inl r => (.ret,[(.T 6,.t (.val false [.row 6 0 0])),(.R 6 0,.r 0 (some ⟨false,.any,true,25,(.sl 49 (.pair .str (.sl 3 (.int .i64)))),y2⟩)),(.T 7,.t (.val false [.bool r.1])),(.T 9,.t (.val false [.row 9 0 0])),(.R 9 0,.r 0 (some ⟨false,.any,true,25,(.sl 49 (.pair .str (.sl 3 (.int .i64)))),r.2⟩))])
 | .inr (r) => (.exit 2,[(.T 6,.t (.val false [.undef])),(.T 7,.t (.val false [.undef])),(.T 9,.t (.val false [.row 9 0 0])),(.R 9 0,.r 0 (some ⟨false,.any,true,25,(.sl 49 (.pair .str (.sl 3 (.int .i64)))),r⟩))])
def Oi_GloDo_2:Orc := fun b h => match b,h with
 | 2,[(.T 0,.t (.val false [.sl .any 25 (.sl 49 (.pair .str (.sl 3 (.int .i64)))) y0])),(.T 1,.t (.val false [.int .i64 y1])),(.T 5,.t (.val false [.ptr 5 0 0])),(.T 8,.t (.val false [.row 8 0 0])),(.R 8 0,.r 0 (some ⟨false,.any,true,25,(.sl 49 (.pair .str (.sl 3 (.int .i64)))),y2⟩)),(.T 9,.t (.val false [.row 9 0 0])),(.R 9 0,.r 0 (some ⟨false,.any,true,25,(.sl 49 (.pair .str (.sl 3 (.int .i64)))),y3⟩)),(.T 46,.t (.val false [.row 46 0 0])),(.R 46 0,.r 0 (some ⟨false,.any,true,3,(.int .i64),y4⟩)),(.T 47,.t (.val false [.int .i64 y5])),(.T 48,.t (.val false [.int .i64 y6])),(.B 5,.b 0 false [.int .i64 y7,.int .i64 y8,.int .i64 y9,.int .i64 y10,.int .i64 y11,.int .i64 y12,.int .i64 y13])] => some (okO (g_Li_GloDo_2 y0 y1 y2 y4 y5 y7 y8 y9 y10 y11 y12 y13 (y3,y6)),(.br (isL (valO (g_Li_GloDo_2 y0 y1 y2 y4 y5 y7 y8 y9 y10 y11 y12 y13 (y3,y6)))) (.leaf .ret [(.T 6,.t (.val false [.row 6 0 0])),(.R 6 0,.r 0 (some ⟨false,.any,true,25,(.sl 49 (.pair .str (.sl 3 (.int .i64)))),y2⟩)),(.T 7,.t (.val false [.bool (getL (valO (g_Li_GloDo_2 y0 y1 y2 y4 y5 y7 y8 y9 y10 y11 y12 y13 (y3,y6)))).1])),(.T 9,.t (.val false [.row 9 0 0])),(.R 9 0,.r 0 (some ⟨false,.any,true,25,(.sl 49 (.pair .str (.sl 3 (.int .i64)))),(getL (valO (g_Li_GloDo_2 y0 y1 y2 y4 y5 y7 y8 y9 y10 y11 y12 y13 (y3,y6)))).2⟩))]) (.leaf (.exit 2) [(.T 6,.t (.val false [.undef])),(.T 7,.t (.val false [.undef])),(.T 9,.t (.val false [.row 9 0 0])),(.R 9 0,.r 0 (some ⟨false,.any,true,25,(.sl 49 (.pair .str (.sl 3 (.int .i64)))),(getR (valO (g_Li_GloDo_2 y0 y1 y2 y4 y5 y7 y8 y9 y10 y11 y12 y13 (y3,y6))))⟩))])))
 | b,h => Oi_GloDo_1 b h
theorem bi_GloDo_2 (y0:List tS) (y1:Int) (y2:List tS) (y3:List tS) (y4:List Int) (y5:Int) (y6:Int) (y7:Int) (y8:Int) (y9:Int) (y10:Int) (y11:Int) (y12:Int) (y13:Int):Tr.bt Ei_GloDo Oi_GloDo_1 (exec Ei_GloDo 2 ci_GloDo_2 (St.of (hi_GloDo_2 y0 y1 y2 y3 y4 y5 y6 y7 y8 y9 y10 y11 y12 y13)) (leafRd Ei_GloDo 2)) = (g_Si_GloDo_2 y0 y1 y2 y4 y5 y7 y8 y9 y10 y11 y12 y13 (y3,y6)).bt (fun ((y3,y6):(List tS)×Int) => (hi_GloDo_2 y0 y1 y2 y3 y4 y5 y6 y7 y8 y9 y10 y11 y12 y13)) (xi_GloDo_2 y0 y1 y2 y4 y5 y7 y8 y9 y10 y11 y12 y13) := by kernel_rfl
theorem ki_GloDo_2:OrcOk Ei_GloDo Oi_GloDo_2 lsi_GloDo 2 := orc_add ki_GloDo_1 (fun n p hp h ex h' ho => by
 obtain ⟨b,c⟩ := p
 obtain ⟨xt,h1,h2⟩ := ho
 have h1:Oi_GloDo_2 b h = some (true,xt) := h1
 unfold Oi_GloDo_2 at h1
 split at h1
 ·injection h1 with h1
  injection h1 with e1 e2
  subst e2
  have hc:c = ci_GloDo_2 := mi_GloDo_2 _ hp rfl
  subst hc
  right
  rename_i y0 y1 y2 y3 y4 y5 y6 y7 y8 y9 y10 y11 y12 y13
  have key := LT_step ki_GloDo_1 hp (fun q hq => loopsAll_in _ _ _ _ hp hq) (fun ((y3,y6):(List tS)×Int) => (hi_GloDo_2 y0 y1 y2 y3 y4 y5 y6 y7 y8 y9 y10 y11 y12 y13)) (xi_GloDo_2 y0 y1 y2 y4 y5 y7 y8 y9 y10 y11 y12 y13) (g_Si_GloDo_2 y0 y1 y2 y4 y5 y7 y8 y9 y10 y11 y12 y13) (fun x => by first | exact bi_GloDo_2 y0 y1 y2 x.1 y4 y5 x.2 y7 y8 y9 y10 y11 y12 y13) n (x := (y3,y6)) (okO_some e1)
  have hx:∀ r,XT.sel (.br (isL r) (.leaf .ret [(.T 6,.t (.val false [.row 6 0 0])),(.R 6 0,.r 0 (some ⟨false,.any,true,25,(.sl 49 (.pair .str (.sl 3 (.int .i64)))),y2⟩)),(.T 7,.t (.val false [.bool (getL r).1])),(.T 9,.t (.val false [.row 9 0 0])),(.R 9 0,.r 0 (some ⟨false,.any,true,25,(.sl 49 (.pair .str (.sl 3 (.int .i64)))),(getL r).2⟩))]) (.leaf (.exit 2) [(.T 6,.t (.val false [.undef])),(.T 7,.t (.val false [.undef])),(.T 9,.t (.val false [.row 9 0 0])),(.R 9 0,.r 0 (some ⟨false,.any,true,25,(.sl 49 (.pair .str (.sl 3 (.int .i64)))),(getR r)⟩))])) = xi_GloDo_2 y0 y1 y2 y4 y5 y7 y8 y9 y10 y11 y12 y13 r := fun r => by first | rfl | rcases r with r | r <;> rfl | rcases r with r | r | r <;> rfl | rcases r with r | r | r | r <;> rfl
  have h3 := (hx (valO (g_Li_GloDo_2 y0 y1 y2 y4 y5 y7 y8 y9 y10 y11 y12 y13 (y3,y6)))).symm.trans h2
  have e3 := congrArg Prod.fst h3
  have e4 := congrArg Prod.snd h3
  simp only at e3 e4
  rw [← e3,← e4]
  exact key
 ·exact .inl ⟨xt,h1,h2⟩)
def g_Ai_GloDo (a0:List tS) (a1:Int) (a2:Int) (a3:Int) (a4:Int) (a5:Int) (a6:Int) (a7:Int) (a8:Int):Bool := g_Ai_GloOk a0&&(!g_Vi_GloOk_0 a0 || g_Ai_OpOk a2 a3 a4 a5 a6 a7 a8&&(!g_Vi_OpOk_0 a2 a3 a4 a5 a6 a7 a8 || g_Ai_isTx a1&&(!g_Vi_isTx_0 a1 || okO (g_Li_GloDo_0 a0 a1 a0 (a0.length:Int) a2 a3 a4 a5 a6 a7 a8 ([],[],(0:Int)))&&(g_Ai_OpPlaces a2 a3 a4 a5 a6 a7 a8&&okO (g_Li_GloDo_2 a0 a1 (valO (g_Li_GloDo_0 a0 a1 a0 (a0.length:Int) a2 a3 a4 a5 a6 a7 a8 ([],[],(0:Int)))).1 (g_Vi_OpPlaces_0 a2 a3 a4 a5 a6 a7 a8) (↑(List.length (g_Vi_OpPlaces_0 a2 a3 a4 a5 a6 a7 a8)):Int) a2 a3 a4 a5 a6 a7 a8 ((valO (g_Li_GloDo_0 a0 a1 a0 (a0.length:Int) a2 a3 a4 a5 a6 a7 a8 ([],[],(0:Int)))).2,(0:Int)))))))
def g_Vi_GloDo_0 (a0:List tS) (a1:Int) (a2:Int) (a3:Int) (a4:Int) (a5:Int) (a6:Int) (a7:Int) (a8:Int):List tS := bif !g_Vi_GloOk_0 a0 then [] else bif !g_Vi_OpOk_0 a2 a3 a4 a5 a6 a7 a8 then [] else bif !g_Vi_isTx_0 a1 then [] else bif isL (valO (g_Li_GloDo_2 a0 a1 (valO (g_Li_GloDo_0 a0 a1 a0 (a0.length:Int) a2 a3 a4 a5 a6 a7 a8 ([],[],(0:Int)))).1 (g_Vi_OpPlaces_0 a2 a3 a4 a5 a6 a7 a8) (↑(List.length (g_Vi_OpPlaces_0 a2 a3 a4 a5 a6 a7 a8)):Int) a2 a3 a4 a5 a6 a7 a8 ((valO (g_Li_GloDo_0 a0 a1 a0 (a0.length:Int) a2 a3 a4 a5 a6 a7 a8 ([],[],(0:Int)))).2,(0:Int)))) then (valO (g_Li_GloDo_0 a0 a1 a0 (a0.length:Int) a2 a3 a4 a5 a6 a7 a8 ([],[],(0:Int)))).1 else getR (valO (g_Li_GloDo_2 a0 a1 (valO (g_Li_GloDo_0 a0 a1 a0 (a0.length:Int) a2 a3 a4 a5 a6 a7 a8 ([],[],(0:Int)))).1 (g_Vi_OpPlaces_0 a2 a3 a4 a5 a6 a7 a8) (↑(List.length (g_Vi_OpPlaces_0 a2 a3 a4 a5 a6 a7 a8)):Int) a2 a3 a4 a5 a6 a7 a8 ((valO (g_Li_GloDo_0 a0 a1 a0 (a0.length:Int) a2 a3 a4 a5 a6 a7 a8 ([],[],(0:Int)))).2,(0:Int))))
def g_Vi_GloDo_1 (a0:List tS) (a1:Int) (a2:Int) (a3:Int) (a4:Int) (a5:Int) (a6:Int) (a7:Int) (a8:Int):Bool := bif !g_Vi_GloOk_0 a0 then false else bif !g_Vi_OpOk_0 a2 a3 a4 a5 a6 a7 a8 then false else bif !g_Vi_isTx_0 a1 then false else bif isL (valO (g_Li_GloDo_2 a0 a1 (valO (g_Li_GloDo_0 a0 a1 a0 (a0.length:Int) a2 a3 a4 a5 a6 a7 a8 ([],[],(0:Int)))).1 (g_Vi_OpPlaces_0 a2 a3 a4 a5 a6 a7 a8) (↑(List.length (g_Vi_OpPlaces_0 a2 a3 a4 a5 a6 a7 a8)):Int) a2 a3 a4 a5 a6 a7 a8 ((valO (g_Li_GloDo_0 a0 a1 a0 (a0.length:Int) a2 a3 a4 a5 a6 a7 a8 ([],[],(0:Int)))).2,(0:Int)))) then (getL (valO (g_Li_GloDo_2 a0 a1 (valO (g_Li_GloDo_0 a0 a1 a0 (a0.length:Int) a2 a3 a4 a5 a6 a7 a8 ([],[],(0:Int)))).1 (g_Vi_OpPlaces_0 a2 a3 a4 a5 a6 a7 a8) (↑(List.length (g_Vi_OpPlaces_0 a2 a3 a4 a5 a6 a7 a8)):Int) a2 a3 a4 a5 a6 a7 a8 ((valO (g_Li_GloDo_0 a0 a1 a0 (a0.length:Int) a2 a3 a4 a5 a6 a7 a8 ([],[],(0:Int)))).2,(0:Int))))).1 else true
def Fi_GloDo:FSem := fun ys => match ys with
 | [.val false [.sl .any 25 (.sl 49 (.pair .str (.sl 3 (.int .i64)))) a0],.val false [.int .i64 a1],.val true [.int .i64 a2,.int .i64 a3,.int .i64 a4,.int .i64 a5,.int .i64 a6,.int .i64 a7,.int .i64 a8]] => some ((g_Ai_GloDo a0 a1 a2 a3 a4 a5 a6 a7 a8),.tup [(false,[.own .any true 25 (.sl 49 (.pair .str (.sl 3 (.int .i64)))) (g_Vi_GloDo_0 a0 a1 a2 a3 a4 a5 a6 a7 a8)]),(false,[.bool (g_Vi_GloDo_1 a0 a1 a2 a3 a4 a5 a6 a7 a8)])],[])
 | _ => none
theorem vi_GloDo (a0:List tS) (a1:Int) (a2:Int) (a3:Int) (a4:Int) (a5:Int) (a6:Int) (a7:Int) (a8:Int):collapseH .std Ei_GloDo Oi_GloDo_2 (execFn Ei_GloDo Tryz.f36 msi_GloDo [.val false [.sl .any 25 (.sl 49 (.pair .str (.sl 3 (.int .i64)))) a0],.val false [.int .i64 a1],.val true [.int .i64 a2,.int .i64 a3,.int .i64 a4,.int .i64 a5,.int .i64 a6,.int .i64 a7,.int .i64 a8]]) = some ((g_Ai_GloDo a0 a1 a2 a3 a4 a5 a6 a7 a8),.tup [(false,[.own .any true 25 (.sl 49 (.pair .str (.sl 3 (.int .i64)))) (g_Vi_GloDo_0 a0 a1 a2 a3 a4 a5 a6 a7 a8)]),(false,[.bool (g_Vi_GloDo_1 a0 a1 a2 a3 a4 a5 a6 a7 a8)])],[]) := by kernel_rfl
theorem si_GloDo:Sound Tryz.prog 36 msi_GloDo Fi_GloDo := by
 refine fn_gen goodi_GloDo (by kernel_rfl) .std (fn := Tryz.f36) (c := (Tryz.f36.body.getD .skip)) (o := Oi_GloDo_2) (k := 2) (by kernel_rfl) (by kernel_rfl) (by kernel_rfl) (by kernel_rfl) (by decide) ki_GloDo_2 ?_
 intro ys r outs h
 unfold Fi_GloDo at h
 split at h
 ·exact (vi_GloDo _ _ _ _ _ _ _ _ _).trans h
 ·cases h
def Ei_StoGet:Env where
 tt := mkTI Tryz.prog
 fn := fun f => match f with
  | 52 => some (msi_StoStore_get,FSem.wk msi_StoStore_get Fi_StoStore_get)
  | 63 => some (msi_StoOk,FSem.wk msi_StoOk Fi_StoOk)
  | _ => none
 bxf := fun _ => none
 mv := []
 keep := fun _ => []
 keepB := fun _ => []
 keepX := fun _ => []
 keepXB := fun _ => []
theorem goodFi_StoGet:∀ f ms F,Ei_StoGet.fn f = some (ms,F) → Sound Tryz.prog f ms F := fun f ms F h => by
 unfold Ei_StoGet at h
 dsimp only at h
 split at h
 ·exact gF si_StoStore_get h
 ·exact gF si_StoOk h
 ·cases h
theorem goodi_StoGet:Good Tryz.prog Ei_StoGet := ⟨rfl,goodFi_StoGet,fun f ms F h => by cases h⟩
def Oi_StoGet_0:Orc := fun _ _ => none
def msi_StoGet:List PM := [.rd,.own]
def lsi_StoGet:List (Nat×Code) := loopsAll 0 (Tryz.f18.body.getD .skip)
theorem ki_StoGet_0:OrcOk Ei_StoGet Oi_StoGet_0 lsi_StoGet 0 := orcOk_none
def g_Ai_StoGet (a0:tS) (a1:ByteArray):Bool := g_Ai_StoOk a0&&(!g_Vi_StoOk_0 a0 || g_Ai_StoStore_get a0 a1)
def g_Vi_StoGet_0 (a0:tS) (a1:ByteArray):List Int := bif !g_Vi_StoOk_0 a0 then [] else g_Vi_StoStore_get_1 a0 a1
def g_Vi_StoGet_1 (a0:tS) (a1:ByteArray):Bool := bif !g_Vi_StoOk_0 a0 then false else !g_Vi_StoStore_get_0 a0 a1
def Fi_StoGet:FSem := fun ys => match ys with
 | [.val true [.sl .any 49 (.pair .str (.sl 3 (.int .i64))) a0],.val false [.str a1]] => some ((g_Ai_StoGet a0 a1),.tup [(false,[.own .any true 3 (.int .i64) (g_Vi_StoGet_0 a0 a1)]),(false,[.bool (g_Vi_StoGet_1 a0 a1)])],[])
 | _ => none
theorem vi_StoGet (a0:tS) (a1:ByteArray):collapseH .std Ei_StoGet Oi_StoGet_0 (execFn Ei_StoGet Tryz.f18 msi_StoGet [.val true [.sl .any 49 (.pair .str (.sl 3 (.int .i64))) a0],.val false [.str a1]]) = some ((g_Ai_StoGet a0 a1),.tup [(false,[.own .any true 3 (.int .i64) (g_Vi_StoGet_0 a0 a1)]),(false,[.bool (g_Vi_StoGet_1 a0 a1)])],[]) := by kernel_rfl
theorem si_StoGet:Sound Tryz.prog 18 msi_StoGet Fi_StoGet := by
 refine fn_gen goodi_StoGet (by kernel_rfl) .std (fn := Tryz.f18) (c := (Tryz.f18.body.getD .skip)) (o := Oi_StoGet_0) (k := 0) (by kernel_rfl) (by kernel_rfl) (by kernel_rfl) (by kernel_rfl) (by decide) ki_StoGet_0 ?_
 intro ys r outs h
 unfold Fi_StoGet at h
 split at h
 ·exact (vi_StoGet _ _).trans h
 ·cases h
def Es_l1In:Env where
 tt := mkTI Tryz.prog
 fn := fun _ => none
 bxf := fun _ => none
 mv := []
 keep := fun _ => []
 keepB := fun _ => []
 keepX := fun _ => []
 keepXB := fun _ => []
theorem goodFs_l1In:∀ f ms F,Es_l1In.fn f = some (ms,F) → Sound Tryz.prog f ms F := fun f ms F h => by cases h
theorem goods_l1In:Good Tryz.prog Es_l1In := ⟨rfl,goodFs_l1In,fun f ms F h => by cases h⟩
def Os_l1In_0:Orc := fun _ _ => none
def mss_l1In:List PM := [.own,.own,.own]
def lss_l1In:List (Nat×Code) := loopsAll 0 (Tryz.f59.body.getD .skip)
theorem ks_l1In_0:OrcOk Es_l1In Os_l1In_0 lss_l1In 0 := orcOk_none
def g_As_l1In (a0:Int) (a1:Int) (a2:Int):Bool := !decide (a0 ≥ a1) || true
def g_Vs_l1In_0 (a0:Int) (a1:Int) (a2:Int):Bool := bif decide (a0 ≥ a1) then decide (a0 ≤ a2) else false
def Fs_l1In:FSem := fun ys => match ys with
 | [.val false [.int .i64 a0],.val false [.int .i64 a1],.val false [.int .i64 a2]] => some ((g_As_l1In a0 a1 a2),.val false [.bool (g_Vs_l1In_0 a0 a1 a2)],[])
 | _ => none
theorem vs_l1In (a0:Int) (a1:Int) (a2:Int):collapseH .std Es_l1In Os_l1In_0 (execFn Es_l1In Tryz.f59 mss_l1In [.val false [.int .i64 a0],.val false [.int .i64 a1],.val false [.int .i64 a2]]) = some ((g_As_l1In a0 a1 a2),.val false [.bool (g_Vs_l1In_0 a0 a1 a2)],[]) := by kernel_rfl
theorem ss_l1In:Sound Tryz.prog 59 mss_l1In Fs_l1In := by
 refine fn_gen goods_l1In (by kernel_rfl) .std (fn := Tryz.f59) (c := (Tryz.f59.body.getD .skip)) (o := Os_l1In_0) (k := 0) (by kernel_rfl) (by kernel_rfl) (by kernel_rfl) (by kernel_rfl) (by decide) ks_l1In_0 ?_
 intro ys r outs h
 unfold Fs_l1In at h
 split at h
 ·exact (vs_l1In _ _ _).trans h
 ·cases h
def Es_l1Key:Env where
 tt := mkTI Tryz.prog
 fn := fun f => match f with
  | 59 => some (mss_l1In,FSem.wk mss_l1In Fs_l1In)
  | _ => none
 bxf := fun _ => none
 mv := []
 keep := fun b => match b with
  | 0 => [(0,false),(3,false)]
  | _ => []
 keepB := fun b => match b with
  | 0 => []
  | _ => []
 keepX := fun b => match b with
  | 0 => [(2,false)]
  | _ => []
 keepXB := fun b => match b with
  | 0 => []
  | _ => []
theorem goodFs_l1Key:∀ f ms F,Es_l1Key.fn f = some (ms,F) → Sound Tryz.prog f ms F := fun f ms F h => by
 unfold Es_l1Key at h
 dsimp only at h
 split at h
 ·exact gF ss_l1In h
 ·cases h
theorem goods_l1Key:Good Tryz.prog Es_l1Key := ⟨rfl,goodFs_l1Key,fun f ms F h => by cases h⟩
def Os_l1Key_0:Orc := fun _ _ => none
def mss_l1Key:List PM := [.own]
def lss_l1Key:List (Nat×Code) := loopsAll 0 (Tryz.f128.body.getD .skip)
def cs_l1Key_0:Code := (loopOf 0 (Tryz.f128.body.getD .skip)).getD .skip
theorem lseqs_l1Key:lss_l1Key = [(0,cs_l1Key_0)] := by kernel_rfl
theorem ms_l1Key_0:∀ p,p ∈ lss_l1Key → p.1 = 0 → p.2 = cs_l1Key_0 := by
 intro p hp
 rw [lseqs_l1Key] at hp
 simp only [List.mem_cons,List.not_mem_nil,or_false] at hp
 subst hp; simp
theorem ks_l1Key_0:OrcOk Es_l1Key Os_l1Key_0 lss_l1Key 0 := orcOk_none
def hs_l1Key_0 (y0:ByteArray) (y1:Int):List (Pl×LV) := [(.T 0,.t (.val false [.str y0])),(.T 3,.t (.val false [.int .i64 y1]))]
def g_Ss_l1Key_0 (y0:ByteArray):(Int) → RT (Int) ((Bool) ⊕ (Unit))
 | y1 => .br (true) (.br (decide (y1 < (↑(ByteArray.size y0):Int))) (.br (decide (0 ≤ y1 ∧ y1 < (↑(ByteArray.size y0):Int))) (.br (true) (.br (decide (byteAt y0 (Int.toNat y1) < 48)) (.out (.inl false)) (.br (decide (0 ≤ y1 ∧ y1 < (↑(ByteArray.size y0):Int))) (.br (true) (.br (decide (byteAt y0 (Int.toNat y1) > 57)) (.out (.inl false)) (.br (true) (.go (IntKind.i64.wrap (y1 + 1))) .bad)) .bad) .bad)) .bad) .bad) (.out (.inr (())))) .bad
def g_Ls_l1Key_0 (y0:ByteArray) (x:Int):Option ((Bool) ⊕ (Unit)) := loopO (g_Ss_l1Key_0 y0) x
def xs_l1Key_0 (y0:ByteArray):((Bool) ⊕ (Unit)) → Ex×List (Pl×LV) := fun
 | .inl r => (.ret,[(.T 2,.t (.val false [.bool r]))])
 | .inr (r) => (.exit 0,[(.T 2,.t (.val false [.undef]))])
def Os_l1Key_1:Orc := fun b h => match b,h with
 | 0,[(.T 0,.t (.val false [.str y0])),(.T 3,.t (.val false [.int .i64 y1]))] => some (okO (g_Ls_l1Key_0 y0 y1),(.br (isL (valO (g_Ls_l1Key_0 y0 y1))) (.leaf .ret [(.T 2,.t (.val false [.bool (getL (valO (g_Ls_l1Key_0 y0 y1)))]))]) (.leaf (.exit 0) [(.T 2,.t (.val false [.undef]))])))
 | b,h => Os_l1Key_0 b h
theorem bs_l1Key_0 (y0:ByteArray) (y1:Int):Tr.bt Es_l1Key Os_l1Key_0 (exec Es_l1Key 0 cs_l1Key_0 (St.of (hs_l1Key_0 y0 y1)) (leafRd Es_l1Key 0)) = (g_Ss_l1Key_0 y0 y1).bt (fun (y1:Int) => (hs_l1Key_0 y0 y1)) (xs_l1Key_0 y0) := by kernel_rfl
theorem ks_l1Key_1:OrcOk Es_l1Key Os_l1Key_1 lss_l1Key 1 := orc_add ks_l1Key_0 (fun n p hp h ex h' ho => by
 obtain ⟨b,c⟩ := p
 obtain ⟨xt,h1,h2⟩ := ho
 have h1:Os_l1Key_1 b h = some (true,xt) := h1
 unfold Os_l1Key_1 at h1
 split at h1
 ·injection h1 with h1
  injection h1 with e1 e2
  subst e2
  have hc:c = cs_l1Key_0 := ms_l1Key_0 _ hp rfl
  subst hc
  right
  rename_i y0 y1
  have key := LT_step ks_l1Key_0 hp (fun q hq => loopsAll_in _ _ _ _ hp hq) (fun (y1:Int) => (hs_l1Key_0 y0 y1)) (xs_l1Key_0 y0) (g_Ss_l1Key_0 y0) (fun x => by first | exact bs_l1Key_0 y0 x) n (x := y1) (okO_some e1)
  have hx:∀ r,XT.sel (.br (isL r) (.leaf .ret [(.T 2,.t (.val false [.bool (getL r)]))]) (.leaf (.exit 0) [(.T 2,.t (.val false [.undef]))])) = xs_l1Key_0 y0 r := fun r => by first | rfl | rcases r with r | r <;> rfl | rcases r with r | r | r <;> rfl | rcases r with r | r | r | r <;> rfl
  have h3 := (hx (valO (g_Ls_l1Key_0 y0 y1))).symm.trans h2
  have e3 := congrArg Prod.fst h3
  have e4 := congrArg Prod.snd h3
  simp only at e3 e4
  rw [← e3,← e4]
  exact key
 ·exact .inl ⟨xt,h1,h2⟩)
def g_As_l1Key (a0:ByteArray):Bool := g_As_l1In (↑(ByteArray.size a0):Int) (2:Int) (3:Int)&&(!g_Vs_l1In_0 (↑(ByteArray.size a0):Int) (2:Int) (3:Int) || decide ((0:Int) ≤ (0:Int) ∧ 0 < (↑(ByteArray.size a0):Int))&&(decide (byteAt a0 (nat_lit 0) < 97) || decide ((0:Int) ≤ (0:Int) ∧ 0 < (↑(ByteArray.size a0):Int))&&(decide (byteAt a0 (nat_lit 0) > 122) || okO (g_Ls_l1Key_0 a0 (1:Int)))))
def g_Vs_l1Key_0 (a0:ByteArray):Bool := bif !g_Vs_l1In_0 (↑(ByteArray.size a0):Int) (2:Int) (3:Int) then false else bif decide (byteAt a0 (nat_lit 0) < 97) then false else bif decide (byteAt a0 (nat_lit 0) > 122) then false else bif isL (valO (g_Ls_l1Key_0 a0 (1:Int))) then getL (valO (g_Ls_l1Key_0 a0 (1:Int))) else true
def Fs_l1Key:FSem := fun ys => match ys with
 | [.val false [.str a0]] => some ((g_As_l1Key a0),.val false [.bool (g_Vs_l1Key_0 a0)],[])
 | _ => none
theorem vs_l1Key (a0:ByteArray):collapseH .std Es_l1Key Os_l1Key_1 (execFn Es_l1Key Tryz.f128 mss_l1Key [.val false [.str a0]]) = some ((g_As_l1Key a0),.val false [.bool (g_Vs_l1Key_0 a0)],[]) := by kernel_rfl
theorem ss_l1Key:Sound Tryz.prog 128 mss_l1Key Fs_l1Key := by
 refine fn_gen goods_l1Key (by kernel_rfl) .std (fn := Tryz.f128) (c := (Tryz.f128.body.getD .skip)) (o := Os_l1Key_1) (k := 1) (by kernel_rfl) (by kernel_rfl) (by kernel_rfl) (by kernel_rfl) (by decide) ks_l1Key_1 ?_
 intro ys r outs h
 unfold Fs_l1Key at h
 split at h
 ·exact (vs_l1Key _).trans h
 ·cases h
def Es_l1Val:Env where
 tt := mkTI Tryz.prog
 fn := fun f => match f with
  | 59 => some (mss_l1In,FSem.wk mss_l1In Fs_l1In)
  | _ => none
 bxf := fun _ => none
 mv := []
 keep := fun b => match b with
  | 0 => [(0,false),(3,false)]
  | _ => []
 keepB := fun b => match b with
  | 0 => []
  | _ => []
 keepX := fun b => match b with
  | 0 => [(0,false),(2,false)]
  | _ => []
 keepXB := fun b => match b with
  | 0 => []
  | _ => []
theorem goodFs_l1Val:∀ f ms F,Es_l1Val.fn f = some (ms,F) → Sound Tryz.prog f ms F := fun f ms F h => by
 unfold Es_l1Val at h
 dsimp only at h
 split at h
 ·exact gF ss_l1In h
 ·cases h
theorem goods_l1Val:Good Tryz.prog Es_l1Val := ⟨rfl,goodFs_l1Val,fun f ms F h => by cases h⟩
def Os_l1Val_0:Orc := fun _ _ => none
def mss_l1Val:List PM := [.rd]
def lss_l1Val:List (Nat×Code) := loopsAll 0 (Tryz.f146.body.getD .skip)
def cs_l1Val_0:Code := (loopOf 0 (Tryz.f146.body.getD .skip)).getD .skip
theorem lseqs_l1Val:lss_l1Val = [(0,cs_l1Val_0)] := by kernel_rfl
theorem ms_l1Val_0:∀ p,p ∈ lss_l1Val → p.1 = 0 → p.2 = cs_l1Val_0 := by
 intro p hp
 rw [lseqs_l1Val] at hp
 simp only [List.mem_cons,List.not_mem_nil,or_false] at hp
 subst hp; simp
theorem ks_l1Val_0:OrcOk Es_l1Val Os_l1Val_0 lss_l1Val 0 := orcOk_none
def hs_l1Val_0 (y0:List Int) (y1:Int):List (Pl×LV) := [(.T 0,.t (.val false [.sl .any 3 (.int .i64) y0])),(.T 3,.t (.val false [.int .i64 y1]))]
def g_Ss_l1Val_0 (y0:List Int):(Int) → RT (Int) ((Bool) ⊕ (Unit))
 | y1 => .br (true) (.br (decide (y1 < (y0.length:Int))) (.br (decide (0 ≤ y1 ∧ y1 < (y0.length:Int))) (.br (g_As_l1In (at_ (.int .i64) y0 (Int.toNat y1)) (0:Int) (9999:Int)) (.br (!g_Vs_l1In_0 (at_ (.int .i64) y0 (Int.toNat y1)) (0:Int) (9999:Int)) (.out (.inl false)) (.br (true) (.go (IntKind.i64.wrap (y1 + 1))) .bad)) .bad) .bad) (.out (.inr (())))) .bad
def g_Ls_l1Val_0 (y0:List Int) (x:Int):Option ((Bool) ⊕ (Unit)) := loopO (g_Ss_l1Val_0 y0) x
def xs_l1Val_0 (y0:List Int):((Bool) ⊕ (Unit)) → Ex×List (Pl×LV) := fun
 | .inl r => (.ret,[(.T 0,.t (.val false [.sl .any 3 (.int .i64) y0])),(.T 2,.t (.val false [.bool r]))])
 | .inr (r) => (.exit 0,[(.T 0,.t (.val false [.sl .any 3 (.int .i64) y0])),(.T 2,.t (.val false [.undef]))])
def Os_l1Val_1:Orc := fun b h => match b,h with
 | 0,[(.T 0,.t (.val false [.sl .any 3 (.int .i64) y0])),(.T 3,.t (.val false [.int .i64 y1]))] => some (okO (g_Ls_l1Val_0 y0 y1),(.br (isL (valO (g_Ls_l1Val_0 y0 y1))) (.leaf .ret [(.T 0,.t (.val false [.sl .any 3 (.int .i64) y0])),(.T 2,.t (.val false [.bool (getL (valO (g_Ls_l1Val_0 y0 y1)))]))]) (.leaf (.exit 0) [(.T 0,.t (.val false [.sl .any 3 (.int .i64) y0])),(.T 2,.t (.val false [.undef]))])))
 | b,h => Os_l1Val_0 b h
theorem bs_l1Val_0 (y0:List Int) (y1:Int):Tr.bt Es_l1Val Os_l1Val_0 (exec Es_l1Val 0 cs_l1Val_0 (St.of (hs_l1Val_0 y0 y1)) (leafRd Es_l1Val 0)) = (g_Ss_l1Val_0 y0 y1).bt (fun (y1:Int) => (hs_l1Val_0 y0 y1)) (xs_l1Val_0 y0) := by kernel_rfl
theorem ks_l1Val_1:OrcOk Es_l1Val Os_l1Val_1 lss_l1Val 1 := orc_add ks_l1Val_0 (fun n p hp h ex h' ho => by
 obtain ⟨b,c⟩ := p
 obtain ⟨xt,h1,h2⟩ := ho
 have h1:Os_l1Val_1 b h = some (true,xt) := h1
 unfold Os_l1Val_1 at h1
 split at h1
 ·injection h1 with h1
  injection h1 with e1 e2
  subst e2
  have hc:c = cs_l1Val_0 := ms_l1Val_0 _ hp rfl
  subst hc
  right
  rename_i y0 y1
  have key := LT_step ks_l1Val_0 hp (fun q hq => loopsAll_in _ _ _ _ hp hq) (fun (y1:Int) => (hs_l1Val_0 y0 y1)) (xs_l1Val_0 y0) (g_Ss_l1Val_0 y0) (fun x => by first | exact bs_l1Val_0 y0 x) n (x := y1) (okO_some e1)
  have hx:∀ r,XT.sel (.br (isL r) (.leaf .ret [(.T 0,.t (.val false [.sl .any 3 (.int .i64) y0])),(.T 2,.t (.val false [.bool (getL r)]))]) (.leaf (.exit 0) [(.T 0,.t (.val false [.sl .any 3 (.int .i64) y0])),(.T 2,.t (.val false [.undef]))])) = xs_l1Val_0 y0 r := fun r => by first | rfl | rcases r with r | r <;> rfl | rcases r with r | r | r <;> rfl | rcases r with r | r | r | r <;> rfl
  have h3 := (hx (valO (g_Ls_l1Val_0 y0 y1))).symm.trans h2
  have e3 := congrArg Prod.fst h3
  have e4 := congrArg Prod.snd h3
  simp only at e3 e4
  rw [← e3,← e4]
  exact key
 ·exact .inl ⟨xt,h1,h2⟩)
def g_As_l1Val (a0:List Int):Bool := okO (g_Ls_l1Val_0 a0 (0:Int))&&(isL (valO (g_Ls_l1Val_0 a0 (0:Int))) || g_As_l1In (a0.length:Int) (1:Int) (3:Int))
def g_Vs_l1Val_0 (a0:List Int):Bool := bif isL (valO (g_Ls_l1Val_0 a0 (0:Int))) then getL (valO (g_Ls_l1Val_0 a0 (0:Int))) else g_Vs_l1In_0 (a0.length:Int) (1:Int) (3:Int)
def Fs_l1Val:FSem := fun ys => match ys with
 | [.val false [.sl .any 3 (.int .i64) a0]] => some ((g_As_l1Val a0),.val false [.bool (g_Vs_l1Val_0 a0)],[])
 | _ => none
theorem vs_l1Val (a0:List Int):collapseH .std Es_l1Val Os_l1Val_1 (execFn Es_l1Val Tryz.f146 mss_l1Val [.val false [.sl .any 3 (.int .i64) a0]]) = some ((g_As_l1Val a0),.val false [.bool (g_Vs_l1Val_0 a0)],[]) := by kernel_rfl
theorem ss_l1Val:Sound Tryz.prog 146 mss_l1Val Fs_l1Val := by
 refine fn_gen goods_l1Val (by kernel_rfl) .std (fn := Tryz.f146) (c := (Tryz.f146.body.getD .skip)) (o := Os_l1Val_1) (k := 1) (by kernel_rfl) (by kernel_rfl) (by kernel_rfl) (by kernel_rfl) (by decide) ks_l1Val_1 ?_
 intro ys r outs h
 unfold Fs_l1Val at h
 split at h
 ·exact (vs_l1Val _).trans h
 ·cases h
def Es_StoOk:Env where
 tt := mkTI Tryz.prog
 fn := fun f => match f with
  | 128 => some (mss_l1Key,FSem.wk mss_l1Key Fs_l1Key)
  | 146 => some (mss_l1Val,FSem.wk mss_l1Val Fs_l1Val)
  | _ => none
 bxf := fun _ => none
 mv := []
 keep := fun b => match b with
  | 0 => [(1,false),(3,false)]
  | _ => []
 keepB := fun b => match b with
  | 0 => [(1,false)]
  | _ => []
 keepX := fun b => match b with
  | 0 => [(2,false)]
  | _ => []
 keepXB := fun b => match b with
  | 0 => []
  | _ => []
theorem goodFs_StoOk:∀ f ms F,Es_StoOk.fn f = some (ms,F) → Sound Tryz.prog f ms F := fun f ms F h => by
 unfold Es_StoOk at h
 dsimp only at h
 split at h
 ·exact gF ss_l1Key h
 ·exact gF ss_l1Val h
 ·cases h
theorem goods_StoOk:Good Tryz.prog Es_StoOk := ⟨rfl,goodFs_StoOk,fun f ms F h => by cases h⟩
def Os_StoOk_0:Orc := fun _ _ => none
def mss_StoOk:List PM := [.rd]
def lss_StoOk:List (Nat×Code) := loopsAll 0 (Tryz.f102.body.getD .skip)
def cs_StoOk_0:Code := (loopOf 0 (Tryz.f102.body.getD .skip)).getD .skip
theorem lseqs_StoOk:lss_StoOk = [(0,cs_StoOk_0)] := by kernel_rfl
theorem ms_StoOk_0:∀ p,p ∈ lss_StoOk → p.1 = 0 → p.2 = cs_StoOk_0 := by
 intro p hp
 rw [lseqs_StoOk] at hp
 simp only [List.mem_cons,List.not_mem_nil,or_false] at hp
 subst hp; simp
theorem ks_StoOk_0:OrcOk Es_StoOk Os_StoOk_0 lss_StoOk 0 := orcOk_none
def hs_StoOk_0 (y0:Int) (y1:tS):List (Pl×LV) := [(.T 1,.t (.val false [.ptr 1 0 0])),(.T 3,.t (.val false [.int .i64 y0])),(.B 1,.b 0 false [.sl .any 49 (.pair .str (.sl 3 (.int .i64))) y1])]
def g_Ss_StoOk_0 (y1:tS):(Int) → RT (Int) ((Bool) ⊕ (Unit))
 | y0 => .br (true) (.br (decide (y0 < (y1.length:Int))) (.br (decide (0 ≤ y0 ∧ y0 < (y1.length:Int))) (.br (g_As_l1Key (at_ (.pair .str (.sl (nat_lit 3) (.int .i64))) y1 (Int.toNat y0)).1) (.br (!g_Vs_l1Key_0 (at_ (.pair .str (.sl (nat_lit 3) (.int .i64))) y1 (Int.toNat y0)).1) (.out (.inl false)) (.br (decide (0 ≤ y0 ∧ y0 < (y1.length:Int))) (.br (g_As_l1Val (at_ (.pair .str (.sl (nat_lit 3) (.int .i64))) y1 (Int.toNat y0)).2) (.br (!g_Vs_l1Val_0 (at_ (.pair .str (.sl (nat_lit 3) (.int .i64))) y1 (Int.toNat y0)).2) (.out (.inl false)) (.br (true) (.br (decide (y0 > 0)) (.br (true) (.br (decide (0 ≤ IntKind.i64.wrap (y0 - 1) ∧ IntKind.i64.wrap (y0 - 1) < (y1.length:Int))) (.br (decide (0 ≤ y0 ∧ y0 < (y1.length:Int))) (.br (true) (.br (!Op.bytesLess (ByteArray.toList (at_ (.pair .str (.sl (nat_lit 3) (.int .i64))) y1 (Int.toNat (IntKind.i64.wrap (y0 - 1)))).1) (ByteArray.toList (at_ (.pair .str (.sl (nat_lit 3) (.int .i64))) y1 (Int.toNat y0)).1)) (.out (.inl false)) (.br (true) (.go (IntKind.i64.wrap (y0 + 1))) .bad)) .bad) .bad) .bad) .bad) (.br (true) (.go (IntKind.i64.wrap (y0 + 1))) .bad)) .bad)) .bad) .bad)) .bad) .bad) (.out (.inr (())))) .bad
def g_Ls_StoOk_0 (y1:tS) (x:Int):Option ((Bool) ⊕ (Unit)) := loopO (g_Ss_StoOk_0 y1) x
def xs_StoOk_0 (y1:tS):((Bool) ⊕ (Unit)) → Ex×List (Pl×LV) := fun
 | .inl r => (.ret,[(.T 2,.t (.val false [.bool r]))])
 | .inr (r) => (.exit 0,[(.T 2,.t (.val false [.undef]))])
def Os_StoOk_1:Orc := fun b h => match b,h with
 | 0,[(.T 1,.t (.val false [.ptr 1 0 0])),(.T 3,.t (.val false [.int .i64 y0])),(.B 1,.b 0 false [.sl .any 49 (.pair .str (.sl 3 (.int .i64))) y1])] => some (okO (g_Ls_StoOk_0 y1 y0),(.br (isL (valO (g_Ls_StoOk_0 y1 y0))) (.leaf .ret [(.T 2,.t (.val false [.bool (getL (valO (g_Ls_StoOk_0 y1 y0)))]))]) (.leaf (.exit 0) [(.T 2,.t (.val false [.undef]))])))
 | b,h => Os_StoOk_0 b h
theorem bs_StoOk_0 (y0:Int) (y1:tS):Tr.bt Es_StoOk Os_StoOk_0 (exec Es_StoOk 0 cs_StoOk_0 (St.of (hs_StoOk_0 y0 y1)) (leafRd Es_StoOk 0)) = (g_Ss_StoOk_0 y1 y0).bt (fun (y0:Int) => (hs_StoOk_0 y0 y1)) (xs_StoOk_0 y1) := by kernel_rfl
theorem ks_StoOk_1:OrcOk Es_StoOk Os_StoOk_1 lss_StoOk 1 := orc_add ks_StoOk_0 (fun n p hp h ex h' ho => by
 obtain ⟨b,c⟩ := p
 obtain ⟨xt,h1,h2⟩ := ho
 have h1:Os_StoOk_1 b h = some (true,xt) := h1
 unfold Os_StoOk_1 at h1
 split at h1
 ·injection h1 with h1
  injection h1 with e1 e2
  subst e2
  have hc:c = cs_StoOk_0 := ms_StoOk_0 _ hp rfl
  subst hc
  right
  rename_i y0 y1
  have key := LT_step ks_StoOk_0 hp (fun q hq => loopsAll_in _ _ _ _ hp hq) (fun (y0:Int) => (hs_StoOk_0 y0 y1)) (xs_StoOk_0 y1) (g_Ss_StoOk_0 y1) (fun x => by first | exact bs_StoOk_0 x y1) n (x := y0) (okO_some e1)
  have hx:∀ r,XT.sel (.br (isL r) (.leaf .ret [(.T 2,.t (.val false [.bool (getL r)]))]) (.leaf (.exit 0) [(.T 2,.t (.val false [.undef]))])) = xs_StoOk_0 y1 r := fun r => by first | rfl | rcases r with r | r <;> rfl | rcases r with r | r | r <;> rfl | rcases r with r | r | r | r <;> rfl
  have h3 := (hx (valO (g_Ls_StoOk_0 y1 y0))).symm.trans h2
  have e3 := congrArg Prod.fst h3
  have e4 := congrArg Prod.snd h3
  simp only at e3 e4
  rw [← e3,← e4]
  exact key
 ·exact .inl ⟨xt,h1,h2⟩)
def g_As_StoOk (a0:tS):Bool := decide ((a0.length:Int) > 40) || okO (g_Ls_StoOk_0 a0 (0:Int))
def g_Vs_StoOk_0 (a0:tS):Bool := bif decide ((a0.length:Int) > 40) then false else bif isL (valO (g_Ls_StoOk_0 a0 (0:Int))) then getL (valO (g_Ls_StoOk_0 a0 (0:Int))) else true
def Fs_StoOk:FSem := fun ys => match ys with
 | [.val true [.sl .any 49 (.pair .str (.sl 3 (.int .i64))) a0]] => some ((g_As_StoOk a0),.val false [.bool (g_Vs_StoOk_0 a0)],[])
 | _ => none
theorem vs_StoOk (a0:tS):collapseH .std Es_StoOk Os_StoOk_1 (execFn Es_StoOk Tryz.f102 mss_StoOk [.val true [.sl .any 49 (.pair .str (.sl 3 (.int .i64))) a0]]) = some ((g_As_StoOk a0),.val false [.bool (g_Vs_StoOk_0 a0)],[]) := by kernel_rfl
theorem ss_StoOk:Sound Tryz.prog 102 mss_StoOk Fs_StoOk := by
 refine fn_gen goods_StoOk (by kernel_rfl) .std (fn := Tryz.f102) (c := (Tryz.f102.body.getD .skip)) (o := Os_StoOk_1) (k := 1) (by kernel_rfl) (by kernel_rfl) (by kernel_rfl) (by kernel_rfl) (by decide) ks_StoOk_1 ?_
 intro ys r outs h
 unfold Fs_StoOk at h
 split at h
 ·exact (vs_StoOk _).trans h
 ·cases h
def Es_l3Form:Env where
 tt := mkTI Tryz.prog
 fn := fun f => match f with
  | 59 => some (mss_l1In,FSem.wk mss_l1In Fs_l1In)
  | _ => none
 bxf := fun _ => none
 mv := []
 keep := fun b => match b with
  | 0 => [(0,false),(3,false),(5,false)]
  | _ => []
 keepB := fun b => match b with
  | 0 => [(3,false)]
  | _ => []
 keepX := fun b => match b with
  | 0 => [(4,false)]
  | _ => []
 keepXB := fun b => match b with
  | 0 => []
  | _ => []
theorem goodFs_l3Form:∀ f ms F,Es_l3Form.fn f = some (ms,F) → Sound Tryz.prog f ms F := fun f ms F h => by
 unfold Es_l3Form at h
 dsimp only at h
 split at h
 ·exact gF ss_l1In h
 ·cases h
theorem goods_l3Form:Good Tryz.prog Es_l3Form := ⟨rfl,goodFs_l3Form,fun f ms F h => by cases h⟩
def Os_l3Form_0:Orc := fun _ _ => none
def mss_l3Form:List PM := [.own,.rd]
def lss_l3Form:List (Nat×Code) := loopsAll 0 (Tryz.f103.body.getD .skip)
def cs_l3Form_0:Code := (loopOf 0 (Tryz.f103.body.getD .skip)).getD .skip
theorem lseqs_l3Form:lss_l3Form = [(0,cs_l3Form_0)] := by kernel_rfl
theorem ms_l3Form_0:∀ p,p ∈ lss_l3Form → p.1 = 0 → p.2 = cs_l3Form_0 := by
 intro p hp
 rw [lseqs_l3Form] at hp
 simp only [List.mem_cons,List.not_mem_nil,or_false] at hp
 subst hp; simp
theorem ks_l3Form_0:OrcOk Es_l3Form Os_l3Form_0 lss_l3Form 0 := orcOk_none
def hs_l3Form_0 (y0:Int) (y1:Int) (y2:tS):List (Pl×LV) := [(.T 0,.t (.val false [.int .i64 y0])),(.T 3,.t (.val false [.ptr 3 0 0])),(.T 5,.t (.val false [.int .i64 y1])),(.B 3,.b 0 false [.sl .any 49 (.pair .str (.sl 3 (.int .i64))) y2])]
def g_Ss_l3Form_0 (y0:Int) (y2:tS):(Int) → RT (Int) ((Bool) ⊕ (Unit))
 | y1 => .br (true) (.br (decide (y1 < (y2.length:Int))) (.br (decide (0 ≤ y1 ∧ y1 < (y2.length:Int))) (.br (decide ((0:Int) ≤ (0:Int) ∧ 0 < (↑(ByteArray.size (itI y2 y1).1):Int))) (.br (decide ((0:Int) ≤ (0:Int) ∧ 0 < (↑(List.length (itI y2 y1).2):Int))) (.br (true) (.br (y0 == 1) (.br (true) (.br (byteAt (itI y2 y1).1 (nat_lit 0) == 115) (.br (true) (.br ((↑(List.length (itI y2 y1).2):Int) == 1) (.br (true) (.br (decide (at_ (.int .i64) (itI y2 y1).2 (nat_lit 0) ≤ 9)) (.br (false) (.out (.inl false)) (.br (true) (.br (byteAt (itI y2 y1).1 (nat_lit 0) != 97) (.br (true) (.br ((↑(ByteArray.size (itI y2 y1).1):Int) != 2) (.out (.inl false)) (.br (true) (.go (IntKind.i64.wrap (y1 + 1))) .bad)) .bad) (.br (true) (.go (IntKind.i64.wrap (y1 + 1))) .bad)) .bad)) (.br (true) (.br (y0 == 3) (.br (true) (.br (byteAt (itI y2 y1).1 (nat_lit 0) == 97) (.br (true) (.br ((↑(List.length (itI y2 y1).2):Int) == 1) (.br (false) (.out (.inl false)) (.br (true) (.br (byteAt (itI y2 y1).1 (nat_lit 0) != 97) (.br (true) (.br ((↑(ByteArray.size (itI y2 y1).1):Int) != 2) (.out (.inl false)) (.br (true) (.go (IntKind.i64.wrap (y1 + 1))) .bad)) .bad) (.br (true) (.go (IntKind.i64.wrap (y1 + 1))) .bad)) .bad)) (.br (true) (.br (y0 == 2) (.br (true) (.br (decide (at_ (.int .i64) (itI y2 y1).2 (nat_lit 0) ≤ 9)) (.br (true) (.br (byteAt (itI y2 y1).1 (nat_lit 0) == 99) (.br (true) (.br ((↑(List.length (itI y2 y1).2):Int) == 2) (.br (false) (.out (.inl false)) (.br (true) (.br (byteAt (itI y2 y1).1 (nat_lit 0) != 97) (.br (true) (.br ((↑(ByteArray.size (itI y2 y1).1):Int) != 2) (.out (.inl false)) (.br (true) (.go (IntKind.i64.wrap (y1 + 1))) .bad)) .bad) (.br (true) (.go (IntKind.i64.wrap (y1 + 1))) .bad)) .bad)) (.br (true) (.br (byteAt (itI y2 y1).1 (nat_lit 0) == 102) (.br (true) (.br ((↑(List.length (itI y2 y1).2):Int) == 3) (.br (decide ((0:Int) ≤ (1:Int) ∧ 1 < (↑(List.length (itI y2 y1).2):Int))) (.br (g_As_l1In (at_ (.int .i64) (itI y2 y1).2 (nat_lit 1)) (1:Int) (99:Int)) (.br (g_Vs_l1In_0 (at_ (.int .i64) (itI y2 y1).2 (nat_lit 1)) (1:Int) (99:Int)) (.br (decide ((0:Int) ≤ (2:Int) ∧ 2 < (↑(List.length (itI y2 y1).2):Int))) (.br (true) (.br (!decide (at_ (.int .i64) (itI y2 y1).2 (nat_lit 2) ≤ 1)) (.out (.inl false)) (.br (true) (.br (byteAt (itI y2 y1).1 (nat_lit 0) != 97) (.br (true) (.br ((↑(ByteArray.size (itI y2 y1).1):Int) != 2) (.out (.inl false)) (.br (true) (.go (IntKind.i64.wrap (y1 + 1))) .bad)) .bad) (.br (true) (.go (IntKind.i64.wrap (y1 + 1))) .bad)) .bad)) .bad) .bad) (.br (true) (.out (.inl false)) (.br (true) (.br (byteAt (itI y2 y1).1 (nat_lit 0) != 97) (.br (true) (.br ((↑(ByteArray.size (itI y2 y1).1):Int) != 2) (.out (.inl false)) (.br (true) (.go (IntKind.i64.wrap (y1 + 1))) .bad)) .bad) (.br (true) (.go (IntKind.i64.wrap (y1 + 1))) .bad)) .bad))) .bad) .bad) (.br (true) (.out (.inl false)) (.br (true) (.br (byteAt (itI y2 y1).1 (nat_lit 0) != 97) (.br (true) (.br ((↑(ByteArray.size (itI y2 y1).1):Int) != 2) (.out (.inl false)) (.br (true) (.go (IntKind.i64.wrap (y1 + 1))) .bad)) .bad) (.br (true) (.go (IntKind.i64.wrap (y1 + 1))) .bad)) .bad))) .bad) (.br (true) (.out (.inl false)) (.br (true) (.br (byteAt (itI y2 y1).1 (nat_lit 0) != 97) (.br (true) (.br ((↑(ByteArray.size (itI y2 y1).1):Int) != 2) (.out (.inl false)) (.br (true) (.go (IntKind.i64.wrap (y1 + 1))) .bad)) .bad) (.br (true) (.go (IntKind.i64.wrap (y1 + 1))) .bad)) .bad))) .bad)) .bad) (.br (true) (.br (byteAt (itI y2 y1).1 (nat_lit 0) == 102) (.br (true) (.br ((↑(List.length (itI y2 y1).2):Int) == 3) (.br (decide ((0:Int) ≤ (1:Int) ∧ 1 < (↑(List.length (itI y2 y1).2):Int))) (.br (g_As_l1In (at_ (.int .i64) (itI y2 y1).2 (nat_lit 1)) (1:Int) (99:Int)) (.br (g_Vs_l1In_0 (at_ (.int .i64) (itI y2 y1).2 (nat_lit 1)) (1:Int) (99:Int)) (.br (decide ((0:Int) ≤ (2:Int) ∧ 2 < (↑(List.length (itI y2 y1).2):Int))) (.br (true) (.br (!decide (at_ (.int .i64) (itI y2 y1).2 (nat_lit 2) ≤ 1)) (.out (.inl false)) (.br (true) (.br (byteAt (itI y2 y1).1 (nat_lit 0) != 97) (.br (true) (.br ((↑(ByteArray.size (itI y2 y1).1):Int) != 2) (.out (.inl false)) (.br (true) (.go (IntKind.i64.wrap (y1 + 1))) .bad)) .bad) (.br (true) (.go (IntKind.i64.wrap (y1 + 1))) .bad)) .bad)) .bad) .bad) (.br (true) (.out (.inl false)) (.br (true) (.br (byteAt (itI y2 y1).1 (nat_lit 0) != 97) (.br (true) (.br ((↑(ByteArray.size (itI y2 y1).1):Int) != 2) (.out (.inl false)) (.br (true) (.go (IntKind.i64.wrap (y1 + 1))) .bad)) .bad) (.br (true) (.go (IntKind.i64.wrap (y1 + 1))) .bad)) .bad))) .bad) .bad) (.br (true) (.out (.inl false)) (.br (true) (.br (byteAt (itI y2 y1).1 (nat_lit 0) != 97) (.br (true) (.br ((↑(ByteArray.size (itI y2 y1).1):Int) != 2) (.out (.inl false)) (.br (true) (.go (IntKind.i64.wrap (y1 + 1))) .bad)) .bad) (.br (true) (.go (IntKind.i64.wrap (y1 + 1))) .bad)) .bad))) .bad) (.br (true) (.out (.inl false)) (.br (true) (.br (byteAt (itI y2 y1).1 (nat_lit 0) != 97) (.br (true) (.br ((↑(ByteArray.size (itI y2 y1).1):Int) != 2) (.out (.inl false)) (.br (true) (.go (IntKind.i64.wrap (y1 + 1))) .bad)) .bad) (.br (true) (.go (IntKind.i64.wrap (y1 + 1))) .bad)) .bad))) .bad)) .bad) (.br (true) (.out (.inl false)) (.br (true) (.br (byteAt (itI y2 y1).1 (nat_lit 0) != 97) (.br (true) (.br ((↑(ByteArray.size (itI y2 y1).1):Int) != 2) (.out (.inl false)) (.br (true) (.go (IntKind.i64.wrap (y1 + 1))) .bad)) .bad) (.br (true) (.go (IntKind.i64.wrap (y1 + 1))) .bad)) .bad))) .bad) (.br (true) (.out (.inl false)) (.br (true) (.br (byteAt (itI y2 y1).1 (nat_lit 0) != 97) (.br (true) (.br ((↑(ByteArray.size (itI y2 y1).1):Int) != 2) (.out (.inl false)) (.br (true) (.go (IntKind.i64.wrap (y1 + 1))) .bad)) .bad) (.br (true) (.go (IntKind.i64.wrap (y1 + 1))) .bad)) .bad))) .bad)) .bad) (.br (true) (.br (y0 == 2) (.br (true) (.br (decide (at_ (.int .i64) (itI y2 y1).2 (nat_lit 0) ≤ 9)) (.br (true) (.br (byteAt (itI y2 y1).1 (nat_lit 0) == 99) (.br (true) (.br ((↑(List.length (itI y2 y1).2):Int) == 2) (.br (false) (.out (.inl false)) (.br (true) (.br (byteAt (itI y2 y1).1 (nat_lit 0) != 97) (.br (true) (.br ((↑(ByteArray.size (itI y2 y1).1):Int) != 2) (.out (.inl false)) (.br (true) (.go (IntKind.i64.wrap (y1 + 1))) .bad)) .bad) (.br (true) (.go (IntKind.i64.wrap (y1 + 1))) .bad)) .bad)) (.br (true) (.br (byteAt (itI y2 y1).1 (nat_lit 0) == 102) (.br (true) (.br ((↑(List.length (itI y2 y1).2):Int) == 3) (.br (decide ((0:Int) ≤ (1:Int) ∧ 1 < (↑(List.length (itI y2 y1).2):Int))) (.br (g_As_l1In (at_ (.int .i64) (itI y2 y1).2 (nat_lit 1)) (1:Int) (99:Int)) (.br (g_Vs_l1In_0 (at_ (.int .i64) (itI y2 y1).2 (nat_lit 1)) (1:Int) (99:Int)) (.br (decide ((0:Int) ≤ (2:Int) ∧ 2 < (↑(List.length (itI y2 y1).2):Int))) (.br (true) (.br (!decide (at_ (.int .i64) (itI y2 y1).2 (nat_lit 2) ≤ 1)) (.out (.inl false)) (.br (true) (.br (byteAt (itI y2 y1).1 (nat_lit 0) != 97) (.br (true) (.br ((↑(ByteArray.size (itI y2 y1).1):Int) != 2) (.out (.inl false)) (.br (true) (.go (IntKind.i64.wrap (y1 + 1))) .bad)) .bad) (.br (true) (.go (IntKind.i64.wrap (y1 + 1))) .bad)) .bad)) .bad) .bad) (.br (true) (.out (.inl false)) (.br (true) (.br (byteAt (itI y2 y1).1 (nat_lit 0) != 97) (.br (true) (.br ((↑(ByteArray.size (itI y2 y1).1):Int) != 2) (.out (.inl false)) (.br (true) (.go (IntKind.i64.wrap (y1 + 1))) .bad)) .bad) (.br (true) (.go (IntKind.i64.wrap (y1 + 1))) .bad)) .bad))) .bad) .bad) (.br (true) (.out (.inl false)) (.br (true) (.br (byteAt (itI y2 y1).1 (nat_lit 0) != 97) (.br (true) (.br ((↑(ByteArray.size (itI y2 y1).1):Int) != 2) (.out (.inl false)) (.br (true) (.go (IntKind.i64.wrap (y1 + 1))) .bad)) .bad) (.br (true) (.go (IntKind.i64.wrap (y1 + 1))) .bad)) .bad))) .bad) (.br (true) (.out (.inl false)) (.br (true) (.br (byteAt (itI y2 y1).1 (nat_lit 0) != 97) (.br (true) (.br ((↑(ByteArray.size (itI y2 y1).1):Int) != 2) (.out (.inl false)) (.br (true) (.go (IntKind.i64.wrap (y1 + 1))) .bad)) .bad) (.br (true) (.go (IntKind.i64.wrap (y1 + 1))) .bad)) .bad))) .bad)) .bad) (.br (true) (.br (byteAt (itI y2 y1).1 (nat_lit 0) == 102) (.br (true) (.br ((↑(List.length (itI y2 y1).2):Int) == 3) (.br (decide ((0:Int) ≤ (1:Int) ∧ 1 < (↑(List.length (itI y2 y1).2):Int))) (.br (g_As_l1In (at_ (.int .i64) (itI y2 y1).2 (nat_lit 1)) (1:Int) (99:Int)) (.br (g_Vs_l1In_0 (at_ (.int .i64) (itI y2 y1).2 (nat_lit 1)) (1:Int) (99:Int)) (.br (decide ((0:Int) ≤ (2:Int) ∧ 2 < (↑(List.length (itI y2 y1).2):Int))) (.br (true) (.br (!decide (at_ (.int .i64) (itI y2 y1).2 (nat_lit 2) ≤ 1)) (.out (.inl false)) (.br (true) (.br (byteAt (itI y2 y1).1 (nat_lit 0) != 97) (.br (true) (.br ((↑(ByteArray.size (itI y2 y1).1):Int) != 2) (.out (.inl false)) (.br (true) (.go (IntKind.i64.wrap (y1 + 1))) .bad)) .bad) (.br (true) (.go (IntKind.i64.wrap (y1 + 1))) .bad)) .bad)) .bad) .bad) (.br (true) (.out (.inl false)) (.br (true) (.br (byteAt (itI y2 y1).1 (nat_lit 0) != 97) (.br (true) (.br ((↑(ByteArray.size (itI y2 y1).1):Int) != 2) (.out (.inl false)) (.br (true) (.go (IntKind.i64.wrap (y1 + 1))) .bad)) .bad) (.br (true) (.go (IntKind.i64.wrap (y1 + 1))) .bad)) .bad))) .bad) .bad) (.br (true) (.out (.inl false)) (.br (true) (.br (byteAt (itI y2 y1).1 (nat_lit 0) != 97) (.br (true) (.br ((↑(ByteArray.size (itI y2 y1).1):Int) != 2) (.out (.inl false)) (.br (true) (.go (IntKind.i64.wrap (y1 + 1))) .bad)) .bad) (.br (true) (.go (IntKind.i64.wrap (y1 + 1))) .bad)) .bad))) .bad) (.br (true) (.out (.inl false)) (.br (true) (.br (byteAt (itI y2 y1).1 (nat_lit 0) != 97) (.br (true) (.br ((↑(ByteArray.size (itI y2 y1).1):Int) != 2) (.out (.inl false)) (.br (true) (.go (IntKind.i64.wrap (y1 + 1))) .bad)) .bad) (.br (true) (.go (IntKind.i64.wrap (y1 + 1))) .bad)) .bad))) .bad)) .bad) (.br (true) (.out (.inl false)) (.br (true) (.br (byteAt (itI y2 y1).1 (nat_lit 0) != 97) (.br (true) (.br ((↑(ByteArray.size (itI y2 y1).1):Int) != 2) (.out (.inl false)) (.br (true) (.go (IntKind.i64.wrap (y1 + 1))) .bad)) .bad) (.br (true) (.go (IntKind.i64.wrap (y1 + 1))) .bad)) .bad))) .bad) (.br (true) (.out (.inl false)) (.br (true) (.br (byteAt (itI y2 y1).1 (nat_lit 0) != 97) (.br (true) (.br ((↑(ByteArray.size (itI y2 y1).1):Int) != 2) (.out (.inl false)) (.br (true) (.go (IntKind.i64.wrap (y1 + 1))) .bad)) .bad) (.br (true) (.go (IntKind.i64.wrap (y1 + 1))) .bad)) .bad))) .bad)) .bad) (.br (true) (.br (y0 == 2) (.br (true) (.br (decide (at_ (.int .i64) (itI y2 y1).2 (nat_lit 0) ≤ 9)) (.br (true) (.br (byteAt (itI y2 y1).1 (nat_lit 0) == 99) (.br (true) (.br ((↑(List.length (itI y2 y1).2):Int) == 2) (.br (false) (.out (.inl false)) (.br (true) (.br (byteAt (itI y2 y1).1 (nat_lit 0) != 97) (.br (true) (.br ((↑(ByteArray.size (itI y2 y1).1):Int) != 2) (.out (.inl false)) (.br (true) (.go (IntKind.i64.wrap (y1 + 1))) .bad)) .bad) (.br (true) (.go (IntKind.i64.wrap (y1 + 1))) .bad)) .bad)) (.br (true) (.br (byteAt (itI y2 y1).1 (nat_lit 0) == 102) (.br (true) (.br ((↑(List.length (itI y2 y1).2):Int) == 3) (.br (decide ((0:Int) ≤ (1:Int) ∧ 1 < (↑(List.length (itI y2 y1).2):Int))) (.br (g_As_l1In (at_ (.int .i64) (itI y2 y1).2 (nat_lit 1)) (1:Int) (99:Int)) (.br (g_Vs_l1In_0 (at_ (.int .i64) (itI y2 y1).2 (nat_lit 1)) (1:Int) (99:Int)) (.br (decide ((0:Int) ≤ (2:Int) ∧ 2 < (↑(List.length (itI y2 y1).2):Int))) (.br (true) (.br (!decide (at_ (.int .i64) (itI y2 y1).2 (nat_lit 2) ≤ 1)) (.out (.inl false)) (.br (true) (.br (byteAt (itI y2 y1).1 (nat_lit 0) != 97) (.br (true) (.br ((↑(ByteArray.size (itI y2 y1).1):Int) != 2) (.out (.inl false)) (.br (true) (.go (IntKind.i64.wrap (y1 + 1))) .bad)) .bad) (.br (true) (.go (IntKind.i64.wrap (y1 + 1))) .bad)) .bad)) .bad) .bad) (.br (true) (.out (.inl false)) (.br (true) (.br (byteAt (itI y2 y1).1 (nat_lit 0) != 97) (.br (true) (.br ((↑(ByteArray.size (itI y2 y1).1):Int) != 2) (.out (.inl false)) (.br (true) (.go (IntKind.i64.wrap (y1 + 1))) .bad)) .bad) (.br (true) (.go (IntKind.i64.wrap (y1 + 1))) .bad)) .bad))) .bad) .bad) (.br (true) (.out (.inl false)) (.br (true) (.br (byteAt (itI y2 y1).1 (nat_lit 0) != 97) (.br (true) (.br ((↑(ByteArray.size (itI y2 y1).1):Int) != 2) (.out (.inl false)) (.br (true) (.go (IntKind.i64.wrap (y1 + 1))) .bad)) .bad) (.br (true) (.go (IntKind.i64.wrap (y1 + 1))) .bad)) .bad))) .bad) (.br (true) (.out (.inl false)) (.br (true) (.br (byteAt (itI y2 y1).1 (nat_lit 0) != 97) (.br (true) (.br ((↑(ByteArray.size (itI y2 y1).1):Int) != 2) (.out (.inl false)) (.br (true) (.go (IntKind.i64.wrap (y1 + 1))) .bad)) .bad) (.br (true) (.go (IntKind.i64.wrap (y1 + 1))) .bad)) .bad))) .bad)) .bad) (.br (true) (.br (byteAt (itI y2 y1).1 (nat_lit 0) == 102) (.br (true) (.br ((↑(List.length (itI y2 y1).2):Int) == 3) (.br (decide ((0:Int) ≤ (1:Int) ∧ 1 < (↑(List.length (itI y2 y1).2):Int))) (.br (g_As_l1In (at_ (.int .i64) (itI y2 y1).2 (nat_lit 1)) (1:Int) (99:Int)) (.br (g_Vs_l1In_0 (at_ (.int .i64) (itI y2 y1).2 (nat_lit 1)) (1:Int) (99:Int)) (.br (decide ((0:Int) ≤ (2:Int) ∧ 2 < (↑(List.length (itI y2 y1).2):Int))) (.br (true) (.br (!decide (at_ (.int .i64) (itI y2 y1).2 (nat_lit 2) ≤ 1)) (.out (.inl false)) (.br (true) (.br (byteAt (itI y2 y1).1 (nat_lit 0) != 97) (.br (true) (.br ((↑(ByteArray.size (itI y2 y1).1):Int) != 2) (.out (.inl false)) (.br (true) (.go (IntKind.i64.wrap (y1 + 1))) .bad)) .bad) (.br (true) (.go (IntKind.i64.wrap (y1 + 1))) .bad)) .bad)) .bad) .bad) (.br (true) (.out (.inl false)) (.br (true) (.br (byteAt (itI y2 y1).1 (nat_lit 0) != 97) (.br (true) (.br ((↑(ByteArray.size (itI y2 y1).1):Int) != 2) (.out (.inl false)) (.br (true) (.go (IntKind.i64.wrap (y1 + 1))) .bad)) .bad) (.br (true) (.go (IntKind.i64.wrap (y1 + 1))) .bad)) .bad))) .bad) .bad) (.br (true) (.out (.inl false)) (.br (true) (.br (byteAt (itI y2 y1).1 (nat_lit 0) != 97) (.br (true) (.br ((↑(ByteArray.size (itI y2 y1).1):Int) != 2) (.out (.inl false)) (.br (true) (.go (IntKind.i64.wrap (y1 + 1))) .bad)) .bad) (.br (true) (.go (IntKind.i64.wrap (y1 + 1))) .bad)) .bad))) .bad) (.br (true) (.out (.inl false)) (.br (true) (.br (byteAt (itI y2 y1).1 (nat_lit 0) != 97) (.br (true) (.br ((↑(ByteArray.size (itI y2 y1).1):Int) != 2) (.out (.inl false)) (.br (true) (.go (IntKind.i64.wrap (y1 + 1))) .bad)) .bad) (.br (true) (.go (IntKind.i64.wrap (y1 + 1))) .bad)) .bad))) .bad)) .bad) (.br (true) (.out (.inl false)) (.br (true) (.br (byteAt (itI y2 y1).1 (nat_lit 0) != 97) (.br (true) (.br ((↑(ByteArray.size (itI y2 y1).1):Int) != 2) (.out (.inl false)) (.br (true) (.go (IntKind.i64.wrap (y1 + 1))) .bad)) .bad) (.br (true) (.go (IntKind.i64.wrap (y1 + 1))) .bad)) .bad))) .bad) (.br (true) (.out (.inl false)) (.br (true) (.br (byteAt (itI y2 y1).1 (nat_lit 0) != 97) (.br (true) (.br ((↑(ByteArray.size (itI y2 y1).1):Int) != 2) (.out (.inl false)) (.br (true) (.go (IntKind.i64.wrap (y1 + 1))) .bad)) .bad) (.br (true) (.go (IntKind.i64.wrap (y1 + 1))) .bad)) .bad))) .bad)) .bad)) .bad) (.br (true) (.br (y0 == 3) (.br (true) (.br (byteAt (itI y2 y1).1 (nat_lit 0) == 97) (.br (true) (.br ((↑(List.length (itI y2 y1).2):Int) == 1) (.br (false) (.out (.inl false)) (.br (true) (.br (byteAt (itI y2 y1).1 (nat_lit 0) != 97) (.br (true) (.br ((↑(ByteArray.size (itI y2 y1).1):Int) != 2) (.out (.inl false)) (.br (true) (.go (IntKind.i64.wrap (y1 + 1))) .bad)) .bad) (.br (true) (.go (IntKind.i64.wrap (y1 + 1))) .bad)) .bad)) (.br (true) (.br (y0 == 2) (.br (true) (.br (decide (at_ (.int .i64) (itI y2 y1).2 (nat_lit 0) ≤ 9)) (.br (true) (.br (byteAt (itI y2 y1).1 (nat_lit 0) == 99) (.br (true) (.br ((↑(List.length (itI y2 y1).2):Int) == 2) (.br (false) (.out (.inl false)) (.br (true) (.br (byteAt (itI y2 y1).1 (nat_lit 0) != 97) (.br (true) (.br ((↑(ByteArray.size (itI y2 y1).1):Int) != 2) (.out (.inl false)) (.br (true) (.go (IntKind.i64.wrap (y1 + 1))) .bad)) .bad) (.br (true) (.go (IntKind.i64.wrap (y1 + 1))) .bad)) .bad)) (.br (true) (.br (byteAt (itI y2 y1).1 (nat_lit 0) == 102) (.br (true) (.br ((↑(List.length (itI y2 y1).2):Int) == 3) (.br (decide ((0:Int) ≤ (1:Int) ∧ 1 < (↑(List.length (itI y2 y1).2):Int))) (.br (g_As_l1In (at_ (.int .i64) (itI y2 y1).2 (nat_lit 1)) (1:Int) (99:Int)) (.br (g_Vs_l1In_0 (at_ (.int .i64) (itI y2 y1).2 (nat_lit 1)) (1:Int) (99:Int)) (.br (decide ((0:Int) ≤ (2:Int) ∧ 2 < (↑(List.length (itI y2 y1).2):Int))) (.br (true) (.br (!decide (at_ (.int .i64) (itI y2 y1).2 (nat_lit 2) ≤ 1)) (.out (.inl false)) (.br (true) (.br (byteAt (itI y2 y1).1 (nat_lit 0) != 97) (.br (true) (.br ((↑(ByteArray.size (itI y2 y1).1):Int) != 2) (.out (.inl false)) (.br (true) (.go (IntKind.i64.wrap (y1 + 1))) .bad)) .bad) (.br (true) (.go (IntKind.i64.wrap (y1 + 1))) .bad)) .bad)) .bad) .bad) (.br (true) (.out (.inl false)) (.br (true) (.br (byteAt (itI y2 y1).1 (nat_lit 0) != 97) (.br (true) (.br ((↑(ByteArray.size (itI y2 y1).1):Int) != 2) (.out (.inl false)) (.br (true) (.go (IntKind.i64.wrap (y1 + 1))) .bad)) .bad) (.br (true) (.go (IntKind.i64.wrap (y1 + 1))) .bad)) .bad))) .bad) .bad) (.br (true) (.out (.inl false)) (.br (true) (.br (byteAt (itI y2 y1).1 (nat_lit 0) != 97) (.br (true) (.br ((↑(ByteArray.size (itI y2 y1).1):Int) != 2) (.out (.inl false)) (.br (true) (.go (IntKind.i64.wrap (y1 + 1))) .bad)) .bad) (.br (true) (.go (IntKind.i64.wrap (y1 + 1))) .bad)) .bad))) .bad) (.br (true) (.out (.inl false)) (.br (true) (.br (byteAt (itI y2 y1).1 (nat_lit 0) != 97) (.br (true) (.br ((↑(ByteArray.size (itI y2 y1).1):Int) != 2) (.out (.inl false)) (.br (true) (.go (IntKind.i64.wrap (y1 + 1))) .bad)) .bad) (.br (true) (.go (IntKind.i64.wrap (y1 + 1))) .bad)) .bad))) .bad)) .bad) (.br (true) (.br (byteAt (itI y2 y1).1 (nat_lit 0) == 102) (.br (true) (.br ((↑(List.length (itI y2 y1).2):Int) == 3) (.br (decide ((0:Int) ≤ (1:Int) ∧ 1 < (↑(List.length (itI y2 y1).2):Int))) (.br (g_As_l1In (at_ (.int .i64) (itI y2 y1).2 (nat_lit 1)) (1:Int) (99:Int)) (.br (g_Vs_l1In_0 (at_ (.int .i64) (itI y2 y1).2 (nat_lit 1)) (1:Int) (99:Int)) (.br (decide ((0:Int) ≤ (2:Int) ∧ 2 < (↑(List.length (itI y2 y1).2):Int))) (.br (true) (.br (!decide (at_ (.int .i64) (itI y2 y1).2 (nat_lit 2) ≤ 1)) (.out (.inl false)) (.br (true) (.br (byteAt (itI y2 y1).1 (nat_lit 0) != 97) (.br (true) (.br ((↑(ByteArray.size (itI y2 y1).1):Int) != 2) (.out (.inl false)) (.br (true) (.go (IntKind.i64.wrap (y1 + 1))) .bad)) .bad) (.br (true) (.go (IntKind.i64.wrap (y1 + 1))) .bad)) .bad)) .bad) .bad) (.br (true) (.out (.inl false)) (.br (true) (.br (byteAt (itI y2 y1).1 (nat_lit 0) != 97) (.br (true) (.br ((↑(ByteArray.size (itI y2 y1).1):Int) != 2) (.out (.inl false)) (.br (true) (.go (IntKind.i64.wrap (y1 + 1))) .bad)) .bad) (.br (true) (.go (IntKind.i64.wrap (y1 + 1))) .bad)) .bad))) .bad) .bad) (.br (true) (.out (.inl false)) (.br (true) (.br (byteAt (itI y2 y1).1 (nat_lit 0) != 97) (.br (true) (.br ((↑(ByteArray.size (itI y2 y1).1):Int) != 2) (.out (.inl false)) (.br (true) (.go (IntKind.i64.wrap (y1 + 1))) .bad)) .bad) (.br (true) (.go (IntKind.i64.wrap (y1 + 1))) .bad)) .bad))) .bad) (.br (true) (.out (.inl false)) (.br (true) (.br (byteAt (itI y2 y1).1 (nat_lit 0) != 97) (.br (true) (.br ((↑(ByteArray.size (itI y2 y1).1):Int) != 2) (.out (.inl false)) (.br (true) (.go (IntKind.i64.wrap (y1 + 1))) .bad)) .bad) (.br (true) (.go (IntKind.i64.wrap (y1 + 1))) .bad)) .bad))) .bad)) .bad) (.br (true) (.out (.inl false)) (.br (true) (.br (byteAt (itI y2 y1).1 (nat_lit 0) != 97) (.br (true) (.br ((↑(ByteArray.size (itI y2 y1).1):Int) != 2) (.out (.inl false)) (.br (true) (.go (IntKind.i64.wrap (y1 + 1))) .bad)) .bad) (.br (true) (.go (IntKind.i64.wrap (y1 + 1))) .bad)) .bad))) .bad) (.br (true) (.out (.inl false)) (.br (true) (.br (byteAt (itI y2 y1).1 (nat_lit 0) != 97) (.br (true) (.br ((↑(ByteArray.size (itI y2 y1).1):Int) != 2) (.out (.inl false)) (.br (true) (.go (IntKind.i64.wrap (y1 + 1))) .bad)) .bad) (.br (true) (.go (IntKind.i64.wrap (y1 + 1))) .bad)) .bad))) .bad)) .bad) (.br (true) (.br (y0 == 2) (.br (true) (.br (decide (at_ (.int .i64) (itI y2 y1).2 (nat_lit 0) ≤ 9)) (.br (true) (.br (byteAt (itI y2 y1).1 (nat_lit 0) == 99) (.br (true) (.br ((↑(List.length (itI y2 y1).2):Int) == 2) (.br (false) (.out (.inl false)) (.br (true) (.br (byteAt (itI y2 y1).1 (nat_lit 0) != 97) (.br (true) (.br ((↑(ByteArray.size (itI y2 y1).1):Int) != 2) (.out (.inl false)) (.br (true) (.go (IntKind.i64.wrap (y1 + 1))) .bad)) .bad) (.br (true) (.go (IntKind.i64.wrap (y1 + 1))) .bad)) .bad)) (.br (true) (.br (byteAt (itI y2 y1).1 (nat_lit 0) == 102) (.br (true) (.br ((↑(List.length (itI y2 y1).2):Int) == 3) (.br (decide ((0:Int) ≤ (1:Int) ∧ 1 < (↑(List.length (itI y2 y1).2):Int))) (.br (g_As_l1In (at_ (.int .i64) (itI y2 y1).2 (nat_lit 1)) (1:Int) (99:Int)) (.br (g_Vs_l1In_0 (at_ (.int .i64) (itI y2 y1).2 (nat_lit 1)) (1:Int) (99:Int)) (.br (decide ((0:Int) ≤ (2:Int) ∧ 2 < (↑(List.length (itI y2 y1).2):Int))) (.br (true) (.br (!decide (at_ (.int .i64) (itI y2 y1).2 (nat_lit 2) ≤ 1)) (.out (.inl false)) (.br (true) (.br (byteAt (itI y2 y1).1 (nat_lit 0) != 97) (.br (true) (.br ((↑(ByteArray.size (itI y2 y1).1):Int) != 2) (.out (.inl false)) (.br (true) (.go (IntKind.i64.wrap (y1 + 1))) .bad)) .bad) (.br (true) (.go (IntKind.i64.wrap (y1 + 1))) .bad)) .bad)) .bad) .bad) (.br (true) (.out (.inl false)) (.br (true) (.br (byteAt (itI y2 y1).1 (nat_lit 0) != 97) (.br (true) (.br ((↑(ByteArray.size (itI y2 y1).1):Int) != 2) (.out (.inl false)) (.br (true) (.go (IntKind.i64.wrap (y1 + 1))) .bad)) .bad) (.br (true) (.go (IntKind.i64.wrap (y1 + 1))) .bad)) .bad))) .bad) .bad) (.br (true) (.out (.inl false)) (.br (true) (.br (byteAt (itI y2 y1).1 (nat_lit 0) != 97) (.br (true) (.br ((↑(ByteArray.size (itI y2 y1).1):Int) != 2) (.out (.inl false)) (.br (true) (.go (IntKind.i64.wrap (y1 + 1))) .bad)) .bad) (.br (true) (.go (IntKind.i64.wrap (y1 + 1))) .bad)) .bad))) .bad) (.br (true) (.out (.inl false)) (.br (true) (.br (byteAt (itI y2 y1).1 (nat_lit 0) != 97) (.br (true) (.br ((↑(ByteArray.size (itI y2 y1).1):Int) != 2) (.out (.inl false)) (.br (true) (.go (IntKind.i64.wrap (y1 + 1))) .bad)) .bad) (.br (true) (.go (IntKind.i64.wrap (y1 + 1))) .bad)) .bad))) .bad)) .bad) (.br (true) (.br (byteAt (itI y2 y1).1 (nat_lit 0) == 102) (.br (true) (.br ((↑(List.length (itI y2 y1).2):Int) == 3) (.br (decide ((0:Int) ≤ (1:Int) ∧ 1 < (↑(List.length (itI y2 y1).2):Int))) (.br (g_As_l1In (at_ (.int .i64) (itI y2 y1).2 (nat_lit 1)) (1:Int) (99:Int)) (.br (g_Vs_l1In_0 (at_ (.int .i64) (itI y2 y1).2 (nat_lit 1)) (1:Int) (99:Int)) (.br (decide ((0:Int) ≤ (2:Int) ∧ 2 < (↑(List.length (itI y2 y1).2):Int))) (.br (true) (.br (!decide (at_ (.int .i64) (itI y2 y1).2 (nat_lit 2) ≤ 1)) (.out (.inl false)) (.br (true) (.br (byteAt (itI y2 y1).1 (nat_lit 0) != 97) (.br (true) (.br ((↑(ByteArray.size (itI y2 y1).1):Int) != 2) (.out (.inl false)) (.br (true) (.go (IntKind.i64.wrap (y1 + 1))) .bad)) .bad) (.br (true) (.go (IntKind.i64.wrap (y1 + 1))) .bad)) .bad)) .bad) .bad) (.br (true) (.out (.inl false)) (.br (true) (.br (byteAt (itI y2 y1).1 (nat_lit 0) != 97) (.br (true) (.br ((↑(ByteArray.size (itI y2 y1).1):Int) != 2) (.out (.inl false)) (.br (true) (.go (IntKind.i64.wrap (y1 + 1))) .bad)) .bad) (.br (true) (.go (IntKind.i64.wrap (y1 + 1))) .bad)) .bad))) .bad) .bad) (.br (true) (.out (.inl false)) (.br (true) (.br (byteAt (itI y2 y1).1 (nat_lit 0) != 97) (.br (true) (.br ((↑(ByteArray.size (itI y2 y1).1):Int) != 2) (.out (.inl false)) (.br (true) (.go (IntKind.i64.wrap (y1 + 1))) .bad)) .bad) (.br (true) (.go (IntKind.i64.wrap (y1 + 1))) .bad)) .bad))) .bad) (.br (true) (.out (.inl false)) (.br (true) (.br (byteAt (itI y2 y1).1 (nat_lit 0) != 97) (.br (true) (.br ((↑(ByteArray.size (itI y2 y1).1):Int) != 2) (.out (.inl false)) (.br (true) (.go (IntKind.i64.wrap (y1 + 1))) .bad)) .bad) (.br (true) (.go (IntKind.i64.wrap (y1 + 1))) .bad)) .bad))) .bad)) .bad) (.br (true) (.out (.inl false)) (.br (true) (.br (byteAt (itI y2 y1).1 (nat_lit 0) != 97) (.br (true) (.br ((↑(ByteArray.size (itI y2 y1).1):Int) != 2) (.out (.inl false)) (.br (true) (.go (IntKind.i64.wrap (y1 + 1))) .bad)) .bad) (.br (true) (.go (IntKind.i64.wrap (y1 + 1))) .bad)) .bad))) .bad) (.br (true) (.out (.inl false)) (.br (true) (.br (byteAt (itI y2 y1).1 (nat_lit 0) != 97) (.br (true) (.br ((↑(ByteArray.size (itI y2 y1).1):Int) != 2) (.out (.inl false)) (.br (true) (.go (IntKind.i64.wrap (y1 + 1))) .bad)) .bad) (.br (true) (.go (IntKind.i64.wrap (y1 + 1))) .bad)) .bad))) .bad)) .bad) (.br (true) (.br (y0 == 2) (.br (true) (.br (decide (at_ (.int .i64) (itI y2 y1).2 (nat_lit 0) ≤ 9)) (.br (true) (.br (byteAt (itI y2 y1).1 (nat_lit 0) == 99) (.br (true) (.br ((↑(List.length (itI y2 y1).2):Int) == 2) (.br (false) (.out (.inl false)) (.br (true) (.br (byteAt (itI y2 y1).1 (nat_lit 0) != 97) (.br (true) (.br ((↑(ByteArray.size (itI y2 y1).1):Int) != 2) (.out (.inl false)) (.br (true) (.go (IntKind.i64.wrap (y1 + 1))) .bad)) .bad) (.br (true) (.go (IntKind.i64.wrap (y1 + 1))) .bad)) .bad)) (.br (true) (.br (byteAt (itI y2 y1).1 (nat_lit 0) == 102) (.br (true) (.br ((↑(List.length (itI y2 y1).2):Int) == 3) (.br (decide ((0:Int) ≤ (1:Int) ∧ 1 < (↑(List.length (itI y2 y1).2):Int))) (.br (g_As_l1In (at_ (.int .i64) (itI y2 y1).2 (nat_lit 1)) (1:Int) (99:Int)) (.br (g_Vs_l1In_0 (at_ (.int .i64) (itI y2 y1).2 (nat_lit 1)) (1:Int) (99:Int)) (.br (decide ((0:Int) ≤ (2:Int) ∧ 2 < (↑(List.length (itI y2 y1).2):Int))) (.br (true) (.br (!decide (at_ (.int .i64) (itI y2 y1).2 (nat_lit 2) ≤ 1)) (.out (.inl false)) (.br (true) (.br (byteAt (itI y2 y1).1 (nat_lit 0) != 97) (.br (true) (.br ((↑(ByteArray.size (itI y2 y1).1):Int) != 2) (.out (.inl false)) (.br (true) (.go (IntKind.i64.wrap (y1 + 1))) .bad)) .bad) (.br (true) (.go (IntKind.i64.wrap (y1 + 1))) .bad)) .bad)) .bad) .bad) (.br (true) (.out (.inl false)) (.br (true) (.br (byteAt (itI y2 y1).1 (nat_lit 0) != 97) (.br (true) (.br ((↑(ByteArray.size (itI y2 y1).1):Int) != 2) (.out (.inl false)) (.br (true) (.go (IntKind.i64.wrap (y1 + 1))) .bad)) .bad) (.br (true) (.go (IntKind.i64.wrap (y1 + 1))) .bad)) .bad))) .bad) .bad) (.br (true) (.out (.inl false)) (.br (true) (.br (byteAt (itI y2 y1).1 (nat_lit 0) != 97) (.br (true) (.br ((↑(ByteArray.size (itI y2 y1).1):Int) != 2) (.out (.inl false)) (.br (true) (.go (IntKind.i64.wrap (y1 + 1))) .bad)) .bad) (.br (true) (.go (IntKind.i64.wrap (y1 + 1))) .bad)) .bad))) .bad) (.br (true) (.out (.inl false)) (.br (true) (.br (byteAt (itI y2 y1).1 (nat_lit 0) != 97) (.br (true) (.br ((↑(ByteArray.size (itI y2 y1).1):Int) != 2) (.out (.inl false)) (.br (true) (.go (IntKind.i64.wrap (y1 + 1))) .bad)) .bad) (.br (true) (.go (IntKind.i64.wrap (y1 + 1))) .bad)) .bad))) .bad)) .bad) (.br (true) (.br (byteAt (itI y2 y1).1 (nat_lit 0) == 102) (.br (true) (.br ((↑(List.length (itI y2 y1).2):Int) == 3) (.br (decide ((0:Int) ≤ (1:Int) ∧ 1 < (↑(List.length (itI y2 y1).2):Int))) (.br (g_As_l1In (at_ (.int .i64) (itI y2 y1).2 (nat_lit 1)) (1:Int) (99:Int)) (.br (g_Vs_l1In_0 (at_ (.int .i64) (itI y2 y1).2 (nat_lit 1)) (1:Int) (99:Int)) (.br (decide ((0:Int) ≤ (2:Int) ∧ 2 < (↑(List.length (itI y2 y1).2):Int))) (.br (true) (.br (!decide (at_ (.int .i64) (itI y2 y1).2 (nat_lit 2) ≤ 1)) (.out (.inl false)) (.br (true) (.br (byteAt (itI y2 y1).1 (nat_lit 0) != 97) (.br (true) (.br ((↑(ByteArray.size (itI y2 y1).1):Int) != 2) (.out (.inl false)) (.br (true) (.go (IntKind.i64.wrap (y1 + 1))) .bad)) .bad) (.br (true) (.go (IntKind.i64.wrap (y1 + 1))) .bad)) .bad)) .bad) .bad) (.br (true) (.out (.inl false)) (.br (true) (.br (byteAt (itI y2 y1).1 (nat_lit 0) != 97) (.br (true) (.br ((↑(ByteArray.size (itI y2 y1).1):Int) != 2) (.out (.inl false)) (.br (true) (.go (IntKind.i64.wrap (y1 + 1))) .bad)) .bad) (.br (true) (.go (IntKind.i64.wrap (y1 + 1))) .bad)) .bad))) .bad) .bad) (.br (true) (.out (.inl false)) (.br (true) (.br (byteAt (itI y2 y1).1 (nat_lit 0) != 97) (.br (true) (.br ((↑(ByteArray.size (itI y2 y1).1):Int) != 2) (.out (.inl false)) (.br (true) (.go (IntKind.i64.wrap (y1 + 1))) .bad)) .bad) (.br (true) (.go (IntKind.i64.wrap (y1 + 1))) .bad)) .bad))) .bad) (.br (true) (.out (.inl false)) (.br (true) (.br (byteAt (itI y2 y1).1 (nat_lit 0) != 97) (.br (true) (.br ((↑(ByteArray.size (itI y2 y1).1):Int) != 2) (.out (.inl false)) (.br (true) (.go (IntKind.i64.wrap (y1 + 1))) .bad)) .bad) (.br (true) (.go (IntKind.i64.wrap (y1 + 1))) .bad)) .bad))) .bad)) .bad) (.br (true) (.out (.inl false)) (.br (true) (.br (byteAt (itI y2 y1).1 (nat_lit 0) != 97) (.br (true) (.br ((↑(ByteArray.size (itI y2 y1).1):Int) != 2) (.out (.inl false)) (.br (true) (.go (IntKind.i64.wrap (y1 + 1))) .bad)) .bad) (.br (true) (.go (IntKind.i64.wrap (y1 + 1))) .bad)) .bad))) .bad) (.br (true) (.out (.inl false)) (.br (true) (.br (byteAt (itI y2 y1).1 (nat_lit 0) != 97) (.br (true) (.br ((↑(ByteArray.size (itI y2 y1).1):Int) != 2) (.out (.inl false)) (.br (true) (.go (IntKind.i64.wrap (y1 + 1))) .bad)) .bad) (.br (true) (.go (IntKind.i64.wrap (y1 + 1))) .bad)) .bad))) .bad)) .bad)) .bad) (.br (true) (.br (y0 == 3) (.br (true) (.br (byteAt (itI y2 y1).1 (nat_lit 0) == 97) (.br (true) (.br ((↑(List.length (itI y2 y1).2):Int) == 1) (.br (false) (.out (.inl false)) (.br (true) (.br (byteAt (itI y2 y1).1 (nat_lit 0) != 97) (.br (true) (.br ((↑(ByteArray.size (itI y2 y1).1):Int) != 2) (.out (.inl false)) (.br (true) (.go (IntKind.i64.wrap (y1 + 1))) .bad)) .bad) (.br (true) (.go (IntKind.i64.wrap (y1 + 1))) .bad)) .bad)) (.br (true) (.br (y0 == 2) (.br (true) (.br (decide (at_ (.int .i64) (itI y2 y1).2 (nat_lit 0) ≤ 9)) (.br (true) (.br (byteAt (itI y2 y1).1 (nat_lit 0) == 99) (.br (true) (.br ((↑(List.length (itI y2 y1).2):Int) == 2) (.br (false) (.out (.inl false)) (.br (true) (.br (byteAt (itI y2 y1).1 (nat_lit 0) != 97) (.br (true) (.br ((↑(ByteArray.size (itI y2 y1).1):Int) != 2) (.out (.inl false)) (.br (true) (.go (IntKind.i64.wrap (y1 + 1))) .bad)) .bad) (.br (true) (.go (IntKind.i64.wrap (y1 + 1))) .bad)) .bad)) (.br (true) (.br (byteAt (itI y2 y1).1 (nat_lit 0) == 102) (.br (true) (.br ((↑(List.length (itI y2 y1).2):Int) == 3) (.br (decide ((0:Int) ≤ (1:Int) ∧ 1 < (↑(List.length (itI y2 y1).2):Int))) (.br (g_As_l1In (at_ (.int .i64) (itI y2 y1).2 (nat_lit 1)) (1:Int) (99:Int)) (.br (g_Vs_l1In_0 (at_ (.int .i64) (itI y2 y1).2 (nat_lit 1)) (1:Int) (99:Int)) (.br (decide ((0:Int) ≤ (2:Int) ∧ 2 < (↑(List.length (itI y2 y1).2):Int))) (.br (true) (.br (!decide (at_ (.int .i64) (itI y2 y1).2 (nat_lit 2) ≤ 1)) (.out (.inl false)) (.br (true) (.br (byteAt (itI y2 y1).1 (nat_lit 0) != 97) (.br (true) (.br ((↑(ByteArray.size (itI y2 y1).1):Int) != 2) (.out (.inl false)) (.br (true) (.go (IntKind.i64.wrap (y1 + 1))) .bad)) .bad) (.br (true) (.go (IntKind.i64.wrap (y1 + 1))) .bad)) .bad)) .bad) .bad) (.br (true) (.out (.inl false)) (.br (true) (.br (byteAt (itI y2 y1).1 (nat_lit 0) != 97) (.br (true) (.br ((↑(ByteArray.size (itI y2 y1).1):Int) != 2) (.out (.inl false)) (.br (true) (.go (IntKind.i64.wrap (y1 + 1))) .bad)) .bad) (.br (true) (.go (IntKind.i64.wrap (y1 + 1))) .bad)) .bad))) .bad) .bad) (.br (true) (.out (.inl false)) (.br (true) (.br (byteAt (itI y2 y1).1 (nat_lit 0) != 97) (.br (true) (.br ((↑(ByteArray.size (itI y2 y1).1):Int) != 2) (.out (.inl false)) (.br (true) (.go (IntKind.i64.wrap (y1 + 1))) .bad)) .bad) (.br (true) (.go (IntKind.i64.wrap (y1 + 1))) .bad)) .bad))) .bad) (.br (true) (.out (.inl false)) (.br (true) (.br (byteAt (itI y2 y1).1 (nat_lit 0) != 97) (.br (true) (.br ((↑(ByteArray.size (itI y2 y1).1):Int) != 2) (.out (.inl false)) (.br (true) (.go (IntKind.i64.wrap (y1 + 1))) .bad)) .bad) (.br (true) (.go (IntKind.i64.wrap (y1 + 1))) .bad)) .bad))) .bad)) .bad) (.br (true) (.br (byteAt (itI y2 y1).1 (nat_lit 0) == 102) (.br (true) (.br ((↑(List.length (itI y2 y1).2):Int) == 3) (.br (decide ((0:Int) ≤ (1:Int) ∧ 1 < (↑(List.length (itI y2 y1).2):Int))) (.br (g_As_l1In (at_ (.int .i64) (itI y2 y1).2 (nat_lit 1)) (1:Int) (99:Int)) (.br (g_Vs_l1In_0 (at_ (.int .i64) (itI y2 y1).2 (nat_lit 1)) (1:Int) (99:Int)) (.br (decide ((0:Int) ≤ (2:Int) ∧ 2 < (↑(List.length (itI y2 y1).2):Int))) (.br (true) (.br (!decide (at_ (.int .i64) (itI y2 y1).2 (nat_lit 2) ≤ 1)) (.out (.inl false)) (.br (true) (.br (byteAt (itI y2 y1).1 (nat_lit 0) != 97) (.br (true) (.br ((↑(ByteArray.size (itI y2 y1).1):Int) != 2) (.out (.inl false)) (.br (true) (.go (IntKind.i64.wrap (y1 + 1))) .bad)) .bad) (.br (true) (.go (IntKind.i64.wrap (y1 + 1))) .bad)) .bad)) .bad) .bad) (.br (true) (.out (.inl false)) (.br (true) (.br (byteAt (itI y2 y1).1 (nat_lit 0) != 97) (.br (true) (.br ((↑(ByteArray.size (itI y2 y1).1):Int) != 2) (.out (.inl false)) (.br (true) (.go (IntKind.i64.wrap (y1 + 1))) .bad)) .bad) (.br (true) (.go (IntKind.i64.wrap (y1 + 1))) .bad)) .bad))) .bad) .bad) (.br (true) (.out (.inl false)) (.br (true) (.br (byteAt (itI y2 y1).1 (nat_lit 0) != 97) (.br (true) (.br ((↑(ByteArray.size (itI y2 y1).1):Int) != 2) (.out (.inl false)) (.br (true) (.go (IntKind.i64.wrap (y1 + 1))) .bad)) .bad) (.br (true) (.go (IntKind.i64.wrap (y1 + 1))) .bad)) .bad))) .bad) (.br (true) (.out (.inl false)) (.br (true) (.br (byteAt (itI y2 y1).1 (nat_lit 0) != 97) (.br (true) (.br ((↑(ByteArray.size (itI y2 y1).1):Int) != 2) (.out (.inl false)) (.br (true) (.go (IntKind.i64.wrap (y1 + 1))) .bad)) .bad) (.br (true) (.go (IntKind.i64.wrap (y1 + 1))) .bad)) .bad))) .bad)) .bad) (.br (true) (.out (.inl false)) (.br (true) (.br (byteAt (itI y2 y1).1 (nat_lit 0) != 97) (.br (true) (.br ((↑(ByteArray.size (itI y2 y1).1):Int) != 2) (.out (.inl false)) (.br (true) (.go (IntKind.i64.wrap (y1 + 1))) .bad)) .bad) (.br (true) (.go (IntKind.i64.wrap (y1 + 1))) .bad)) .bad))) .bad) (.br (true) (.out (.inl false)) (.br (true) (.br (byteAt (itI y2 y1).1 (nat_lit 0) != 97) (.br (true) (.br ((↑(ByteArray.size (itI y2 y1).1):Int) != 2) (.out (.inl false)) (.br (true) (.go (IntKind.i64.wrap (y1 + 1))) .bad)) .bad) (.br (true) (.go (IntKind.i64.wrap (y1 + 1))) .bad)) .bad))) .bad)) .bad) (.br (true) (.br (y0 == 2) (.br (true) (.br (decide (at_ (.int .i64) (itI y2 y1).2 (nat_lit 0) ≤ 9)) (.br (true) (.br (byteAt (itI y2 y1).1 (nat_lit 0) == 99) (.br (true) (.br ((↑(List.length (itI y2 y1).2):Int) == 2) (.br (false) (.out (.inl false)) (.br (true) (.br (byteAt (itI y2 y1).1 (nat_lit 0) != 97) (.br (true) (.br ((↑(ByteArray.size (itI y2 y1).1):Int) != 2) (.out (.inl false)) (.br (true) (.go (IntKind.i64.wrap (y1 + 1))) .bad)) .bad) (.br (true) (.go (IntKind.i64.wrap (y1 + 1))) .bad)) .bad)) (.br (true) (.br (byteAt (itI y2 y1).1 (nat_lit 0) == 102) (.br (true) (.br ((↑(List.length (itI y2 y1).2):Int) == 3) (.br (decide ((0:Int) ≤ (1:Int) ∧ 1 < (↑(List.length (itI y2 y1).2):Int))) (.br (g_As_l1In (at_ (.int .i64) (itI y2 y1).2 (nat_lit 1)) (1:Int) (99:Int)) (.br (g_Vs_l1In_0 (at_ (.int .i64) (itI y2 y1).2 (nat_lit 1)) (1:Int) (99:Int)) (.br (decide ((0:Int) ≤ (2:Int) ∧ 2 < (↑(List.length (itI y2 y1).2):Int))) (.br (true) (.br (!decide (at_ (.int .i64) (itI y2 y1).2 (nat_lit 2) ≤ 1)) (.out (.inl false)) (.br (true) (.br (byteAt (itI y2 y1).1 (nat_lit 0) != 97) (.br (true) (.br ((↑(ByteArray.size (itI y2 y1).1):Int) != 2) (.out (.inl false)) (.br (true) (.go (IntKind.i64.wrap (y1 + 1))) .bad)) .bad) (.br (true) (.go (IntKind.i64.wrap (y1 + 1))) .bad)) .bad)) .bad) .bad) (.br (true) (.out (.inl false)) (.br (true) (.br (byteAt (itI y2 y1).1 (nat_lit 0) != 97) (.br (true) (.br ((↑(ByteArray.size (itI y2 y1).1):Int) != 2) (.out (.inl false)) (.br (true) (.go (IntKind.i64.wrap (y1 + 1))) .bad)) .bad) (.br (true) (.go (IntKind.i64.wrap (y1 + 1))) .bad)) .bad))) .bad) .bad) (.br (true) (.out (.inl false)) (.br (true) (.br (byteAt (itI y2 y1).1 (nat_lit 0) != 97) (.br (true) (.br ((↑(ByteArray.size (itI y2 y1).1):Int) != 2) (.out (.inl false)) (.br (true) (.go (IntKind.i64.wrap (y1 + 1))) .bad)) .bad) (.br (true) (.go (IntKind.i64.wrap (y1 + 1))) .bad)) .bad))) .bad) (.br (true) (.out (.inl false)) (.br (true) (.br (byteAt (itI y2 y1).1 (nat_lit 0) != 97) (.br (true) (.br ((↑(ByteArray.size (itI y2 y1).1):Int) != 2) (.out (.inl false)) (.br (true) (.go (IntKind.i64.wrap (y1 + 1))) .bad)) .bad) (.br (true) (.go (IntKind.i64.wrap (y1 + 1))) .bad)) .bad))) .bad)) .bad) (.br (true) (.br (byteAt (itI y2 y1).1 (nat_lit 0) == 102) (.br (true) (.br ((↑(List.length (itI y2 y1).2):Int) == 3) (.br (decide ((0:Int) ≤ (1:Int) ∧ 1 < (↑(List.length (itI y2 y1).2):Int))) (.br (g_As_l1In (at_ (.int .i64) (itI y2 y1).2 (nat_lit 1)) (1:Int) (99:Int)) (.br (g_Vs_l1In_0 (at_ (.int .i64) (itI y2 y1).2 (nat_lit 1)) (1:Int) (99:Int)) (.br (decide ((0:Int) ≤ (2:Int) ∧ 2 < (↑(List.length (itI y2 y1).2):Int))) (.br (true) (.br (!decide (at_ (.int .i64) (itI y2 y1).2 (nat_lit 2) ≤ 1)) (.out (.inl false)) (.br (true) (.br (byteAt (itI y2 y1).1 (nat_lit 0) != 97) (.br (true) (.br ((↑(ByteArray.size (itI y2 y1).1):Int) != 2) (.out (.inl false)) (.br (true) (.go (IntKind.i64.wrap (y1 + 1))) .bad)) .bad) (.br (true) (.go (IntKind.i64.wrap (y1 + 1))) .bad)) .bad)) .bad) .bad) (.br (true) (.out (.inl false)) (.br (true) (.br (byteAt (itI y2 y1).1 (nat_lit 0) != 97) (.br (true) (.br ((↑(ByteArray.size (itI y2 y1).1):Int) != 2) (.out (.inl false)) (.br (true) (.go (IntKind.i64.wrap (y1 + 1))) .bad)) .bad) (.br (true) (.go (IntKind.i64.wrap (y1 + 1))) .bad)) .bad))) .bad) .bad) (.br (true) (.out (.inl false)) (.br (true) (.br (byteAt (itI y2 y1).1 (nat_lit 0) != 97) (.br (true) (.br ((↑(ByteArray.size (itI y2 y1).1):Int) != 2) (.out (.inl false)) (.br (true) (.go (IntKind.i64.wrap (y1 + 1))) .bad)) .bad) (.br (true) (.go (IntKind.i64.wrap (y1 + 1))) .bad)) .bad))) .bad) (.br (true) (.out (.inl false)) (.br (true) (.br (byteAt (itI y2 y1).1 (nat_lit 0) != 97) (.br (true) (.br ((↑(ByteArray.size (itI y2 y1).1):Int) != 2) (.out (.inl false)) (.br (true) (.go (IntKind.i64.wrap (y1 + 1))) .bad)) .bad) (.br (true) (.go (IntKind.i64.wrap (y1 + 1))) .bad)) .bad))) .bad)) .bad) (.br (true) (.out (.inl false)) (.br (true) (.br (byteAt (itI y2 y1).1 (nat_lit 0) != 97) (.br (true) (.br ((↑(ByteArray.size (itI y2 y1).1):Int) != 2) (.out (.inl false)) (.br (true) (.go (IntKind.i64.wrap (y1 + 1))) .bad)) .bad) (.br (true) (.go (IntKind.i64.wrap (y1 + 1))) .bad)) .bad))) .bad) (.br (true) (.out (.inl false)) (.br (true) (.br (byteAt (itI y2 y1).1 (nat_lit 0) != 97) (.br (true) (.br ((↑(ByteArray.size (itI y2 y1).1):Int) != 2) (.out (.inl false)) (.br (true) (.go (IntKind.i64.wrap (y1 + 1))) .bad)) .bad) (.br (true) (.go (IntKind.i64.wrap (y1 + 1))) .bad)) .bad))) .bad)) .bad) (.br (true) (.br (y0 == 2) (.br (true) (.br (decide (at_ (.int .i64) (itI y2 y1).2 (nat_lit 0) ≤ 9)) (.br (true) (.br (byteAt (itI y2 y1).1 (nat_lit 0) == 99) (.br (true) (.br ((↑(List.length (itI y2 y1).2):Int) == 2) (.br (false) (.out (.inl false)) (.br (true) (.br (byteAt (itI y2 y1).1 (nat_lit 0) != 97) (.br (true) (.br ((↑(ByteArray.size (itI y2 y1).1):Int) != 2) (.out (.inl false)) (.br (true) (.go (IntKind.i64.wrap (y1 + 1))) .bad)) .bad) (.br (true) (.go (IntKind.i64.wrap (y1 + 1))) .bad)) .bad)) (.br (true) (.br (byteAt (itI y2 y1).1 (nat_lit 0) == 102) (.br (true) (.br ((↑(List.length (itI y2 y1).2):Int) == 3) (.br (decide ((0:Int) ≤ (1:Int) ∧ 1 < (↑(List.length (itI y2 y1).2):Int))) (.br (g_As_l1In (at_ (.int .i64) (itI y2 y1).2 (nat_lit 1)) (1:Int) (99:Int)) (.br (g_Vs_l1In_0 (at_ (.int .i64) (itI y2 y1).2 (nat_lit 1)) (1:Int) (99:Int)) (.br (decide ((0:Int) ≤ (2:Int) ∧ 2 < (↑(List.length (itI y2 y1).2):Int))) (.br (true) (.br (!decide (at_ (.int .i64) (itI y2 y1).2 (nat_lit 2) ≤ 1)) (.out (.inl false)) (.br (true) (.br (byteAt (itI y2 y1).1 (nat_lit 0) != 97) (.br (true) (.br ((↑(ByteArray.size (itI y2 y1).1):Int) != 2) (.out (.inl false)) (.br (true) (.go (IntKind.i64.wrap (y1 + 1))) .bad)) .bad) (.br (true) (.go (IntKind.i64.wrap (y1 + 1))) .bad)) .bad)) .bad) .bad) (.br (true) (.out (.inl false)) (.br (true) (.br (byteAt (itI y2 y1).1 (nat_lit 0) != 97) (.br (true) (.br ((↑(ByteArray.size (itI y2 y1).1):Int) != 2) (.out (.inl false)) (.br (true) (.go (IntKind.i64.wrap (y1 + 1))) .bad)) .bad) (.br (true) (.go (IntKind.i64.wrap (y1 + 1))) .bad)) .bad))) .bad) .bad) (.br (true) (.out (.inl false)) (.br (true) (.br (byteAt (itI y2 y1).1 (nat_lit 0) != 97) (.br (true) (.br ((↑(ByteArray.size (itI y2 y1).1):Int) != 2) (.out (.inl false)) (.br (true) (.go (IntKind.i64.wrap (y1 + 1))) .bad)) .bad) (.br (true) (.go (IntKind.i64.wrap (y1 + 1))) .bad)) .bad))) .bad) (.br (true) (.out (.inl false)) (.br (true) (.br (byteAt (itI y2 y1).1 (nat_lit 0) != 97) (.br (true) (.br ((↑(ByteArray.size (itI y2 y1).1):Int) != 2) (.out (.inl false)) (.br (true) (.go (IntKind.i64.wrap (y1 + 1))) .bad)) .bad) (.br (true) (.go (IntKind.i64.wrap (y1 + 1))) .bad)) .bad))) .bad)) .bad) (.br (true) (.br (byteAt (itI y2 y1).1 (nat_lit 0) == 102) (.br (true) (.br ((↑(List.length (itI y2 y1).2):Int) == 3) (.br (decide ((0:Int) ≤ (1:Int) ∧ 1 < (↑(List.length (itI y2 y1).2):Int))) (.br (g_As_l1In (at_ (.int .i64) (itI y2 y1).2 (nat_lit 1)) (1:Int) (99:Int)) (.br (g_Vs_l1In_0 (at_ (.int .i64) (itI y2 y1).2 (nat_lit 1)) (1:Int) (99:Int)) (.br (decide ((0:Int) ≤ (2:Int) ∧ 2 < (↑(List.length (itI y2 y1).2):Int))) (.br (true) (.br (!decide (at_ (.int .i64) (itI y2 y1).2 (nat_lit 2) ≤ 1)) (.out (.inl false)) (.br (true) (.br (byteAt (itI y2 y1).1 (nat_lit 0) != 97) (.br (true) (.br ((↑(ByteArray.size (itI y2 y1).1):Int) != 2) (.out (.inl false)) (.br (true) (.go (IntKind.i64.wrap (y1 + 1))) .bad)) .bad) (.br (true) (.go (IntKind.i64.wrap (y1 + 1))) .bad)) .bad)) .bad) .bad) (.br (true) (.out (.inl false)) (.br (true) (.br (byteAt (itI y2 y1).1 (nat_lit 0) != 97) (.br (true) (.br ((↑(ByteArray.size (itI y2 y1).1):Int) != 2) (.out (.inl false)) (.br (true) (.go (IntKind.i64.wrap (y1 + 1))) .bad)) .bad) (.br (true) (.go (IntKind.i64.wrap (y1 + 1))) .bad)) .bad))) .bad) .bad) (.br (true) (.out (.inl false)) (.br (true) (.br (byteAt (itI y2 y1).1 (nat_lit 0) != 97) (.br (true) (.br ((↑(ByteArray.size (itI y2 y1).1):Int) != 2) (.out (.inl false)) (.br (true) (.go (IntKind.i64.wrap (y1 + 1))) .bad)) .bad) (.br (true) (.go (IntKind.i64.wrap (y1 + 1))) .bad)) .bad))) .bad) (.br (true) (.out (.inl false)) (.br (true) (.br (byteAt (itI y2 y1).1 (nat_lit 0) != 97) (.br (true) (.br ((↑(ByteArray.size (itI y2 y1).1):Int) != 2) (.out (.inl false)) (.br (true) (.go (IntKind.i64.wrap (y1 + 1))) .bad)) .bad) (.br (true) (.go (IntKind.i64.wrap (y1 + 1))) .bad)) .bad))) .bad)) .bad) (.br (true) (.out (.inl false)) (.br (true) (.br (byteAt (itI y2 y1).1 (nat_lit 0) != 97) (.br (true) (.br ((↑(ByteArray.size (itI y2 y1).1):Int) != 2) (.out (.inl false)) (.br (true) (.go (IntKind.i64.wrap (y1 + 1))) .bad)) .bad) (.br (true) (.go (IntKind.i64.wrap (y1 + 1))) .bad)) .bad))) .bad) (.br (true) (.out (.inl false)) (.br (true) (.br (byteAt (itI y2 y1).1 (nat_lit 0) != 97) (.br (true) (.br ((↑(ByteArray.size (itI y2 y1).1):Int) != 2) (.out (.inl false)) (.br (true) (.go (IntKind.i64.wrap (y1 + 1))) .bad)) .bad) (.br (true) (.go (IntKind.i64.wrap (y1 + 1))) .bad)) .bad))) .bad)) .bad)) .bad) (.br (true) (.br (y0 == 3) (.br (true) (.br (byteAt (itI y2 y1).1 (nat_lit 0) == 97) (.br (true) (.br ((↑(List.length (itI y2 y1).2):Int) == 1) (.br (false) (.out (.inl false)) (.br (true) (.br (byteAt (itI y2 y1).1 (nat_lit 0) != 97) (.br (true) (.br ((↑(ByteArray.size (itI y2 y1).1):Int) != 2) (.out (.inl false)) (.br (true) (.go (IntKind.i64.wrap (y1 + 1))) .bad)) .bad) (.br (true) (.go (IntKind.i64.wrap (y1 + 1))) .bad)) .bad)) (.br (true) (.br (y0 == 2) (.br (true) (.br (decide (at_ (.int .i64) (itI y2 y1).2 (nat_lit 0) ≤ 9)) (.br (true) (.br (byteAt (itI y2 y1).1 (nat_lit 0) == 99) (.br (true) (.br ((↑(List.length (itI y2 y1).2):Int) == 2) (.br (false) (.out (.inl false)) (.br (true) (.br (byteAt (itI y2 y1).1 (nat_lit 0) != 97) (.br (true) (.br ((↑(ByteArray.size (itI y2 y1).1):Int) != 2) (.out (.inl false)) (.br (true) (.go (IntKind.i64.wrap (y1 + 1))) .bad)) .bad) (.br (true) (.go (IntKind.i64.wrap (y1 + 1))) .bad)) .bad)) (.br (true) (.br (byteAt (itI y2 y1).1 (nat_lit 0) == 102) (.br (true) (.br ((↑(List.length (itI y2 y1).2):Int) == 3) (.br (decide ((0:Int) ≤ (1:Int) ∧ 1 < (↑(List.length (itI y2 y1).2):Int))) (.br (g_As_l1In (at_ (.int .i64) (itI y2 y1).2 (nat_lit 1)) (1:Int) (99:Int)) (.br (g_Vs_l1In_0 (at_ (.int .i64) (itI y2 y1).2 (nat_lit 1)) (1:Int) (99:Int)) (.br (decide ((0:Int) ≤ (2:Int) ∧ 2 < (↑(List.length (itI y2 y1).2):Int))) (.br (true) (.br (!decide (at_ (.int .i64) (itI y2 y1).2 (nat_lit 2) ≤ 1)) (.out (.inl false)) (.br (true) (.br (byteAt (itI y2 y1).1 (nat_lit 0) != 97) (.br (true) (.br ((↑(ByteArray.size (itI y2 y1).1):Int) != 2) (.out (.inl false)) (.br (true) (.go (IntKind.i64.wrap (y1 + 1))) .bad)) .bad) (.br (true) (.go (IntKind.i64.wrap (y1 + 1))) .bad)) .bad)) .bad) .bad) (.br (true) (.out (.inl false)) (.br (true) (.br (byteAt (itI y2 y1).1 (nat_lit 0) != 97) (.br (true) (.br ((↑(ByteArray.size (itI y2 y1).1):Int) != 2) (.out (.inl false)) (.br (true) (.go (IntKind.i64.wrap (y1 + 1))) .bad)) .bad) (.br (true) (.go (IntKind.i64.wrap (y1 + 1))) .bad)) .bad))) .bad) .bad) (.br (true) (.out (.inl false)) (.br (true) (.br (byteAt (itI y2 y1).1 (nat_lit 0) != 97) (.br (true) (.br ((↑(ByteArray.size (itI y2 y1).1):Int) != 2) (.out (.inl false)) (.br (true) (.go (IntKind.i64.wrap (y1 + 1))) .bad)) .bad) (.br (true) (.go (IntKind.i64.wrap (y1 + 1))) .bad)) .bad))) .bad) (.br (true) (.out (.inl false)) (.br (true) (.br (byteAt (itI y2 y1).1 (nat_lit 0) != 97) (.br (true) (.br ((↑(ByteArray.size (itI y2 y1).1):Int) != 2) (.out (.inl false)) (.br (true) (.go (IntKind.i64.wrap (y1 + 1))) .bad)) .bad) (.br (true) (.go (IntKind.i64.wrap (y1 + 1))) .bad)) .bad))) .bad)) .bad) (.br (true) (.br (byteAt (itI y2 y1).1 (nat_lit 0) == 102) (.br (true) (.br ((↑(List.length (itI y2 y1).2):Int) == 3) (.br (decide ((0:Int) ≤ (1:Int) ∧ 1 < (↑(List.length (itI y2 y1).2):Int))) (.br (g_As_l1In (at_ (.int .i64) (itI y2 y1).2 (nat_lit 1)) (1:Int) (99:Int)) (.br (g_Vs_l1In_0 (at_ (.int .i64) (itI y2 y1).2 (nat_lit 1)) (1:Int) (99:Int)) (.br (decide ((0:Int) ≤ (2:Int) ∧ 2 < (↑(List.length (itI y2 y1).2):Int))) (.br (true) (.br (!decide (at_ (.int .i64) (itI y2 y1).2 (nat_lit 2) ≤ 1)) (.out (.inl false)) (.br (true) (.br (byteAt (itI y2 y1).1 (nat_lit 0) != 97) (.br (true) (.br ((↑(ByteArray.size (itI y2 y1).1):Int) != 2) (.out (.inl false)) (.br (true) (.go (IntKind.i64.wrap (y1 + 1))) .bad)) .bad) (.br (true) (.go (IntKind.i64.wrap (y1 + 1))) .bad)) .bad)) .bad) .bad) (.br (true) (.out (.inl false)) (.br (true) (.br (byteAt (itI y2 y1).1 (nat_lit 0) != 97) (.br (true) (.br ((↑(ByteArray.size (itI y2 y1).1):Int) != 2) (.out (.inl false)) (.br (true) (.go (IntKind.i64.wrap (y1 + 1))) .bad)) .bad) (.br (true) (.go (IntKind.i64.wrap (y1 + 1))) .bad)) .bad))) .bad) .bad) (.br (true) (.out (.inl false)) (.br (true) (.br (byteAt (itI y2 y1).1 (nat_lit 0) != 97) (.br (true) (.br ((↑(ByteArray.size (itI y2 y1).1):Int) != 2) (.out (.inl false)) (.br (true) (.go (IntKind.i64.wrap (y1 + 1))) .bad)) .bad) (.br (true) (.go (IntKind.i64.wrap (y1 + 1))) .bad)) .bad))) .bad) (.br (true) (.out (.inl false)) (.br (true) (.br (byteAt (itI y2 y1).1 (nat_lit 0) != 97) (.br (true) (.br ((↑(ByteArray.size (itI y2 y1).1):Int) != 2) (.out (.inl false)) (.br (true) (.go (IntKind.i64.wrap (y1 + 1))) .bad)) .bad) (.br (true) (.go (IntKind.i64.wrap (y1 + 1))) .bad)) .bad))) .bad)) .bad) (.br (true) (.out (.inl false)) (.br (true) (.br (byteAt (itI y2 y1).1 (nat_lit 0) != 97) (.br (true) (.br ((↑(ByteArray.size (itI y2 y1).1):Int) != 2) (.out (.inl false)) (.br (true) (.go (IntKind.i64.wrap (y1 + 1))) .bad)) .bad) (.br (true) (.go (IntKind.i64.wrap (y1 + 1))) .bad)) .bad))) .bad) (.br (true) (.out (.inl false)) (.br (true) (.br (byteAt (itI y2 y1).1 (nat_lit 0) != 97) (.br (true) (.br ((↑(ByteArray.size (itI y2 y1).1):Int) != 2) (.out (.inl false)) (.br (true) (.go (IntKind.i64.wrap (y1 + 1))) .bad)) .bad) (.br (true) (.go (IntKind.i64.wrap (y1 + 1))) .bad)) .bad))) .bad)) .bad) (.br (true) (.br (y0 == 2) (.br (true) (.br (decide (at_ (.int .i64) (itI y2 y1).2 (nat_lit 0) ≤ 9)) (.br (true) (.br (byteAt (itI y2 y1).1 (nat_lit 0) == 99) (.br (true) (.br ((↑(List.length (itI y2 y1).2):Int) == 2) (.br (false) (.out (.inl false)) (.br (true) (.br (byteAt (itI y2 y1).1 (nat_lit 0) != 97) (.br (true) (.br ((↑(ByteArray.size (itI y2 y1).1):Int) != 2) (.out (.inl false)) (.br (true) (.go (IntKind.i64.wrap (y1 + 1))) .bad)) .bad) (.br (true) (.go (IntKind.i64.wrap (y1 + 1))) .bad)) .bad)) (.br (true) (.br (byteAt (itI y2 y1).1 (nat_lit 0) == 102) (.br (true) (.br ((↑(List.length (itI y2 y1).2):Int) == 3) (.br (decide ((0:Int) ≤ (1:Int) ∧ 1 < (↑(List.length (itI y2 y1).2):Int))) (.br (g_As_l1In (at_ (.int .i64) (itI y2 y1).2 (nat_lit 1)) (1:Int) (99:Int)) (.br (g_Vs_l1In_0 (at_ (.int .i64) (itI y2 y1).2 (nat_lit 1)) (1:Int) (99:Int)) (.br (decide ((0:Int) ≤ (2:Int) ∧ 2 < (↑(List.length (itI y2 y1).2):Int))) (.br (true) (.br (!decide (at_ (.int .i64) (itI y2 y1).2 (nat_lit 2) ≤ 1)) (.out (.inl false)) (.br (true) (.br (byteAt (itI y2 y1).1 (nat_lit 0) != 97) (.br (true) (.br ((↑(ByteArray.size (itI y2 y1).1):Int) != 2) (.out (.inl false)) (.br (true) (.go (IntKind.i64.wrap (y1 + 1))) .bad)) .bad) (.br (true) (.go (IntKind.i64.wrap (y1 + 1))) .bad)) .bad)) .bad) .bad) (.br (true) (.out (.inl false)) (.br (true) (.br (byteAt (itI y2 y1).1 (nat_lit 0) != 97) (.br (true) (.br ((↑(ByteArray.size (itI y2 y1).1):Int) != 2) (.out (.inl false)) (.br (true) (.go (IntKind.i64.wrap (y1 + 1))) .bad)) .bad) (.br (true) (.go (IntKind.i64.wrap (y1 + 1))) .bad)) .bad))) .bad) .bad) (.br (true) (.out (.inl false)) (.br (true) (.br (byteAt (itI y2 y1).1 (nat_lit 0) != 97) (.br (true) (.br ((↑(ByteArray.size (itI y2 y1).1):Int) != 2) (.out (.inl false)) (.br (true) (.go (IntKind.i64.wrap (y1 + 1))) .bad)) .bad) (.br (true) (.go (IntKind.i64.wrap (y1 + 1))) .bad)) .bad))) .bad) (.br (true) (.out (.inl false)) (.br (true) (.br (byteAt (itI y2 y1).1 (nat_lit 0) != 97) (.br (true) (.br ((↑(ByteArray.size (itI y2 y1).1):Int) != 2) (.out (.inl false)) (.br (true) (.go (IntKind.i64.wrap (y1 + 1))) .bad)) .bad) (.br (true) (.go (IntKind.i64.wrap (y1 + 1))) .bad)) .bad))) .bad)) .bad) (.br (true) (.br (byteAt (itI y2 y1).1 (nat_lit 0) == 102) (.br (true) (.br ((↑(List.length (itI y2 y1).2):Int) == 3) (.br (decide ((0:Int) ≤ (1:Int) ∧ 1 < (↑(List.length (itI y2 y1).2):Int))) (.br (g_As_l1In (at_ (.int .i64) (itI y2 y1).2 (nat_lit 1)) (1:Int) (99:Int)) (.br (g_Vs_l1In_0 (at_ (.int .i64) (itI y2 y1).2 (nat_lit 1)) (1:Int) (99:Int)) (.br (decide ((0:Int) ≤ (2:Int) ∧ 2 < (↑(List.length (itI y2 y1).2):Int))) (.br (true) (.br (!decide (at_ (.int .i64) (itI y2 y1).2 (nat_lit 2) ≤ 1)) (.out (.inl false)) (.br (true) (.br (byteAt (itI y2 y1).1 (nat_lit 0) != 97) (.br (true) (.br ((↑(ByteArray.size (itI y2 y1).1):Int) != 2) (.out (.inl false)) (.br (true) (.go (IntKind.i64.wrap (y1 + 1))) .bad)) .bad) (.br (true) (.go (IntKind.i64.wrap (y1 + 1))) .bad)) .bad)) .bad) .bad) (.br (true) (.out (.inl false)) (.br (true) (.br (byteAt (itI y2 y1).1 (nat_lit 0) != 97) (.br (true) (.br ((↑(ByteArray.size (itI y2 y1).1):Int) != 2) (.out (.inl false)) (.br (true) (.go (IntKind.i64.wrap (y1 + 1))) .bad)) .bad) (.br (true) (.go (IntKind.i64.wrap (y1 + 1))) .bad)) .bad))) .bad) .bad) (.br (true) (.out (.inl false)) (.br (true) (.br (byteAt (itI y2 y1).1 (nat_lit 0) != 97) (.br (true) (.br ((↑(ByteArray.size (itI y2 y1).1):Int) != 2) (.out (.inl false)) (.br (true) (.go (IntKind.i64.wrap (y1 + 1))) .bad)) .bad) (.br (true) (.go (IntKind.i64.wrap (y1 + 1))) .bad)) .bad))) .bad) (.br (true) (.out (.inl false)) (.br (true) (.br (byteAt (itI y2 y1).1 (nat_lit 0) != 97) (.br (true) (.br ((↑(ByteArray.size (itI y2 y1).1):Int) != 2) (.out (.inl false)) (.br (true) (.go (IntKind.i64.wrap (y1 + 1))) .bad)) .bad) (.br (true) (.go (IntKind.i64.wrap (y1 + 1))) .bad)) .bad))) .bad)) .bad) (.br (true) (.out (.inl false)) (.br (true) (.br (byteAt (itI y2 y1).1 (nat_lit 0) != 97) (.br (true) (.br ((↑(ByteArray.size (itI y2 y1).1):Int) != 2) (.out (.inl false)) (.br (true) (.go (IntKind.i64.wrap (y1 + 1))) .bad)) .bad) (.br (true) (.go (IntKind.i64.wrap (y1 + 1))) .bad)) .bad))) .bad) (.br (true) (.out (.inl false)) (.br (true) (.br (byteAt (itI y2 y1).1 (nat_lit 0) != 97) (.br (true) (.br ((↑(ByteArray.size (itI y2 y1).1):Int) != 2) (.out (.inl false)) (.br (true) (.go (IntKind.i64.wrap (y1 + 1))) .bad)) .bad) (.br (true) (.go (IntKind.i64.wrap (y1 + 1))) .bad)) .bad))) .bad)) .bad) (.br (true) (.br (y0 == 2) (.br (true) (.br (decide (at_ (.int .i64) (itI y2 y1).2 (nat_lit 0) ≤ 9)) (.br (true) (.br (byteAt (itI y2 y1).1 (nat_lit 0) == 99) (.br (true) (.br ((↑(List.length (itI y2 y1).2):Int) == 2) (.br (false) (.out (.inl false)) (.br (true) (.br (byteAt (itI y2 y1).1 (nat_lit 0) != 97) (.br (true) (.br ((↑(ByteArray.size (itI y2 y1).1):Int) != 2) (.out (.inl false)) (.br (true) (.go (IntKind.i64.wrap (y1 + 1))) .bad)) .bad) (.br (true) (.go (IntKind.i64.wrap (y1 + 1))) .bad)) .bad)) (.br (true) (.br (byteAt (itI y2 y1).1 (nat_lit 0) == 102) (.br (true) (.br ((↑(List.length (itI y2 y1).2):Int) == 3) (.br (decide ((0:Int) ≤ (1:Int) ∧ 1 < (↑(List.length (itI y2 y1).2):Int))) (.br (g_As_l1In (at_ (.int .i64) (itI y2 y1).2 (nat_lit 1)) (1:Int) (99:Int)) (.br (g_Vs_l1In_0 (at_ (.int .i64) (itI y2 y1).2 (nat_lit 1)) (1:Int) (99:Int)) (.br (decide ((0:Int) ≤ (2:Int) ∧ 2 < (↑(List.length (itI y2 y1).2):Int))) (.br (true) (.br (!decide (at_ (.int .i64) (itI y2 y1).2 (nat_lit 2) ≤ 1)) (.out (.inl false)) (.br (true) (.br (byteAt (itI y2 y1).1 (nat_lit 0) != 97) (.br (true) (.br ((↑(ByteArray.size (itI y2 y1).1):Int) != 2) (.out (.inl false)) (.br (true) (.go (IntKind.i64.wrap (y1 + 1))) .bad)) .bad) (.br (true) (.go (IntKind.i64.wrap (y1 + 1))) .bad)) .bad)) .bad) .bad) (.br (true) (.out (.inl false)) (.br (true) (.br (byteAt (itI y2 y1).1 (nat_lit 0) != 97) (.br (true) (.br ((↑(ByteArray.size (itI y2 y1).1):Int) != 2) (.out (.inl false)) (.br (true) (.go (IntKind.i64.wrap (y1 + 1))) .bad)) .bad) (.br (true) (.go (IntKind.i64.wrap (y1 + 1))) .bad)) .bad))) .bad) .bad) (.br (true) (.out (.inl false)) (.br (true) (.br (byteAt (itI y2 y1).1 (nat_lit 0) != 97) (.br (true) (.br ((↑(ByteArray.size (itI y2 y1).1):Int) != 2) (.out (.inl false)) (.br (true) (.go (IntKind.i64.wrap (y1 + 1))) .bad)) .bad) (.br (true) (.go (IntKind.i64.wrap (y1 + 1))) .bad)) .bad))) .bad) (.br (true) (.out (.inl false)) (.br (true) (.br (byteAt (itI y2 y1).1 (nat_lit 0) != 97) (.br (true) (.br ((↑(ByteArray.size (itI y2 y1).1):Int) != 2) (.out (.inl false)) (.br (true) (.go (IntKind.i64.wrap (y1 + 1))) .bad)) .bad) (.br (true) (.go (IntKind.i64.wrap (y1 + 1))) .bad)) .bad))) .bad)) .bad) (.br (true) (.br (byteAt (itI y2 y1).1 (nat_lit 0) == 102) (.br (true) (.br ((↑(List.length (itI y2 y1).2):Int) == 3) (.br (decide ((0:Int) ≤ (1:Int) ∧ 1 < (↑(List.length (itI y2 y1).2):Int))) (.br (g_As_l1In (at_ (.int .i64) (itI y2 y1).2 (nat_lit 1)) (1:Int) (99:Int)) (.br (g_Vs_l1In_0 (at_ (.int .i64) (itI y2 y1).2 (nat_lit 1)) (1:Int) (99:Int)) (.br (decide ((0:Int) ≤ (2:Int) ∧ 2 < (↑(List.length (itI y2 y1).2):Int))) (.br (true) (.br (!decide (at_ (.int .i64) (itI y2 y1).2 (nat_lit 2) ≤ 1)) (.out (.inl false)) (.br (true) (.br (byteAt (itI y2 y1).1 (nat_lit 0) != 97) (.br (true) (.br ((↑(ByteArray.size (itI y2 y1).1):Int) != 2) (.out (.inl false)) (.br (true) (.go (IntKind.i64.wrap (y1 + 1))) .bad)) .bad) (.br (true) (.go (IntKind.i64.wrap (y1 + 1))) .bad)) .bad)) .bad) .bad) (.br (true) (.out (.inl false)) (.br (true) (.br (byteAt (itI y2 y1).1 (nat_lit 0) != 97) (.br (true) (.br ((↑(ByteArray.size (itI y2 y1).1):Int) != 2) (.out (.inl false)) (.br (true) (.go (IntKind.i64.wrap (y1 + 1))) .bad)) .bad) (.br (true) (.go (IntKind.i64.wrap (y1 + 1))) .bad)) .bad))) .bad) .bad) (.br (true) (.out (.inl false)) (.br (true) (.br (byteAt (itI y2 y1).1 (nat_lit 0) != 97) (.br (true) (.br ((↑(ByteArray.size (itI y2 y1).1):Int) != 2) (.out (.inl false)) (.br (true) (.go (IntKind.i64.wrap (y1 + 1))) .bad)) .bad) (.br (true) (.go (IntKind.i64.wrap (y1 + 1))) .bad)) .bad))) .bad) (.br (true) (.out (.inl false)) (.br (true) (.br (byteAt (itI y2 y1).1 (nat_lit 0) != 97) (.br (true) (.br ((↑(ByteArray.size (itI y2 y1).1):Int) != 2) (.out (.inl false)) (.br (true) (.go (IntKind.i64.wrap (y1 + 1))) .bad)) .bad) (.br (true) (.go (IntKind.i64.wrap (y1 + 1))) .bad)) .bad))) .bad)) .bad) (.br (true) (.out (.inl false)) (.br (true) (.br (byteAt (itI y2 y1).1 (nat_lit 0) != 97) (.br (true) (.br ((↑(ByteArray.size (itI y2 y1).1):Int) != 2) (.out (.inl false)) (.br (true) (.go (IntKind.i64.wrap (y1 + 1))) .bad)) .bad) (.br (true) (.go (IntKind.i64.wrap (y1 + 1))) .bad)) .bad))) .bad) (.br (true) (.out (.inl false)) (.br (true) (.br (byteAt (itI y2 y1).1 (nat_lit 0) != 97) (.br (true) (.br ((↑(ByteArray.size (itI y2 y1).1):Int) != 2) (.out (.inl false)) (.br (true) (.go (IntKind.i64.wrap (y1 + 1))) .bad)) .bad) (.br (true) (.go (IntKind.i64.wrap (y1 + 1))) .bad)) .bad))) .bad)) .bad)) .bad) .bad) .bad) .bad) (.out (.inr (())))) .bad
def g_Ls_l3Form_0 (y0:Int) (y2:tS) (x:Int):Option ((Bool) ⊕ (Unit)) := loopO (g_Ss_l3Form_0 y0 y2) x
def xs_l3Form_0 (y0:Int) (y2:tS):((Bool) ⊕ (Unit)) → Ex×List (Pl×LV) := fun
 | .inl r => (.ret,[(.T 4,.t (.val false [.bool r]))])
 | .inr (r) => (.exit 0,[(.T 4,.t (.val false [.undef]))])
def Os_l3Form_1:Orc := fun b h => match b,h with
 | 0,[(.T 0,.t (.val false [.int .i64 y0])),(.T 3,.t (.val false [.ptr 3 0 0])),(.T 5,.t (.val false [.int .i64 y1])),(.B 3,.b 0 false [.sl .any 49 (.pair .str (.sl 3 (.int .i64))) y2])] => some (okO (g_Ls_l3Form_0 y0 y2 y1),(.br (isL (valO (g_Ls_l3Form_0 y0 y2 y1))) (.leaf .ret [(.T 4,.t (.val false [.bool (getL (valO (g_Ls_l3Form_0 y0 y2 y1)))]))]) (.leaf (.exit 0) [(.T 4,.t (.val false [.undef]))])))
 | b,h => Os_l3Form_0 b h
theorem bs_l3Form_0 (y0:Int) (y1:Int) (y2:tS):Tr.bt Es_l3Form Os_l3Form_0 (exec Es_l3Form 0 cs_l3Form_0 (St.of (hs_l3Form_0 y0 y1 y2)) (leafRd Es_l3Form 0)) = (g_Ss_l3Form_0 y0 y2 y1).bt (fun (y1:Int) => (hs_l3Form_0 y0 y1 y2)) (xs_l3Form_0 y0 y2) := by kernel_rfl
theorem ks_l3Form_1:OrcOk Es_l3Form Os_l3Form_1 lss_l3Form 1 := orc_add ks_l3Form_0 (fun n p hp h ex h' ho => by
 obtain ⟨b,c⟩ := p
 obtain ⟨xt,h1,h2⟩ := ho
 have h1:Os_l3Form_1 b h = some (true,xt) := h1
 unfold Os_l3Form_1 at h1
 split at h1
 ·injection h1 with h1
  injection h1 with e1 e2
  subst e2
  have hc:c = cs_l3Form_0 := ms_l3Form_0 _ hp rfl
  subst hc
  right
  rename_i y0 y1 y2
  have key := LT_step ks_l3Form_0 hp (fun q hq => loopsAll_in _ _ _ _ hp hq) (fun (y1:Int) => (hs_l3Form_0 y0 y1 y2)) (xs_l3Form_0 y0 y2) (g_Ss_l3Form_0 y0 y2) (fun x => by first | exact bs_l3Form_0 y0 x y2) n (x := y1) (okO_some e1)
  have hx:∀ r,XT.sel (.br (isL r) (.leaf .ret [(.T 4,.t (.val false [.bool (getL r)]))]) (.leaf (.exit 0) [(.T 4,.t (.val false [.undef]))])) = xs_l3Form_0 y0 y2 r := fun r => by first | rfl | rcases r with r | r <;> rfl | rcases r with r | r | r <;> rfl | rcases r with r | r | r | r <;> rfl
  have h3 := (hx (valO (g_Ls_l3Form_0 y0 y2 y1))).symm.trans h2
  have e3 := congrArg Prod.fst h3
  have e4 := congrArg Prod.snd h3
  simp only at e3 e4
  rw [← e3,← e4]
  exact key
 ·exact .inl ⟨xt,h1,h2⟩)
def g_As_l3Form (a0:Int) (a1:tS):Bool := okO (g_Ls_l3Form_0 a0 a1 (0:Int))
def g_Vs_l3Form_0 (a0:Int) (a1:tS):Bool := bif isL (valO (g_Ls_l3Form_0 a0 a1 (0:Int))) then getL (valO (g_Ls_l3Form_0 a0 a1 (0:Int))) else true
def Fs_l3Form:FSem := fun ys => match ys with
 | [.val false [.int .i64 a0],.val true [.sl .any 49 (.pair .str (.sl 3 (.int .i64))) a1]] => some ((g_As_l3Form a0 a1),.val false [.bool (g_Vs_l3Form_0 a0 a1)],[])
 | _ => none
theorem vs_l3Form (a0:Int) (a1:tS):collapseH .std Es_l3Form Os_l3Form_1 (execFn Es_l3Form Tryz.f103 mss_l3Form [.val false [.int .i64 a0],.val true [.sl .any 49 (.pair .str (.sl 3 (.int .i64))) a1]]) = some ((g_As_l3Form a0 a1),.val false [.bool (g_Vs_l3Form_0 a0 a1)],[]) := by kernel_rfl
theorem ss_l3Form:Sound Tryz.prog 103 mss_l3Form Fs_l3Form := by
 refine fn_gen goods_l3Form (by kernel_rfl) .std (fn := Tryz.f103) (c := (Tryz.f103.body.getD .skip)) (o := Os_l3Form_1) (k := 1) (by kernel_rfl) (by kernel_rfl) (by kernel_rfl) (by kernel_rfl) (by decide) ks_l3Form_1 ?_
 intro ys r outs h
 unfold Fs_l3Form at h
 split at h
 ·exact (vs_l3Form _ _).trans h
 ·cases h
def Es_PlcOk:Env where
 tt := mkTI Tryz.prog
 fn := fun f => match f with
  | 59 => some (mss_l1In,FSem.wk mss_l1In Fs_l1In)
  | 102 => some (mss_StoOk,FSem.wk mss_StoOk Fs_StoOk)
  | 103 => some (mss_l3Form,FSem.wk mss_l3Form Fs_l3Form)
  | _ => none
 bxf := fun _ => none
 mv := []
 keep := fun _ => []
 keepB := fun _ => []
 keepX := fun _ => []
 keepXB := fun _ => []
theorem goodFs_PlcOk:∀ f ms F,Es_PlcOk.fn f = some (ms,F) → Sound Tryz.prog f ms F := fun f ms F h => by
 unfold Es_PlcOk at h
 dsimp only at h
 split at h
 ·exact gF ss_l1In h
 ·exact gF ss_StoOk h
 ·exact gF ss_l3Form h
 ·cases h
theorem goods_PlcOk:Good Tryz.prog Es_PlcOk := ⟨rfl,goodFs_PlcOk,fun f ms F h => by cases h⟩
def Os_PlcOk_0:Orc := fun _ _ => none
def mss_PlcOk:List PM := [.own,.rd]
def lss_PlcOk:List (Nat×Code) := loopsAll 0 (Tryz.f57.body.getD .skip)
theorem ks_PlcOk_0:OrcOk Es_PlcOk Os_PlcOk_0 lss_PlcOk 0 := orcOk_none
def g_As_PlcOk (a0:Int) (a1:tS):Bool := g_As_l1In a0 (1:Int) (3:Int)&&(!g_Vs_l1In_0 a0 (1:Int) (3:Int) || g_As_StoOk a1&&(!g_Vs_StoOk_0 a1 || g_As_l3Form a0 a1))
def g_Vs_PlcOk_0 (a0:Int) (a1:tS):Bool := bif g_Vs_l1In_0 a0 (1:Int) (3:Int) then bif g_Vs_StoOk_0 a1 then g_Vs_l3Form_0 a0 a1 else false else false
def Fs_PlcOk:FSem := fun ys => match ys with
 | [.val false [.int .i64 a0],.val true [.sl .any 49 (.pair .str (.sl 3 (.int .i64))) a1]] => some ((g_As_PlcOk a0 a1),.val false [.bool (g_Vs_PlcOk_0 a0 a1)],[])
 | _ => none
theorem vs_PlcOk (a0:Int) (a1:tS):collapseH .std Es_PlcOk Os_PlcOk_0 (execFn Es_PlcOk Tryz.f57 mss_PlcOk [.val false [.int .i64 a0],.val true [.sl .any 49 (.pair .str (.sl 3 (.int .i64))) a1]]) = some ((g_As_PlcOk a0 a1),.val false [.bool (g_Vs_PlcOk_0 a0 a1)],[]) := by kernel_rfl
theorem ss_PlcOk:Sound Tryz.prog 57 mss_PlcOk Fs_PlcOk := by
 refine fn_gen goods_PlcOk (by kernel_rfl) .std (fn := Tryz.f57) (c := (Tryz.f57.body.getD .skip)) (o := Os_PlcOk_0) (k := 0) (by kernel_rfl) (by kernel_rfl) (by kernel_rfl) (by kernel_rfl) (by decide) ks_PlcOk_0 ?_
 intro ys r outs h
 unfold Fs_PlcOk at h
 split at h
 ·exact (vs_PlcOk _ _).trans h
 ·cases h
def Es_GloOk:Env where
 tt := mkTI Tryz.prog
 fn := fun f => match f with
  | 57 => some (mss_PlcOk,FSem.wk mss_PlcOk Fs_PlcOk)
  | _ => none
 bxf := fun _ => none
 mv := []
 keep := fun b => match b with
  | 0 => [(0,false),(3,false)]
  | _ => []
 keepB := fun b => match b with
  | 0 => []
  | _ => []
 keepX := fun b => match b with
  | 0 => [(2,false)]
  | _ => []
 keepXB := fun b => match b with
  | 0 => []
  | _ => []
theorem goodFs_GloOk:∀ f ms F,Es_GloOk.fn f = some (ms,F) → Sound Tryz.prog f ms F := fun f ms F h => by
 unfold Es_GloOk at h
 dsimp only at h
 split at h
 ·exact gF ss_PlcOk h
 ·cases h
theorem goods_GloOk:Good Tryz.prog Es_GloOk := ⟨rfl,goodFs_GloOk,fun f ms F h => by cases h⟩
def Os_GloOk_0:Orc := fun _ _ => none
def mss_GloOk:List PM := [.rd]
def lss_GloOk:List (Nat×Code) := loopsAll 0 (Tryz.f16.body.getD .skip)
def cs_GloOk_0:Code := (loopOf 0 (Tryz.f16.body.getD .skip)).getD .skip
theorem lseqs_GloOk:lss_GloOk = [(0,cs_GloOk_0)] := by kernel_rfl
theorem ms_GloOk_0:∀ p,p ∈ lss_GloOk → p.1 = 0 → p.2 = cs_GloOk_0 := by
 intro p hp
 rw [lseqs_GloOk] at hp
 simp only [List.mem_cons,List.not_mem_nil,or_false] at hp
 subst hp; simp
theorem ks_GloOk_0:OrcOk Es_GloOk Os_GloOk_0 lss_GloOk 0 := orcOk_none
def hs_GloOk_0 (y0:List tS) (y1:Int):List (Pl×LV) := [(.T 0,.t (.val false [.sl .any 25 (.sl 49 (.pair .str (.sl 3 (.int .i64)))) y0])),(.T 3,.t (.val false [.int .i64 y1]))]
def g_Ss_GloOk_0 (y0:List tS):(Int) → RT (Int) ((Bool) ⊕ (Unit))
 | y1 => .br (true) (.br (decide (y1 < (y0.length:Int))) (.br (true) (.br (decide (0 ≤ y1 ∧ y1 < (y0.length:Int))) (.br (g_As_PlcOk (IntKind.i64.wrap (y1 + 1)) (at_ (.sl (nat_lit 49) (.pair .str (.sl (nat_lit 3) (.int .i64)))) y0 (Int.toNat y1))) (.br (!g_Vs_PlcOk_0 (IntKind.i64.wrap (y1 + 1)) (at_ (.sl (nat_lit 49) (.pair .str (.sl (nat_lit 3) (.int .i64)))) y0 (Int.toNat y1))) (.out (.inl false)) (.br (true) (.go (IntKind.i64.wrap (y1 + 1))) .bad)) .bad) .bad) .bad) (.out (.inr (())))) .bad
def g_Ls_GloOk_0 (y0:List tS) (x:Int):Option ((Bool) ⊕ (Unit)) := loopO (g_Ss_GloOk_0 y0) x
def xs_GloOk_0 (y0:List tS):((Bool) ⊕ (Unit)) → Ex×List (Pl×LV) := fun
 | .inl r => (.ret,[(.T 2,.t (.val false [.bool r]))])
 | .inr (r) => (.exit 0,[(.T 2,.t (.val false [.undef]))])
def Os_GloOk_1:Orc := fun b h => match b,h with
 | 0,[(.T 0,.t (.val false [.sl .any 25 (.sl 49 (.pair .str (.sl 3 (.int .i64)))) y0])),(.T 3,.t (.val false [.int .i64 y1]))] => some (okO (g_Ls_GloOk_0 y0 y1),(.br (isL (valO (g_Ls_GloOk_0 y0 y1))) (.leaf .ret [(.T 2,.t (.val false [.bool (getL (valO (g_Ls_GloOk_0 y0 y1)))]))]) (.leaf (.exit 0) [(.T 2,.t (.val false [.undef]))])))
 | b,h => Os_GloOk_0 b h
theorem bs_GloOk_0 (y0:List tS) (y1:Int):Tr.bt Es_GloOk Os_GloOk_0 (exec Es_GloOk 0 cs_GloOk_0 (St.of (hs_GloOk_0 y0 y1)) (leafRd Es_GloOk 0)) = (g_Ss_GloOk_0 y0 y1).bt (fun (y1:Int) => (hs_GloOk_0 y0 y1)) (xs_GloOk_0 y0) := by kernel_rfl
theorem ks_GloOk_1:OrcOk Es_GloOk Os_GloOk_1 lss_GloOk 1 := orc_add ks_GloOk_0 (fun n p hp h ex h' ho => by
 obtain ⟨b,c⟩ := p
 obtain ⟨xt,h1,h2⟩ := ho
 have h1:Os_GloOk_1 b h = some (true,xt) := h1
 unfold Os_GloOk_1 at h1
 split at h1
 ·injection h1 with h1
  injection h1 with e1 e2
  subst e2
  have hc:c = cs_GloOk_0 := ms_GloOk_0 _ hp rfl
  subst hc
  right
  rename_i y0 y1
  have key := LT_step ks_GloOk_0 hp (fun q hq => loopsAll_in _ _ _ _ hp hq) (fun (y1:Int) => (hs_GloOk_0 y0 y1)) (xs_GloOk_0 y0) (g_Ss_GloOk_0 y0) (fun x => by first | exact bs_GloOk_0 y0 x) n (x := y1) (okO_some e1)
  have hx:∀ r,XT.sel (.br (isL r) (.leaf .ret [(.T 2,.t (.val false [.bool (getL r)]))]) (.leaf (.exit 0) [(.T 2,.t (.val false [.undef]))])) = xs_GloOk_0 y0 r := fun r => by first | rfl | rcases r with r | r <;> rfl | rcases r with r | r | r <;> rfl | rcases r with r | r | r | r <;> rfl
  have h3 := (hx (valO (g_Ls_GloOk_0 y0 y1))).symm.trans h2
  have e3 := congrArg Prod.fst h3
  have e4 := congrArg Prod.snd h3
  simp only at e3 e4
  rw [← e3,← e4]
  exact key
 ·exact .inl ⟨xt,h1,h2⟩)
def g_As_GloOk (a0:List tS):Bool := (a0.length:Int) != 3 || okO (g_Ls_GloOk_0 a0 (0:Int))
def g_Vs_GloOk_0 (a0:List tS):Bool := bif (a0.length:Int) != 3 then false else bif isL (valO (g_Ls_GloOk_0 a0 (0:Int))) then getL (valO (g_Ls_GloOk_0 a0 (0:Int))) else true
def Fs_GloOk:FSem := fun ys => match ys with
 | [.val false [.sl .any 25 (.sl 49 (.pair .str (.sl 3 (.int .i64)))) a0]] => some ((g_As_GloOk a0),.val false [.bool (g_Vs_GloOk_0 a0)],[])
 | _ => none
theorem vs_GloOk (a0:List tS):collapseH .std Es_GloOk Os_GloOk_1 (execFn Es_GloOk Tryz.f16 mss_GloOk [.val false [.sl .any 25 (.sl 49 (.pair .str (.sl 3 (.int .i64)))) a0]]) = some ((g_As_GloOk a0),.val false [.bool (g_Vs_GloOk_0 a0)],[]) := by kernel_rfl
theorem ss_GloOk:Sound Tryz.prog 16 mss_GloOk Fs_GloOk := by
 refine fn_gen goods_GloOk (by kernel_rfl) .std (fn := Tryz.f16) (c := (Tryz.f16.body.getD .skip)) (o := Os_GloOk_1) (k := 1) (by kernel_rfl) (by kernel_rfl) (by kernel_rfl) (by kernel_rfl) (by decide) ks_GloOk_1 ?_
 intro ys r outs h
 unfold Fs_GloOk at h
 split at h
 ·exact (vs_GloOk _).trans h
 ·cases h
def Es_OpOk:Env where
 tt := mkTI Tryz.prog
 fn := fun f => match f with
  | 59 => some (mss_l1In,FSem.wk mss_l1In Fs_l1In)
  | _ => none
 bxf := fun _ => none
 mv := []
 keep := fun _ => []
 keepB := fun _ => []
 keepX := fun _ => []
 keepXB := fun _ => []
theorem goodFs_OpOk:∀ f ms F,Es_OpOk.fn f = some (ms,F) → Sound Tryz.prog f ms F := fun f ms F h => by
 unfold Es_OpOk at h
 dsimp only at h
 split at h
 ·exact gF ss_l1In h
 ·cases h
theorem goods_OpOk:Good Tryz.prog Es_OpOk := ⟨rfl,goodFs_OpOk,fun f ms F h => by cases h⟩
def Os_OpOk_0:Orc := fun _ _ => none
def mss_OpOk:List PM := [.own]
def lss_OpOk:List (Nat×Code) := loopsAll 0 (Tryz.f58.body.getD .skip)
theorem ks_OpOk_0:OrcOk Es_OpOk Os_OpOk_0 lss_OpOk 0 := orcOk_none
def g_As_OpOk (a0:Int) (a1:Int) (a2:Int) (a3:Int) (a4:Int) (a5:Int) (a6:Int):Bool := g_As_l1In a1 (0:Int) (9:Int)&&(!g_Vs_l1In_0 a1 (0:Int) (9:Int) || g_As_l1In a2 (0:Int) (9:Int)&&(!g_Vs_l1In_0 a2 (0:Int) (9:Int) || g_As_l1In a3 (0:Int) (9:Int)&&(!g_Vs_l1In_0 a3 (0:Int) (9:Int) || g_As_l1In a4 (0:Int) (99:Int)&&(!g_Vs_l1In_0 a4 (0:Int) (99:Int) || g_As_l1In a5 (0:Int) (9:Int)&&(!g_Vs_l1In_0 a5 (0:Int) (9:Int) || g_As_l1In a6 (0:Int) (99:Int)&&(!g_Vs_l1In_0 a6 (0:Int) (99:Int) || bif a0 == 1 then bif a0 == 1 then !a3 == 0 || (!a4 == 0 || (!a5 == 0 || true)) else bif a0 == 2 then !a5 == 0 || true else bif a0 == 3 then !a1 == 0 || (!a2 == 0 || true) else !a0 == 4 || (!a1 == 0 || (!a2 == 0 || (!a3 == 0 || true))) else bif a0 == 5 then !a3 == 0 || (!a4 == 0 || (!a5 == 0 || true)) else bif a0 == 2 then !a5 == 0 || true else bif a0 == 3 then !a1 == 0 || (!a2 == 0 || true) else !a0 == 4 || (!a1 == 0 || (!a2 == 0 || (!a3 == 0 || true)))))))))
def g_Vs_OpOk_0 (a0:Int) (a1:Int) (a2:Int) (a3:Int) (a4:Int) (a5:Int) (a6:Int):Bool := bif !g_Vs_l1In_0 a1 (0:Int) (9:Int) then false else bif !g_Vs_l1In_0 a2 (0:Int) (9:Int) then false else bif !g_Vs_l1In_0 a3 (0:Int) (9:Int) then false else bif !g_Vs_l1In_0 a4 (0:Int) (99:Int) then false else bif !g_Vs_l1In_0 a5 (0:Int) (9:Int) then false else bif !g_Vs_l1In_0 a6 (0:Int) (99:Int) then false else bif a0 == 1 then bif a0 == 1 then bif a3 == 0 then bif a4 == 0 then bif a5 == 0 then a6 == 0 else false else false else false else bif a0 == 2 then bif a5 == 0 then a6 == 0 else false else bif a0 == 3 then bif a1 == 0 then bif a2 == 0 then a6 == 0 else false else false else bif a0 == 4 then bif a1 == 0 then bif a2 == 0 then bif a3 == 0 then a4 == 0 else false else false else false else false else bif a0 == 5 then bif a3 == 0 then bif a4 == 0 then bif a5 == 0 then a6 == 0 else false else false else false else bif a0 == 2 then bif a5 == 0 then a6 == 0 else false else bif a0 == 3 then bif a1 == 0 then bif a2 == 0 then a6 == 0 else false else false else bif a0 == 4 then bif a1 == 0 then bif a2 == 0 then bif a3 == 0 then a4 == 0 else false else false else false else false
def Fs_OpOk:FSem := fun ys => match ys with
 | [.val true [.int .i64 a0,.int .i64 a1,.int .i64 a2,.int .i64 a3,.int .i64 a4,.int .i64 a5,.int .i64 a6]] => some ((g_As_OpOk a0 a1 a2 a3 a4 a5 a6),.val false [.bool (g_Vs_OpOk_0 a0 a1 a2 a3 a4 a5 a6)],[])
 | _ => none
theorem vs_OpOk (a0:Int) (a1:Int) (a2:Int) (a3:Int) (a4:Int) (a5:Int) (a6:Int):collapseH .std Es_OpOk Os_OpOk_0 (execFn Es_OpOk Tryz.f58 mss_OpOk [.val true [.int .i64 a0,.int .i64 a1,.int .i64 a2,.int .i64 a3,.int .i64 a4,.int .i64 a5,.int .i64 a6]]) = some ((g_As_OpOk a0 a1 a2 a3 a4 a5 a6),.val false [.bool (g_Vs_OpOk_0 a0 a1 a2 a3 a4 a5 a6)],[]) := by kernel_rfl
theorem ss_OpOk:Sound Tryz.prog 58 mss_OpOk Fs_OpOk := by
 refine fn_gen goods_OpOk (by kernel_rfl) .std (fn := Tryz.f58) (c := (Tryz.f58.body.getD .skip)) (o := Os_OpOk_0) (k := 0) (by kernel_rfl) (by kernel_rfl) (by kernel_rfl) (by kernel_rfl) (by decide) ks_OpOk_0 ?_
 intro ys r outs h
 unfold Fs_OpOk at h
 split at h
 ·exact (vs_OpOk _ _ _ _ _ _ _).trans h
 ·cases h
def Es_l1Copy:Env where
 tt := mkTI Tryz.prog
 fn := fun _ => none
 bxf := fun _ => none
 mv := []
 keep := fun b => match b with
  | 0 => [(1,false),(2,false),(3,false),(4,false)]
  | _ => []
 keepB := fun b => match b with
  | 0 => [(1,false),(2,false),(3,false)]
  | _ => []
 keepX := fun b => match b with
  | 0 => [(2,false),(3,false)]
  | _ => []
 keepXB := fun b => match b with
  | 0 => [(2,false),(3,false)]
  | _ => []
theorem goodFs_l1Copy:∀ f ms F,Es_l1Copy.fn f = some (ms,F) → Sound Tryz.prog f ms F := fun f ms F h => by cases h
theorem goods_l1Copy:Good Tryz.prog Es_l1Copy := ⟨rfl,goodFs_l1Copy,fun f ms F h => by cases h⟩
def Os_l1Copy_0:Orc := fun _ _ => none
def mss_l1Copy:List PM := [.rd]
def lss_l1Copy:List (Nat×Code) := loopsAll 0 (Tryz.f112.body.getD .skip)
def cs_l1Copy_0:Code := (loopOf 0 (Tryz.f112.body.getD .skip)).getD .skip
theorem lseqs_l1Copy:lss_l1Copy = [(0,cs_l1Copy_0)] := by kernel_rfl
theorem ms_l1Copy_0:∀ p,p ∈ lss_l1Copy → p.1 = 0 → p.2 = cs_l1Copy_0 := by
 intro p hp
 rw [lseqs_l1Copy] at hp
 simp only [List.mem_cons,List.not_mem_nil,or_false] at hp
 subst hp; simp
theorem ks_l1Copy_0:OrcOk Es_l1Copy Os_l1Copy_0 lss_l1Copy 0 := orcOk_none
def hs_l1Copy_0 (y0:Int) (y1:tS) (y2:tS) (y3:tS):List (Pl×LV) := [(.T 1,.t (.val false [.ptr 1 0 0])),(.T 2,.t (.val false [.ptr 2 0 0])),(.T 3,.t (.val false [.ptr 3 0 0])),(.T 4,.t (.val false [.int .i64 y0])),(.B 1,.b 0 false [.sl .any 49 (.pair .str (.sl 3 (.int .i64))) y1]),(.B 2,.b 0 false [.row 2 1 0]),(.R 2 1,.r 0 (some ⟨false,.any,true,49,(.pair .str (.sl 3 (.int .i64))),y2⟩)),(.B 3,.b 0 false [.row 3 1 0]),(.R 3 1,.r 0 (some ⟨false,.any,true,49,(.pair .str (.sl 3 (.int .i64))),y3⟩))]
def g_Ss_l1Copy_0 (y1:tS) (y2:tS):(Int×tS) → RT (Int×tS) ((tS))
 | (y0,y3) => .br (true) (.br (decide (y0 < (y1.length:Int))) (.br (decide (0 ≤ y0 ∧ y0 < (y1.length:Int))) (.br (decide (0 ≤ y0 ∧ y0 < (y1.length:Int))) (.br (decide ((nat_lit 0 + List.length (at_ (.pair .str (.sl (nat_lit 3) (.int .i64))) y1 (Int.toNat y0)).2) * nat_lit 8 ≤ nat_lit 140737488355328 ∧ nat_lit 0 + List.length (at_ (.pair .str (.sl (nat_lit 3) (.int .i64))) y1 (Int.toNat y0)).2 ≤ nat_lit 9223372036854775807)) (.br (decide ((List.length y3 + List.length [((at_ (.pair .str (.sl (nat_lit 3) (.int .i64))) y1 (Int.toNat y0)).1,[] ++ (at_ (.pair .str (.sl (nat_lit 3) (.int .i64))) y1 (Int.toNat y0)).2)]) * nat_lit 40 ≤ nat_lit 140737488355328 ∧ List.length y3 + List.length [((at_ (.pair .str (.sl (nat_lit 3) (.int .i64))) y1 (Int.toNat y0)).1,[] ++ (at_ (.pair .str (.sl (nat_lit 3) (.int .i64))) y1 (Int.toNat y0)).2)] ≤ nat_lit 9223372036854775807)) (.br (true) (.go ((IntKind.i64.wrap (y0 + 1),y3 ++ [((at_ (.pair .str (.sl (nat_lit 3) (.int .i64))) y1 (Int.toNat y0)).1,[] ++ (at_ (.pair .str (.sl (nat_lit 3) (.int .i64))) y1 (Int.toNat y0)).2)]))) .bad) .bad) .bad) .bad) .bad) (.out (y3))) .bad
def g_Ls_l1Copy_0 (y1:tS) (y2:tS) (x:Int×tS):Option ((tS)) := loopO (g_Ss_l1Copy_0 y1 y2) x
def xs_l1Copy_0 (y1:tS) (y2:tS):((tS)) → Ex×List (Pl×LV) := fun r => (.exit 0,[(.T 2,.t (.val false [.ptr 2 0 0])),(.T 3,.t (.val false [.ptr 3 0 0])),(.B 2,.b 0 false [.row 2 1 0]),(.R 2 1,.r 0 (some ⟨false,.any,true,49,(.pair .str (.sl 3 (.int .i64))),y2⟩)),(.B 3,.b 0 false [.row 3 1 0]),(.R 3 1,.r 0 (some ⟨false,.any,true,49,(.pair .str (.sl 3 (.int .i64))),r⟩))])
def Os_l1Copy_1:Orc := fun b h => match b,h with
 | 0,[(.T 1,.t (.val false [.ptr 1 0 0])),(.T 2,.t (.val false [.ptr 2 0 0])),(.T 3,.t (.val false [.ptr 3 0 0])),(.T 4,.t (.val false [.int .i64 y0])),(.B 1,.b 0 false [.sl .any 49 (.pair .str (.sl 3 (.int .i64))) y1]),(.B 2,.b 0 false [.row 2 1 0]),(.R 2 1,.r 0 (some ⟨false,.any,true,49,(.pair .str (.sl 3 (.int .i64))),y2⟩)),(.B 3,.b 0 false [.row 3 1 0]),(.R 3 1,.r 0 (some ⟨false,.any,true,49,(.pair .str (.sl 3 (.int .i64))),y3⟩))] => some (okO (g_Ls_l1Copy_0 y1 y2 (y0,y3)),(.leaf (.exit 0) [(.T 2,.t (.val false [.ptr 2 0 0])),(.T 3,.t (.val false [.ptr 3 0 0])),(.B 2,.b 0 false [.row 2 1 0]),(.R 2 1,.r 0 (some ⟨false,.any,true,49,(.pair .str (.sl 3 (.int .i64))),y2⟩)),(.B 3,.b 0 false [.row 3 1 0]),(.R 3 1,.r 0 (some ⟨false,.any,true,49,(.pair .str (.sl 3 (.int .i64))),(valO (g_Ls_l1Copy_0 y1 y2 (y0,y3)))⟩))]))
 | b,h => Os_l1Copy_0 b h
theorem bs_l1Copy_0 (y0:Int) (y1:tS) (y2:tS) (y3:tS):Tr.bt Es_l1Copy Os_l1Copy_0 (exec Es_l1Copy 0 cs_l1Copy_0 (St.of (hs_l1Copy_0 y0 y1 y2 y3)) (leafRd Es_l1Copy 0)) = (g_Ss_l1Copy_0 y1 y2 (y0,y3)).bt (fun ((y0,y3):Int×tS) => (hs_l1Copy_0 y0 y1 y2 y3)) (xs_l1Copy_0 y1 y2) := by kernel_rfl
theorem ks_l1Copy_1:OrcOk Es_l1Copy Os_l1Copy_1 lss_l1Copy 1 := orc_add ks_l1Copy_0 (fun n p hp h ex h' ho => by
 obtain ⟨b,c⟩ := p
 obtain ⟨xt,h1,h2⟩ := ho
 have h1:Os_l1Copy_1 b h = some (true,xt) := h1
 unfold Os_l1Copy_1 at h1
 split at h1
 ·injection h1 with h1
  injection h1 with e1 e2
  subst e2
  have hc:c = cs_l1Copy_0 := ms_l1Copy_0 _ hp rfl
  subst hc
  right
  rename_i y0 y1 y2 y3
  have key := LT_step ks_l1Copy_0 hp (fun q hq => loopsAll_in _ _ _ _ hp hq) (fun ((y0,y3):Int×tS) => (hs_l1Copy_0 y0 y1 y2 y3)) (xs_l1Copy_0 y1 y2) (g_Ss_l1Copy_0 y1 y2) (fun x => by first | exact bs_l1Copy_0 x.1 y1 y2 x.2) n (x := (y0,y3)) (okO_some e1)
  have hx:∀ r,XT.sel (.leaf (.exit 0) [(.T 2,.t (.val false [.ptr 2 0 0])),(.T 3,.t (.val false [.ptr 3 0 0])),(.B 2,.b 0 false [.row 2 1 0]),(.R 2 1,.r 0 (some ⟨false,.any,true,49,(.pair .str (.sl 3 (.int .i64))),y2⟩)),(.B 3,.b 0 false [.row 3 1 0]),(.R 3 1,.r 0 (some ⟨false,.any,true,49,(.pair .str (.sl 3 (.int .i64))),r⟩))]) = xs_l1Copy_0 y1 y2 r := fun r => by first | rfl | rcases r with r | r <;> rfl | rcases r with r | r | r <;> rfl | rcases r with r | r | r | r <;> rfl
  have h3 := (hx (valO (g_Ls_l1Copy_0 y1 y2 (y0,y3)))).symm.trans h2
  have e3 := congrArg Prod.fst h3
  have e4 := congrArg Prod.snd h3
  simp only at e3 e4
  rw [← e3,← e4]
  exact key
 ·exact .inl ⟨xt,h1,h2⟩)
def g_As_l1Copy (a0:tS):Bool := okO (g_Ls_l1Copy_0 a0 [] ((0:Int),[]))
def g_Vs_l1Copy_0 (a0:tS):tS := valO (g_Ls_l1Copy_0 a0 [] ((0:Int),[]))
def Fs_l1Copy:FSem := fun ys => match ys with
 | [.val true [.sl .any 49 (.pair .str (.sl 3 (.int .i64))) a0]] => some ((g_As_l1Copy a0),.val true [.own .any true 49 (.pair .str (.sl 3 (.int .i64))) (g_Vs_l1Copy_0 a0)],[])
 | _ => none
theorem vs_l1Copy (a0:tS):collapseH .std Es_l1Copy Os_l1Copy_1 (execFn Es_l1Copy Tryz.f112 mss_l1Copy [.val true [.sl .any 49 (.pair .str (.sl 3 (.int .i64))) a0]]) = some ((g_As_l1Copy a0),.val true [.own .any true 49 (.pair .str (.sl 3 (.int .i64))) (g_Vs_l1Copy_0 a0)],[]) := by kernel_rfl
theorem ss_l1Copy:Sound Tryz.prog 112 mss_l1Copy Fs_l1Copy := by
 refine fn_gen goods_l1Copy (by kernel_rfl) .std (fn := Tryz.f112) (c := (Tryz.f112.body.getD .skip)) (o := Os_l1Copy_1) (k := 1) (by kernel_rfl) (by kernel_rfl) (by kernel_rfl) (by kernel_rfl) (by decide) ks_l1Copy_1 ?_
 intro ys r outs h
 unfold Fs_l1Copy at h
 split at h
 ·exact (vs_l1Copy _).trans h
 ·cases h
def Es_l4Copy:Env where
 tt := mkTI Tryz.prog
 fn := fun f => match f with
  | 112 => some (mss_l1Copy,FSem.wk mss_l1Copy Fs_l1Copy)
  | _ => none
 bxf := fun _ => none
 mv := []
 keep := fun b => match b with
  | 0 => [(0,false),(3,false),(4,false)]
  | _ => []
 keepB := fun b => match b with
  | 0 => []
  | _ => []
 keepX := fun b => match b with
  | 0 => [(3,false)]
  | _ => []
 keepXB := fun b => match b with
  | 0 => []
  | _ => []
theorem goodFs_l4Copy:∀ f ms F,Es_l4Copy.fn f = some (ms,F) → Sound Tryz.prog f ms F := fun f ms F h => by
 unfold Es_l4Copy at h
 dsimp only at h
 split at h
 ·exact gF ss_l1Copy h
 ·cases h
theorem goods_l4Copy:Good Tryz.prog Es_l4Copy := ⟨rfl,goodFs_l4Copy,fun f ms F h => by cases h⟩
def Os_l4Copy_0:Orc := fun _ _ => none
def mss_l4Copy:List PM := [.rd]
def lss_l4Copy:List (Nat×Code) := loopsAll 0 (Tryz.f87.body.getD .skip)
def cs_l4Copy_0:Code := (loopOf 0 (Tryz.f87.body.getD .skip)).getD .skip
theorem lseqs_l4Copy:lss_l4Copy = [(0,cs_l4Copy_0)] := by kernel_rfl
theorem ms_l4Copy_0:∀ p,p ∈ lss_l4Copy → p.1 = 0 → p.2 = cs_l4Copy_0 := by
 intro p hp
 rw [lseqs_l4Copy] at hp
 simp only [List.mem_cons,List.not_mem_nil,or_false] at hp
 subst hp; simp
theorem ks_l4Copy_0:OrcOk Es_l4Copy Os_l4Copy_0 lss_l4Copy 0 := orcOk_none
def hs_l4Copy_0 (y0:List tS) (y1:List tS) (y2:Int):List (Pl×LV) := [(.T 0,.t (.val false [.sl .any 25 (.sl 49 (.pair .str (.sl 3 (.int .i64)))) y0])),(.T 3,.t (.val false [.row 3 0 0])),(.R 3 0,.r 0 (some ⟨false,.non,true,25,(.sl 49 (.pair .str (.sl 3 (.int .i64)))),y1⟩)),(.T 4,.t (.val false [.int .i64 y2]))]
def g_Ss_l4Copy_0 (y0:List tS):((List tS)×Int) → RT ((List tS)×Int) (((List tS)))
 | (y1,y2) => .br (true) (.br (decide (y2 < (y0.length:Int))) (.br (decide (0 ≤ y2 ∧ y2 < (y0.length:Int))) (.br (g_As_l1Copy (at_ (.sl (nat_lit 49) (.pair .str (.sl (nat_lit 3) (.int .i64)))) y0 (Int.toNat y2))) (.br (decide ((List.length y1 + List.length [g_Vs_l1Copy_0 (at_ (.sl (nat_lit 49) (.pair .str (.sl (nat_lit 3) (.int .i64)))) y0 (Int.toNat y2))]) * nat_lit 24 ≤ nat_lit 140737488355328 ∧ List.length y1 + List.length [g_Vs_l1Copy_0 (at_ (.sl (nat_lit 49) (.pair .str (.sl (nat_lit 3) (.int .i64)))) y0 (Int.toNat y2))] ≤ nat_lit 9223372036854775807)) (.br (true) (.go ((y1 ++ [g_Vs_l1Copy_0 (at_ (.sl (nat_lit 49) (.pair .str (.sl (nat_lit 3) (.int .i64)))) y0 (Int.toNat y2))],IntKind.i64.wrap (y2 + 1)))) .bad) .bad) .bad) .bad) (.out (y1))) .bad
def g_Ls_l4Copy_0 (y0:List tS) (x:(List tS)×Int):Option (((List tS))) := loopO (g_Ss_l4Copy_0 y0) x
def xs_l4Copy_0 (y0:List tS):(((List tS))) → Ex×List (Pl×LV) := fun r => (.exit 0,[(.T 3,.t (.val false [.row 3 0 0])),(.R 3 0,.r 0 (some ⟨false,.non,true,25,(.sl 49 (.pair .str (.sl 3 (.int .i64)))),r⟩))])
def Os_l4Copy_1:Orc := fun b h => match b,h with
 | 0,[(.T 0,.t (.val false [.sl .any 25 (.sl 49 (.pair .str (.sl 3 (.int .i64)))) y0])),(.T 3,.t (.val false [.row 3 0 0])),(.R 3 0,.r 0 (some ⟨false,.non,true,25,(.sl 49 (.pair .str (.sl 3 (.int .i64)))),y1⟩)),(.T 4,.t (.val false [.int .i64 y2]))] => some (okO (g_Ls_l4Copy_0 y0 (y1,y2)),(.leaf (.exit 0) [(.T 3,.t (.val false [.row 3 0 0])),(.R 3 0,.r 0 (some ⟨false,.non,true,25,(.sl 49 (.pair .str (.sl 3 (.int .i64)))),(valO (g_Ls_l4Copy_0 y0 (y1,y2)))⟩))]))
 | b,h => Os_l4Copy_0 b h
theorem bs_l4Copy_0 (y0:List tS) (y1:List tS) (y2:Int):Tr.bt Es_l4Copy Os_l4Copy_0 (exec Es_l4Copy 0 cs_l4Copy_0 (St.of (hs_l4Copy_0 y0 y1 y2)) (leafRd Es_l4Copy 0)) = (g_Ss_l4Copy_0 y0 (y1,y2)).bt (fun ((y1,y2):(List tS)×Int) => (hs_l4Copy_0 y0 y1 y2)) (xs_l4Copy_0 y0) := by kernel_rfl
theorem ks_l4Copy_1:OrcOk Es_l4Copy Os_l4Copy_1 lss_l4Copy 1 := orc_add ks_l4Copy_0 (fun n p hp h ex h' ho => by
 obtain ⟨b,c⟩ := p
 obtain ⟨xt,h1,h2⟩ := ho
 have h1:Os_l4Copy_1 b h = some (true,xt) := h1
 unfold Os_l4Copy_1 at h1
 split at h1
 ·injection h1 with h1
  injection h1 with e1 e2
  subst e2
  have hc:c = cs_l4Copy_0 := ms_l4Copy_0 _ hp rfl
  subst hc
  right
  rename_i y0 y1 y2
  have key := LT_step ks_l4Copy_0 hp (fun q hq => loopsAll_in _ _ _ _ hp hq) (fun ((y1,y2):(List tS)×Int) => (hs_l4Copy_0 y0 y1 y2)) (xs_l4Copy_0 y0) (g_Ss_l4Copy_0 y0) (fun x => by first | exact bs_l4Copy_0 y0 x.1 x.2) n (x := (y1,y2)) (okO_some e1)
  have hx:∀ r,XT.sel (.leaf (.exit 0) [(.T 3,.t (.val false [.row 3 0 0])),(.R 3 0,.r 0 (some ⟨false,.non,true,25,(.sl 49 (.pair .str (.sl 3 (.int .i64)))),r⟩))]) = xs_l4Copy_0 y0 r := fun r => by first | rfl | rcases r with r | r <;> rfl | rcases r with r | r | r <;> rfl | rcases r with r | r | r | r <;> rfl
  have h3 := (hx (valO (g_Ls_l4Copy_0 y0 (y1,y2)))).symm.trans h2
  have e3 := congrArg Prod.fst h3
  have e4 := congrArg Prod.snd h3
  simp only at e3 e4
  rw [← e3,← e4]
  exact key
 ·exact .inl ⟨xt,h1,h2⟩)
def g_As_l4Copy (a0:List tS):Bool := okO (g_Ls_l4Copy_0 a0 ([],(0:Int)))
def g_Vs_l4Copy_0 (a0:List tS):List tS := valO (g_Ls_l4Copy_0 a0 ([],(0:Int)))
def Fs_l4Copy:FSem := fun ys => match ys with
 | [.val false [.sl .any 25 (.sl 49 (.pair .str (.sl 3 (.int .i64)))) a0]] => some ((g_As_l4Copy a0),.val false [.own .any true 25 (.sl 49 (.pair .str (.sl 3 (.int .i64)))) (g_Vs_l4Copy_0 a0)],[])
 | _ => none
theorem vs_l4Copy (a0:List tS):collapseH .std Es_l4Copy Os_l4Copy_1 (execFn Es_l4Copy Tryz.f87 mss_l4Copy [.val false [.sl .any 25 (.sl 49 (.pair .str (.sl 3 (.int .i64)))) a0]]) = some ((g_As_l4Copy a0),.val false [.own .any true 25 (.sl 49 (.pair .str (.sl 3 (.int .i64)))) (g_Vs_l4Copy_0 a0)],[]) := by kernel_rfl
theorem ss_l4Copy:Sound Tryz.prog 87 mss_l4Copy Fs_l4Copy := by
 refine fn_gen goods_l4Copy (by kernel_rfl) .std (fn := Tryz.f87) (c := (Tryz.f87.body.getD .skip)) (o := Os_l4Copy_1) (k := 1) (by kernel_rfl) (by kernel_rfl) (by kernel_rfl) (by kernel_rfl) (by decide) ks_l4Copy_1 ?_
 intro ys r outs h
 unfold Fs_l4Copy at h
 split at h
 ·exact (vs_l4Copy _).trans h
 ·cases h
def Es_OpPlaces:Env where
 tt := mkTI Tryz.prog
 fn := fun f => match f with
  | 58 => some (mss_OpOk,FSem.wk mss_OpOk Fs_OpOk)
  | _ => none
 bxf := fun _ => none
 mv := []
 keep := fun _ => []
 keepB := fun _ => []
 keepX := fun _ => []
 keepXB := fun _ => []
theorem goodFs_OpPlaces:∀ f ms F,Es_OpPlaces.fn f = some (ms,F) → Sound Tryz.prog f ms F := fun f ms F h => by
 unfold Es_OpPlaces at h
 dsimp only at h
 split at h
 ·exact gF ss_OpOk h
 ·cases h
theorem goods_OpPlaces:Good Tryz.prog Es_OpPlaces := ⟨rfl,goodFs_OpPlaces,fun f ms F h => by cases h⟩
def Os_OpPlaces_0:Orc := fun _ _ => none
def mss_OpPlaces:List PM := [.own]
def lss_OpPlaces:List (Nat×Code) := loopsAll 0 (Tryz.f41.body.getD .skip)
theorem ks_OpPlaces_0:OrcOk Es_OpPlaces Os_OpPlaces_0 lss_OpPlaces 0 := orcOk_none
def g_As_OpPlaces (a0:Int) (a1:Int) (a2:Int) (a3:Int) (a4:Int) (a5:Int) (a6:Int):Bool := g_As_OpOk a0 a1 a2 a3 a4 a5 a6&&(!g_Vs_OpOk_0 a0 a1 a2 a3 a4 a5 a6 || (a0 == 1 || (a0 == 2 || true)))
def g_Vs_OpPlaces_0 (a0:Int) (a1:Int) (a2:Int) (a3:Int) (a4:Int) (a5:Int) (a6:Int):List Int := bif !g_Vs_OpOk_0 a0 a1 a2 a3 a4 a5 a6 then [] else bif a0 == 1 then [(1:Int),(3:Int)] else bif a0 == 2 then bif a0 == 2 then [(1:Int),(2:Int),(3:Int)] else [(2:Int),(3:Int)] else bif a0 == 5 then [(1:Int),(2:Int),(3:Int)] else [(2:Int),(3:Int)]
def Fs_OpPlaces:FSem := fun ys => match ys with
 | [.val true [.int .i64 a0,.int .i64 a1,.int .i64 a2,.int .i64 a3,.int .i64 a4,.int .i64 a5,.int .i64 a6]] => some ((g_As_OpPlaces a0 a1 a2 a3 a4 a5 a6),.val false [.own .any true 3 (.int .i64) (g_Vs_OpPlaces_0 a0 a1 a2 a3 a4 a5 a6)],[])
 | _ => none
theorem vs_OpPlaces (a0:Int) (a1:Int) (a2:Int) (a3:Int) (a4:Int) (a5:Int) (a6:Int):collapseH .std Es_OpPlaces Os_OpPlaces_0 (execFn Es_OpPlaces Tryz.f41 mss_OpPlaces [.val true [.int .i64 a0,.int .i64 a1,.int .i64 a2,.int .i64 a3,.int .i64 a4,.int .i64 a5,.int .i64 a6]]) = some ((g_As_OpPlaces a0 a1 a2 a3 a4 a5 a6),.val false [.own .any true 3 (.int .i64) (g_Vs_OpPlaces_0 a0 a1 a2 a3 a4 a5 a6)],[]) := by kernel_rfl
theorem ss_OpPlaces:Sound Tryz.prog 41 mss_OpPlaces Fs_OpPlaces := by
 refine fn_gen goods_OpPlaces (by kernel_rfl) .std (fn := Tryz.f41) (c := (Tryz.f41.body.getD .skip)) (o := Os_OpPlaces_0) (k := 0) (by kernel_rfl) (by kernel_rfl) (by kernel_rfl) (by kernel_rfl) (by decide) ks_OpPlaces_0 ?_
 intro ys r outs h
 unfold Fs_OpPlaces at h
 split at h
 ·exact (vs_OpPlaces _ _ _ _ _ _ _).trans h
 ·cases h
def Es_WrtOk:Env where
 tt := mkTI Tryz.prog
 fn := fun f => match f with
  | 128 => some (mss_l1Key,FSem.wk mss_l1Key Fs_l1Key)
  | 146 => some (mss_l1Val,FSem.wk mss_l1Val Fs_l1Val)
  | _ => none
 bxf := fun _ => none
 mv := []
 keep := fun _ => []
 keepB := fun _ => []
 keepX := fun _ => []
 keepXB := fun _ => []
theorem goodFs_WrtOk:∀ f ms F,Es_WrtOk.fn f = some (ms,F) → Sound Tryz.prog f ms F := fun f ms F h => by
 unfold Es_WrtOk at h
 dsimp only at h
 split at h
 ·exact gF ss_l1Key h
 ·exact gF ss_l1Val h
 ·cases h
theorem goods_WrtOk:Good Tryz.prog Es_WrtOk := ⟨rfl,goodFs_WrtOk,fun f ms F h => by cases h⟩
def Os_WrtOk_0:Orc := fun _ _ => none
def mss_WrtOk:List PM := [.rd]
def lss_WrtOk:List (Nat×Code) := loopsAll 0 (Tryz.f113.body.getD .skip)
theorem ks_WrtOk_0:OrcOk Es_WrtOk Os_WrtOk_0 lss_WrtOk 0 := orcOk_none
def g_As_WrtOk (a0:ByteArray) (a1:Bool) (a2:List Int):Bool := bif a1 then g_As_l1Key a0&&(!g_Vs_l1Key_0 a0 || true) else g_As_l1Key a0&&(!g_Vs_l1Key_0 a0 || g_As_l1Val a2)
def g_Vs_WrtOk_0 (a0:ByteArray) (a1:Bool) (a2:List Int):Bool := bif a1 then bif g_Vs_l1Key_0 a0 then (a2.length:Int) == 0 else false else bif g_Vs_l1Key_0 a0 then g_Vs_l1Val_0 a2 else false
def Fs_WrtOk:FSem := fun ys => match ys with
 | [.val true [.str a0,.bool a1,.sl .any 3 (.int .i64) a2]] => some ((g_As_WrtOk a0 a1 a2),.val false [.bool (g_Vs_WrtOk_0 a0 a1 a2)],[])
 | _ => none
theorem vs_WrtOk (a0:ByteArray) (a1:Bool) (a2:List Int):collapseH .std Es_WrtOk Os_WrtOk_0 (execFn Es_WrtOk Tryz.f113 mss_WrtOk [.val true [.str a0,.bool a1,.sl .any 3 (.int .i64) a2]]) = some ((g_As_WrtOk a0 a1 a2),.val false [.bool (g_Vs_WrtOk_0 a0 a1 a2)],[]) := by kernel_rfl
theorem ss_WrtOk:Sound Tryz.prog 113 mss_WrtOk Fs_WrtOk := by
 refine fn_gen goods_WrtOk (by kernel_rfl) .std (fn := Tryz.f113) (c := (Tryz.f113.body.getD .skip)) (o := Os_WrtOk_0) (k := 0) (by kernel_rfl) (by kernel_rfl) (by kernel_rfl) (by kernel_rfl) (by decide) ks_WrtOk_0 ?_
 intro ys r outs h
 unfold Fs_WrtOk at h
 split at h
 ·exact (vs_WrtOk _ _ _).trans h
 ·cases h
def Es_l1Write:Env where
 tt := mkTI Tryz.prog
 fn := fun _ => none
 bxf := fun _ => none
 mv := []
 keep := fun b => match b with
  | 0 => [(2,false),(3,false),(4,false),(5,true),(6,false),(7,false)]
  | _ => []
 keepB := fun b => match b with
  | 0 => [(2,false),(3,false),(4,false),(5,true)]
  | _ => []
 keepX := fun b => match b with
  | 0 => [(3,false),(4,false),(5,true),(6,false)]
  | _ => []
 keepXB := fun b => match b with
  | 0 => [(3,false),(4,false),(5,true)]
  | _ => []
theorem goodFs_l1Write:∀ f ms F,Es_l1Write.fn f = some (ms,F) → Sound Tryz.prog f ms F := fun f ms F h => by cases h
theorem goods_l1Write:Good Tryz.prog Es_l1Write := ⟨rfl,goodFs_l1Write,fun f ms F h => by cases h⟩
def Os_l1Write_0:Orc := fun _ _ => none
def mss_l1Write:List PM := [.fz,.fz]
def lss_l1Write:List (Nat×Code) := loopsAll 0 (Tryz.f114.body.getD .skip)
def cs_l1Write_0:Code := (loopOf 0 (Tryz.f114.body.getD .skip)).getD .skip
theorem lseqs_l1Write:lss_l1Write = [(0,cs_l1Write_0)] := by kernel_rfl
theorem ms_l1Write_0:∀ p,p ∈ lss_l1Write → p.1 = 0 → p.2 = cs_l1Write_0 := by
 intro p hp
 rw [lseqs_l1Write] at hp
 simp only [List.mem_cons,List.not_mem_nil,or_false] at hp
 subst hp; simp
theorem ks_l1Write_0:OrcOk Es_l1Write Os_l1Write_0 lss_l1Write 0 := orcOk_none
def hs_l1Write_0 (y0:Bool) (y1:Int) (y2:tS) (y3:ByteArray) (y4:Bool) (y5:List Int) (y6:tS) (y7:tS):List (Pl×LV) := [(.T 2,.t (.val false [.ptr 2 0 0])),(.T 3,.t (.val false [.ptr 3 0 0])),(.T 4,.t (.val false [.ptr 4 0 0])),(.T 5,.t (.val false [.ptr 5 0 0])),(.T 6,.t (.val false [.bool y0])),(.T 7,.t (.val false [.int .i64 y1])),(.B 2,.b 0 false [.sl .any 49 (.pair .str (.sl 3 (.int .i64))) y2]),(.B 3,.b 0 false [.str y3,.bool y4,.sl .any 3 (.int .i64) y5]),(.B 4,.b 0 false [.row 4 1 0]),(.R 4 1,.r 0 (some ⟨false,.any,true,49,(.pair .str (.sl 3 (.int .i64))),y6⟩)),(.B 5,.b 0 false [.row 5 1 0]),(.R 5 1,.r 0 (some ⟨false,.any,false,49,(.pair .str (.sl 3 (.int .i64))),y7⟩))]
def g_Ss_l1Write_0 (y2:tS) (y3:ByteArray) (y4:Bool) (y5:List Int) (y6:tS):(Bool×Int×tS) → RT (Bool×Int×tS) ((Bool×tS))
 | (y0,y1,y7) => .br (true) (.br (decide (y1 < (y2.length:Int))) (.br (decide (0 ≤ y1 ∧ y1 < (y2.length:Int))) (.br (!y0) (.br (true) (.br (Op.bytesLess (ByteArray.toList y3) (ByteArray.toList (at_ (.pair .str (.sl (nat_lit 3) (.int .i64))) y2 (Int.toNat y1)).1)) (.br (decide ((nat_lit 0 + List.length y5) * nat_lit 8 ≤ nat_lit 140737488355328 ∧ nat_lit 0 + List.length y5 ≤ nat_lit 9223372036854775807)) (.br (decide ((List.length y7 + List.length [(y3,[] ++ y5)]) * nat_lit 40 ≤ nat_lit 140737488355328 ∧ List.length y7 + List.length [(y3,[] ++ y5)] ≤ nat_lit 9223372036854775807)) (.br (true) (.br (!ByteArray.toList (at_ (.pair .str (.sl (nat_lit 3) (.int .i64))) y2 (Int.toNat y1)).1 == ByteArray.toList y3) (.br (decide ((List.length (y7 ++ [(y3,[] ++ y5)]) + List.length [((at_ (.pair .str (.sl (nat_lit 3) (.int .i64))) y2 (Int.toNat y1)).1,(at_ (.pair .str (.sl (nat_lit 3) (.int .i64))) y2 (Int.toNat y1)).2)]) * nat_lit 40 ≤ nat_lit 140737488355328 ∧ List.length (y7 ++ [(y3,[] ++ y5)]) + List.length [((at_ (.pair .str (.sl (nat_lit 3) (.int .i64))) y2 (Int.toNat y1)).1,(at_ (.pair .str (.sl (nat_lit 3) (.int .i64))) y2 (Int.toNat y1)).2)] ≤ nat_lit 9223372036854775807)) (.br (true) (.go ((true,IntKind.i64.wrap (y1 + 1),y7 ++ [(y3,[] ++ y5)] ++ [((at_ (.pair .str (.sl (nat_lit 3) (.int .i64))) y2 (Int.toNat y1)).1,(at_ (.pair .str (.sl (nat_lit 3) (.int .i64))) y2 (Int.toNat y1)).2)]))) .bad) .bad) (.br (!y4) (.br (decide ((nat_lit 0 + List.length y5) * nat_lit 8 ≤ nat_lit 140737488355328 ∧ nat_lit 0 + List.length y5 ≤ nat_lit 9223372036854775807)) (.br (decide ((List.length (y7 ++ [(y3,[] ++ y5)]) + List.length [(y3,[] ++ y5)]) * nat_lit 40 ≤ nat_lit 140737488355328 ∧ List.length (y7 ++ [(y3,[] ++ y5)]) + List.length [(y3,[] ++ y5)] ≤ nat_lit 9223372036854775807)) (.br (true) (.go ((true,IntKind.i64.wrap (y1 + 1),y7 ++ [(y3,[] ++ y5)] ++ [(y3,[] ++ y5)]))) .bad) .bad) .bad) (.br (true) (.go ((true,IntKind.i64.wrap (y1 + 1),y7 ++ [(y3,[] ++ y5)]))) .bad))) .bad) .bad) .bad) (.br (true) (.br (!ByteArray.toList (at_ (.pair .str (.sl (nat_lit 3) (.int .i64))) y2 (Int.toNat y1)).1 == ByteArray.toList y3) (.br (decide ((List.length y7 + List.length [((at_ (.pair .str (.sl (nat_lit 3) (.int .i64))) y2 (Int.toNat y1)).1,(at_ (.pair .str (.sl (nat_lit 3) (.int .i64))) y2 (Int.toNat y1)).2)]) * nat_lit 40 ≤ nat_lit 140737488355328 ∧ List.length y7 + List.length [((at_ (.pair .str (.sl (nat_lit 3) (.int .i64))) y2 (Int.toNat y1)).1,(at_ (.pair .str (.sl (nat_lit 3) (.int .i64))) y2 (Int.toNat y1)).2)] ≤ nat_lit 9223372036854775807)) (.br (true) (.go ((y0,IntKind.i64.wrap (y1 + 1),y7 ++ [((at_ (.pair .str (.sl (nat_lit 3) (.int .i64))) y2 (Int.toNat y1)).1,(at_ (.pair .str (.sl (nat_lit 3) (.int .i64))) y2 (Int.toNat y1)).2)]))) .bad) .bad) (.br (!y4) (.br (decide ((nat_lit 0 + List.length y5) * nat_lit 8 ≤ nat_lit 140737488355328 ∧ nat_lit 0 + List.length y5 ≤ nat_lit 9223372036854775807)) (.br (decide ((List.length y7 + List.length [(y3,[] ++ y5)]) * nat_lit 40 ≤ nat_lit 140737488355328 ∧ List.length y7 + List.length [(y3,[] ++ y5)] ≤ nat_lit 9223372036854775807)) (.br (true) (.go ((true,IntKind.i64.wrap (y1 + 1),y7 ++ [(y3,[] ++ y5)]))) .bad) .bad) .bad) (.br (true) (.go ((y0,IntKind.i64.wrap (y1 + 1),y7))) .bad))) .bad)) .bad) (.br (true) (.br (!ByteArray.toList (at_ (.pair .str (.sl (nat_lit 3) (.int .i64))) y2 (Int.toNat y1)).1 == ByteArray.toList y3) (.br (decide ((List.length y7 + List.length [((at_ (.pair .str (.sl (nat_lit 3) (.int .i64))) y2 (Int.toNat y1)).1,(at_ (.pair .str (.sl (nat_lit 3) (.int .i64))) y2 (Int.toNat y1)).2)]) * nat_lit 40 ≤ nat_lit 140737488355328 ∧ List.length y7 + List.length [((at_ (.pair .str (.sl (nat_lit 3) (.int .i64))) y2 (Int.toNat y1)).1,(at_ (.pair .str (.sl (nat_lit 3) (.int .i64))) y2 (Int.toNat y1)).2)] ≤ nat_lit 9223372036854775807)) (.br (true) (.go ((y0,IntKind.i64.wrap (y1 + 1),y7 ++ [((at_ (.pair .str (.sl (nat_lit 3) (.int .i64))) y2 (Int.toNat y1)).1,(at_ (.pair .str (.sl (nat_lit 3) (.int .i64))) y2 (Int.toNat y1)).2)]))) .bad) .bad) (.br (!y4) (.br (decide ((nat_lit 0 + List.length y5) * nat_lit 8 ≤ nat_lit 140737488355328 ∧ nat_lit 0 + List.length y5 ≤ nat_lit 9223372036854775807)) (.br (decide ((List.length y7 + List.length [(y3,[] ++ y5)]) * nat_lit 40 ≤ nat_lit 140737488355328 ∧ List.length y7 + List.length [(y3,[] ++ y5)] ≤ nat_lit 9223372036854775807)) (.br (true) (.go ((true,IntKind.i64.wrap (y1 + 1),y7 ++ [(y3,[] ++ y5)]))) .bad) .bad) .bad) (.br (true) (.go ((y0,IntKind.i64.wrap (y1 + 1),y7))) .bad))) .bad)) .bad) (.out ((y0,y7)))) .bad
def g_Ls_l1Write_0 (y2:tS) (y3:ByteArray) (y4:Bool) (y5:List Int) (y6:tS) (x:Bool×Int×tS):Option ((Bool×tS)) := loopO (g_Ss_l1Write_0 y2 y3 y4 y5 y6) x
def xs_l1Write_0 (y2:tS) (y3:ByteArray) (y4:Bool) (y5:List Int) (y6:tS):((Bool×tS)) → Ex×List (Pl×LV) := fun r => (.exit 0,[(.T 3,.t (.val false [.ptr 3 0 0])),(.T 4,.t (.val false [.ptr 4 0 0])),(.T 5,.t (.val false [.ptr 5 0 0])),(.T 6,.t (.val false [.bool r.1])),(.B 3,.b 0 false [.str y3,.bool y4,.sl .any 3 (.int .i64) y5]),(.B 4,.b 0 false [.row 4 1 0]),(.R 4 1,.r 0 (some ⟨false,.any,true,49,(.pair .str (.sl 3 (.int .i64))),y6⟩)),(.B 5,.b 0 false [.row 5 1 0]),(.R 5 1,.r 0 (some ⟨false,.any,false,49,(.pair .str (.sl 3 (.int .i64))),r.2⟩))])
def Os_l1Write_1:Orc := fun b h => match b,h with
 | 0,[(.T 2,.t (.val false [.ptr 2 0 0])),(.T 3,.t (.val false [.ptr 3 0 0])),(.T 4,.t (.val false [.ptr 4 0 0])),(.T 5,.t (.val false [.ptr 5 0 0])),(.T 6,.t (.val false [.bool y0])),(.T 7,.t (.val false [.int .i64 y1])),(.B 2,.b 0 false [.sl .any 49 (.pair .str (.sl 3 (.int .i64))) y2]),(.B 3,.b 0 false [.str y3,.bool y4,.sl .any 3 (.int .i64) y5]),(.B 4,.b 0 false [.row 4 1 0]),(.R 4 1,.r 0 (some ⟨false,.any,true,49,(.pair .str (.sl 3 (.int .i64))),y6⟩)),(.B 5,.b 0 false [.row 5 1 0]),(.R 5 1,.r 0 (some ⟨false,.any,false,49,(.pair .str (.sl 3 (.int .i64))),y7⟩))] => some (okO (g_Ls_l1Write_0 y2 y3 y4 y5 y6 (y0,y1,y7)),(.leaf (.exit 0) [(.T 3,.t (.val false [.ptr 3 0 0])),(.T 4,.t (.val false [.ptr 4 0 0])),(.T 5,.t (.val false [.ptr 5 0 0])),(.T 6,.t (.val false [.bool (valO (g_Ls_l1Write_0 y2 y3 y4 y5 y6 (y0,y1,y7))).1])),(.B 3,.b 0 false [.str y3,.bool y4,.sl .any 3 (.int .i64) y5]),(.B 4,.b 0 false [.row 4 1 0]),(.R 4 1,.r 0 (some ⟨false,.any,true,49,(.pair .str (.sl 3 (.int .i64))),y6⟩)),(.B 5,.b 0 false [.row 5 1 0]),(.R 5 1,.r 0 (some ⟨false,.any,false,49,(.pair .str (.sl 3 (.int .i64))),(valO (g_Ls_l1Write_0 y2 y3 y4 y5 y6 (y0,y1,y7))).2⟩))]))
 | b,h => Os_l1Write_0 b h
theorem bs_l1Write_0 (y0:Bool) (y1:Int) (y2:tS) (y3:ByteArray) (y4:Bool) (y5:List Int) (y6:tS) (y7:tS):Tr.bt Es_l1Write Os_l1Write_0 (exec Es_l1Write 0 cs_l1Write_0 (St.of (hs_l1Write_0 y0 y1 y2 y3 y4 y5 y6 y7)) (leafRd Es_l1Write 0)) = (g_Ss_l1Write_0 y2 y3 y4 y5 y6 (y0,y1,y7)).bt (fun ((y0,y1,y7):Bool×Int×tS) => (hs_l1Write_0 y0 y1 y2 y3 y4 y5 y6 y7)) (xs_l1Write_0 y2 y3 y4 y5 y6) := by kernel_rfl
theorem ks_l1Write_1:OrcOk Es_l1Write Os_l1Write_1 lss_l1Write 1 := orc_add ks_l1Write_0 (fun n p hp h ex h' ho => by
 obtain ⟨b,c⟩ := p
 obtain ⟨xt,h1,h2⟩ := ho
 have h1:Os_l1Write_1 b h = some (true,xt) := h1
 unfold Os_l1Write_1 at h1
 split at h1
 ·injection h1 with h1
  injection h1 with e1 e2
  subst e2
  have hc:c = cs_l1Write_0 := ms_l1Write_0 _ hp rfl
  subst hc
  right
  rename_i y0 y1 y2 y3 y4 y5 y6 y7
  have key := LT_step ks_l1Write_0 hp (fun q hq => loopsAll_in _ _ _ _ hp hq) (fun ((y0,y1,y7):Bool×Int×tS) => (hs_l1Write_0 y0 y1 y2 y3 y4 y5 y6 y7)) (xs_l1Write_0 y2 y3 y4 y5 y6) (g_Ss_l1Write_0 y2 y3 y4 y5 y6) (fun x => by first | exact bs_l1Write_0 x.1 x.2.1 y2 y3 y4 y5 y6 x.2.2) n (x := (y0,y1,y7)) (okO_some e1)
  have hx:∀ r,XT.sel (.leaf (.exit 0) [(.T 3,.t (.val false [.ptr 3 0 0])),(.T 4,.t (.val false [.ptr 4 0 0])),(.T 5,.t (.val false [.ptr 5 0 0])),(.T 6,.t (.val false [.bool r.1])),(.B 3,.b 0 false [.str y3,.bool y4,.sl .any 3 (.int .i64) y5]),(.B 4,.b 0 false [.row 4 1 0]),(.R 4 1,.r 0 (some ⟨false,.any,true,49,(.pair .str (.sl 3 (.int .i64))),y6⟩)),(.B 5,.b 0 false [.row 5 1 0]),(.R 5 1,.r 0 (some ⟨false,.any,false,49,(.pair .str (.sl 3 (.int .i64))),r.2⟩))]) = xs_l1Write_0 y2 y3 y4 y5 y6 r := fun r => by first | rfl | rcases r with r | r <;> rfl | rcases r with r | r | r <;> rfl | rcases r with r | r | r | r <;> rfl
  have h3 := (hx (valO (g_Ls_l1Write_0 y2 y3 y4 y5 y6 (y0,y1,y7)))).symm.trans h2
  have e3 := congrArg Prod.fst h3
  have e4 := congrArg Prod.snd h3
  simp only at e3 e4
  rw [← e3,← e4]
  exact key
 ·exact .inl ⟨xt,h1,h2⟩)
def g_As_l1Write (a0:tS) (a1:ByteArray) (a2:Bool) (a3:List Int):Bool := okO (g_Ls_l1Write_0 a0 a1 a2 a3 [] (a2,(0:Int),[]))&&(!!(valO (g_Ls_l1Write_0 a0 a1 a2 a3 [] (a2,(0:Int),[]))).1 || decide ((nat_lit 0 + List.length a3) * nat_lit 8 ≤ nat_lit 140737488355328 ∧ nat_lit 0 + List.length a3 ≤ nat_lit 9223372036854775807)&&decide ((List.length (valO (g_Ls_l1Write_0 a0 a1 a2 a3 [] (a2,(0:Int),[]))).2 + List.length [(a1,[] ++ a3)]) * nat_lit 40 ≤ nat_lit 140737488355328 ∧ List.length (valO (g_Ls_l1Write_0 a0 a1 a2 a3 [] (a2,(0:Int),[]))).2 + List.length [(a1,[] ++ a3)] ≤ nat_lit 9223372036854775807))
def g_Vs_l1Write_0 (a0:tS) (a1:ByteArray) (a2:Bool) (a3:List Int):tS := bif !(valO (g_Ls_l1Write_0 a0 a1 a2 a3 [] (a2,(0:Int),[]))).1 then (valO (g_Ls_l1Write_0 a0 a1 a2 a3 [] (a2,(0:Int),[]))).2 ++ [(a1,[] ++ a3)] else (valO (g_Ls_l1Write_0 a0 a1 a2 a3 [] (a2,(0:Int),[]))).2
def Fs_l1Write:FSem := fun ys => match ys with
 | [.val true [.sl .any 49 (.pair .str (.sl 3 (.int .i64))) a0],.val true [.str a1,.bool a2,.sl .any 3 (.int .i64) a3]] => some ((g_As_l1Write a0 a1 a2 a3),.val true [.own .any false 49 (.pair .str (.sl 3 (.int .i64))) (g_Vs_l1Write_0 a0 a1 a2 a3)],[])
 | _ => none
theorem vs_l1Write (a0:tS) (a1:ByteArray) (a2:Bool) (a3:List Int):collapseH .std Es_l1Write Os_l1Write_1 (execFn Es_l1Write Tryz.f114 mss_l1Write [.val true [.sl .any 49 (.pair .str (.sl 3 (.int .i64))) a0],.val true [.str a1,.bool a2,.sl .any 3 (.int .i64) a3]]) = some ((g_As_l1Write a0 a1 a2 a3),.val true [.own .any false 49 (.pair .str (.sl 3 (.int .i64))) (g_Vs_l1Write_0 a0 a1 a2 a3)],[]) := by kernel_rfl
theorem ss_l1Write:Sound Tryz.prog 114 mss_l1Write Fs_l1Write := by
 refine fn_gen goods_l1Write (by kernel_rfl) .std (fn := Tryz.f114) (c := (Tryz.f114.body.getD .skip)) (o := Os_l1Write_1) (k := 1) (by kernel_rfl) (by kernel_rfl) (by kernel_rfl) (by kernel_rfl) (by decide) ks_l1Write_1 ?_
 intro ys r outs h
 unfold Fs_l1Write at h
 split at h
 ·exact (vs_l1Write _ _ _ _).trans h
 ·cases h
def Es_StoDo:Env where
 tt := mkTI Tryz.prog
 fn := fun f => match f with
  | 102 => some (mss_StoOk,FSem.wk mss_StoOk Fs_StoOk)
  | 112 => some (mss_l1Copy,FSem.wk mss_l1Copy Fs_l1Copy)
  | 113 => some (mss_WrtOk,FSem.wk mss_WrtOk Fs_WrtOk)
  | 114 => some (mss_l1Write,FSem.wk mss_l1Write Fs_l1Write)
  | _ => none
 bxf := fun _ => none
 mv := []
 keep := fun b => match b with
  | 0 => [(1,false),(4,false),(5,true),(6,false)]
  | _ => []
 keepB := fun b => match b with
  | 0 => [(4,false),(5,true)]
  | _ => []
 keepX := fun b => match b with
  | 0 => [(4,false),(5,true)]
  | _ => []
 keepXB := fun b => match b with
  | 0 => [(4,false),(5,true)]
  | _ => []
theorem goodFs_StoDo:∀ f ms F,Es_StoDo.fn f = some (ms,F) → Sound Tryz.prog f ms F := fun f ms F h => by
 unfold Es_StoDo at h
 dsimp only at h
 split at h
 ·exact gF ss_StoOk h
 ·exact gF ss_l1Copy h
 ·exact gF ss_WrtOk h
 ·exact gF ss_l1Write h
 ·cases h
theorem goods_StoDo:Good Tryz.prog Es_StoDo := ⟨rfl,goodFs_StoDo,fun f ms F h => by cases h⟩
def Os_StoDo_0:Orc := fun _ _ => none
def mss_StoDo:List PM := [.rd,.rd]
def lss_StoDo:List (Nat×Code) := loopsAll 0 (Tryz.f67.body.getD .skip)
def cs_StoDo_0:Code := (loopOf 0 (Tryz.f67.body.getD .skip)).getD .skip
theorem lseqs_StoDo:lss_StoDo = [(0,cs_StoDo_0)] := by kernel_rfl
theorem ms_StoDo_0:∀ p,p ∈ lss_StoDo → p.1 = 0 → p.2 = cs_StoDo_0 := by
 intro p hp
 rw [lseqs_StoDo] at hp
 simp only [List.mem_cons,List.not_mem_nil,or_false] at hp
 subst hp; simp
theorem ks_StoDo_0:OrcOk Es_StoDo Os_StoDo_0 lss_StoDo 0 := orcOk_none
def hs_StoDo_0 (y0:tW) (y1:Int) (y2:tS) (y3:tS):List (Pl×LV) := [(.T 1,.t (.val false [.sl .any 39 (.pair .str (.pair .bool (.sl 3 (.int .i64)))) y0])),(.T 4,.t (.val false [.ptr 4 0 0])),(.T 5,.t (.val false [.ptr 5 0 0])),(.T 6,.t (.val false [.int .i64 y1])),(.B 4,.b 0 false [.row 4 1 0]),(.R 4 1,.r 0 (some ⟨false,.any,true,49,(.pair .str (.sl 3 (.int .i64))),y2⟩)),(.B 5,.b 0 false [.row 5 1 0]),(.R 5 1,.r 0 (some ⟨false,.any,false,49,(.pair .str (.sl 3 (.int .i64))),y3⟩))]
def g_Ss_StoDo_0 (y0:tW) (y2:tS):(Int×tS) → RT (Int×tS) ((tS×tS) ⊕ (tS))
 | (y1,y3) => .br (true) (.br (decide (y1 < (y0.length:Int))) (.br (decide (0 ≤ y1 ∧ y1 < (y0.length:Int))) (.br (g_As_WrtOk (at_ (.pair .str (.pair .bool (.sl (nat_lit 3) (.int .i64)))) y0 (Int.toNat y1)).1 (at_ (.pair .str (.pair .bool (.sl (nat_lit 3) (.int .i64)))) y0 (Int.toNat y1)).2.1 (at_ (.pair .str (.pair .bool (.sl (nat_lit 3) (.int .i64)))) y0 (Int.toNat y1)).2.2) (.br (!g_Vs_WrtOk_0 (at_ (.pair .str (.pair .bool (.sl (nat_lit 3) (.int .i64)))) y0 (Int.toNat y1)).1 (at_ (.pair .str (.pair .bool (.sl (nat_lit 3) (.int .i64)))) y0 (Int.toNat y1)).2.1 (at_ (.pair .str (.pair .bool (.sl (nat_lit 3) (.int .i64)))) y0 (Int.toNat y1)).2.2) (.out (.inl (([],y3)))) (.br (decide (0 ≤ y1 ∧ y1 < (y0.length:Int))) (.br (g_As_l1Write y3 (at_ (.pair .str (.pair .bool (.sl (nat_lit 3) (.int .i64)))) y0 (Int.toNat y1)).1 (at_ (.pair .str (.pair .bool (.sl (nat_lit 3) (.int .i64)))) y0 (Int.toNat y1)).2.1 (at_ (.pair .str (.pair .bool (.sl (nat_lit 3) (.int .i64)))) y0 (Int.toNat y1)).2.2) (.br (true) (.br (decide ((↑(List.length (g_Vs_l1Write_0 y3 (at_ (.pair .str (.pair .bool (.sl (nat_lit 3) (.int .i64)))) y0 (Int.toNat y1)).1 (at_ (.pair .str (.pair .bool (.sl (nat_lit 3) (.int .i64)))) y0 (Int.toNat y1)).2.1 (at_ (.pair .str (.pair .bool (.sl (nat_lit 3) (.int .i64)))) y0 (Int.toNat y1)).2.2)):Int) > 40)) (.out (.inl (([],g_Vs_l1Write_0 y3 (at_ (.pair .str (.pair .bool (.sl (nat_lit 3) (.int .i64)))) y0 (Int.toNat y1)).1 (at_ (.pair .str (.pair .bool (.sl (nat_lit 3) (.int .i64)))) y0 (Int.toNat y1)).2.1 (at_ (.pair .str (.pair .bool (.sl (nat_lit 3) (.int .i64)))) y0 (Int.toNat y1)).2.2)))) (.br (true) (.go ((IntKind.i64.wrap (y1 + 1),g_Vs_l1Write_0 y3 (at_ (.pair .str (.pair .bool (.sl (nat_lit 3) (.int .i64)))) y0 (Int.toNat y1)).1 (at_ (.pair .str (.pair .bool (.sl (nat_lit 3) (.int .i64)))) y0 (Int.toNat y1)).2.1 (at_ (.pair .str (.pair .bool (.sl (nat_lit 3) (.int .i64)))) y0 (Int.toNat y1)).2.2))) .bad)) .bad) .bad) .bad)) .bad) .bad) (.out (.inr (y3)))) .bad
def g_Ls_StoDo_0 (y0:tW) (y2:tS) (x:Int×tS):Option ((tS×tS) ⊕ (tS)) := loopO (g_Ss_StoDo_0 y0 y2) x
def xs_StoDo_0 (y0:tW) (y2:tS):((tS×tS) ⊕ (tS)) → Ex×List (Pl×LV) := fun
 | .inl r => (.ret,[(.T 4,.t (.val false [.ptr 4 0 0])),(.T 5,.t (.val false [.ptr 5 0 0])),(.B 4,.b 0 false [.row 4 1 0]),(.R 4 1,.r 0 (some ⟨false,.any,true,49,(.pair .str (.sl 3 (.int .i64))),r.1⟩)),(.B 5,.b 0 false [.row 5 1 0]),(.R 5 1,.r 0 (some ⟨false,.any,false,49,(.pair .str (.sl 3 (.int .i64))),r.2⟩))])
 | .inr (r) => (.exit 0,[(.T 4,.t (.val false [.ptr 4 0 0])),(.T 5,.t (.val false [.ptr 5 0 0])),(.B 4,.b 0 false [.row 4 1 0]),(.R 4 1,.r 0 (some ⟨false,.any,true,49,(.pair .str (.sl 3 (.int .i64))),y2⟩)),(.B 5,.b 0 false [.row 5 1 0]),(.R 5 1,.r 0 (some ⟨false,.any,false,49,(.pair .str (.sl 3 (.int .i64))),r⟩))])
def Os_StoDo_1:Orc := fun b h => match b,h with
 | 0,[(.T 1,.t (.val false [.sl .any 39 (.pair .str (.pair .bool (.sl 3 (.int .i64)))) y0])),(.T 4,.t (.val false [.ptr 4 0 0])),(.T 5,.t (.val false [.ptr 5 0 0])),(.T 6,.t (.val false [.int .i64 y1])),(.B 4,.b 0 false [.row 4 1 0]),(.R 4 1,.r 0 (some ⟨false,.any,true,49,(.pair .str (.sl 3 (.int .i64))),y2⟩)),(.B 5,.b 0 false [.row 5 1 0]),(.R 5 1,.r 0 (some ⟨false,.any,false,49,(.pair .str (.sl 3 (.int .i64))),y3⟩))] => some (okO (g_Ls_StoDo_0 y0 y2 (y1,y3)),(.br (isL (valO (g_Ls_StoDo_0 y0 y2 (y1,y3)))) (.leaf .ret [(.T 4,.t (.val false [.ptr 4 0 0])),(.T 5,.t (.val false [.ptr 5 0 0])),(.B 4,.b 0 false [.row 4 1 0]),(.R 4 1,.r 0 (some ⟨false,.any,true,49,(.pair .str (.sl 3 (.int .i64))),(getL (valO (g_Ls_StoDo_0 y0 y2 (y1,y3)))).1⟩)),(.B 5,.b 0 false [.row 5 1 0]),(.R 5 1,.r 0 (some ⟨false,.any,false,49,(.pair .str (.sl 3 (.int .i64))),(getL (valO (g_Ls_StoDo_0 y0 y2 (y1,y3)))).2⟩))]) (.leaf (.exit 0) [(.T 4,.t (.val false [.ptr 4 0 0])),(.T 5,.t (.val false [.ptr 5 0 0])),(.B 4,.b 0 false [.row 4 1 0]),(.R 4 1,.r 0 (some ⟨false,.any,true,49,(.pair .str (.sl 3 (.int .i64))),y2⟩)),(.B 5,.b 0 false [.row 5 1 0]),(.R 5 1,.r 0 (some ⟨false,.any,false,49,(.pair .str (.sl 3 (.int .i64))),(getR (valO (g_Ls_StoDo_0 y0 y2 (y1,y3))))⟩))])))
 | b,h => Os_StoDo_0 b h
theorem bs_StoDo_0 (y0:tW) (y1:Int) (y2:tS) (y3:tS):Tr.bt Es_StoDo Os_StoDo_0 (exec Es_StoDo 0 cs_StoDo_0 (St.of (hs_StoDo_0 y0 y1 y2 y3)) (leafRd Es_StoDo 0)) = (g_Ss_StoDo_0 y0 y2 (y1,y3)).bt (fun ((y1,y3):Int×tS) => (hs_StoDo_0 y0 y1 y2 y3)) (xs_StoDo_0 y0 y2) := by kernel_rfl
theorem ks_StoDo_1:OrcOk Es_StoDo Os_StoDo_1 lss_StoDo 1 := orc_add ks_StoDo_0 (fun n p hp h ex h' ho => by
 obtain ⟨b,c⟩ := p
 obtain ⟨xt,h1,h2⟩ := ho
 have h1:Os_StoDo_1 b h = some (true,xt) := h1
 unfold Os_StoDo_1 at h1
 split at h1
 ·injection h1 with h1
  injection h1 with e1 e2
  subst e2
  have hc:c = cs_StoDo_0 := ms_StoDo_0 _ hp rfl
  subst hc
  right
  rename_i y0 y1 y2 y3
  have key := LT_step ks_StoDo_0 hp (fun q hq => loopsAll_in _ _ _ _ hp hq) (fun ((y1,y3):Int×tS) => (hs_StoDo_0 y0 y1 y2 y3)) (xs_StoDo_0 y0 y2) (g_Ss_StoDo_0 y0 y2) (fun x => by first | exact bs_StoDo_0 y0 x.1 y2 x.2) n (x := (y1,y3)) (okO_some e1)
  have hx:∀ r,XT.sel (.br (isL r) (.leaf .ret [(.T 4,.t (.val false [.ptr 4 0 0])),(.T 5,.t (.val false [.ptr 5 0 0])),(.B 4,.b 0 false [.row 4 1 0]),(.R 4 1,.r 0 (some ⟨false,.any,true,49,(.pair .str (.sl 3 (.int .i64))),(getL r).1⟩)),(.B 5,.b 0 false [.row 5 1 0]),(.R 5 1,.r 0 (some ⟨false,.any,false,49,(.pair .str (.sl 3 (.int .i64))),(getL r).2⟩))]) (.leaf (.exit 0) [(.T 4,.t (.val false [.ptr 4 0 0])),(.T 5,.t (.val false [.ptr 5 0 0])),(.B 4,.b 0 false [.row 4 1 0]),(.R 4 1,.r 0 (some ⟨false,.any,true,49,(.pair .str (.sl 3 (.int .i64))),y2⟩)),(.B 5,.b 0 false [.row 5 1 0]),(.R 5 1,.r 0 (some ⟨false,.any,false,49,(.pair .str (.sl 3 (.int .i64))),(getR r)⟩))])) = xs_StoDo_0 y0 y2 r := fun r => by first | rfl | rcases r with r | r <;> rfl | rcases r with r | r | r <;> rfl | rcases r with r | r | r | r <;> rfl
  have h3 := (hx (valO (g_Ls_StoDo_0 y0 y2 (y1,y3)))).symm.trans h2
  have e3 := congrArg Prod.fst h3
  have e4 := congrArg Prod.snd h3
  simp only at e3 e4
  rw [← e3,← e4]
  exact key
 ·exact .inl ⟨xt,h1,h2⟩)
def g_As_StoDo (a0:tS) (a1:tW):Bool := g_As_StoOk a0&&(!g_Vs_StoOk_0 a0 || g_As_l1Copy a0&&(okO (g_Ls_StoDo_0 a1 [] ((0:Int),g_Vs_l1Copy_0 a0))&&(isL (valO (g_Ls_StoDo_0 a1 [] ((0:Int),g_Vs_l1Copy_0 a0))) || g_As_l1Copy (getR (valO (g_Ls_StoDo_0 a1 [] ((0:Int),g_Vs_l1Copy_0 a0)))))))
def g_Vs_StoDo_0 (a0:tS) (a1:tW):tS := bif !g_Vs_StoOk_0 a0 then [] else bif isL (valO (g_Ls_StoDo_0 a1 [] ((0:Int),g_Vs_l1Copy_0 a0))) then (getL (valO (g_Ls_StoDo_0 a1 [] ((0:Int),g_Vs_l1Copy_0 a0)))).1 else g_Vs_l1Copy_0 (getR (valO (g_Ls_StoDo_0 a1 [] ((0:Int),g_Vs_l1Copy_0 a0))))
def Fs_StoDo:FSem := fun ys => match ys with
 | [.val true [.sl .any 49 (.pair .str (.sl 3 (.int .i64))) a0],.val false [.sl .any 39 (.pair .str (.pair .bool (.sl 3 (.int .i64)))) a1]] => some ((g_As_StoDo a0 a1),.val true [.own .any true 49 (.pair .str (.sl 3 (.int .i64))) (g_Vs_StoDo_0 a0 a1)],[])
 | _ => none
theorem vs_StoDo (a0:tS) (a1:tW):collapseH .std Es_StoDo Os_StoDo_1 (execFn Es_StoDo Tryz.f67 mss_StoDo [.val true [.sl .any 49 (.pair .str (.sl 3 (.int .i64))) a0],.val false [.sl .any 39 (.pair .str (.pair .bool (.sl 3 (.int .i64)))) a1]]) = some ((g_As_StoDo a0 a1),.val true [.own .any true 49 (.pair .str (.sl 3 (.int .i64))) (g_Vs_StoDo_0 a0 a1)],[]) := by kernel_rfl
theorem ss_StoDo:Sound Tryz.prog 67 mss_StoDo Fs_StoDo := by
 refine fn_gen goods_StoDo (by kernel_rfl) .std (fn := Tryz.f67) (c := (Tryz.f67.body.getD .skip)) (o := Os_StoDo_1) (k := 1) (by kernel_rfl) (by kernel_rfl) (by kernel_rfl) (by kernel_rfl) (by decide) ks_StoDo_1 ?_
 intro ys r outs h
 unfold Fs_StoDo at h
 split at h
 ·exact (vs_StoDo _ _).trans h
 ·cases h
def Es_l1Get:Env where
 tt := mkTI Tryz.prog
 fn := fun _ => none
 bxf := fun _ => none
 mv := []
 keep := fun b => match b with
  | 0 => [(1,false),(2,false),(6,false)]
  | _ => []
 keepB := fun b => match b with
  | 0 => [(2,false)]
  | _ => []
 keepX := fun b => match b with
  | 0 => [(4,false),(5,false)]
  | _ => []
 keepXB := fun b => match b with
  | 0 => []
  | _ => []
theorem goodFs_l1Get:∀ f ms F,Es_l1Get.fn f = some (ms,F) → Sound Tryz.prog f ms F := fun f ms F h => by cases h
theorem goods_l1Get:Good Tryz.prog Es_l1Get := ⟨rfl,goodFs_l1Get,fun f ms F h => by cases h⟩
def Os_l1Get_0:Orc := fun _ _ => none
def mss_l1Get:List PM := [.rd,.own]
def lss_l1Get:List (Nat×Code) := loopsAll 0 (Tryz.f107.body.getD .skip)
def cs_l1Get_0:Code := (loopOf 0 (Tryz.f107.body.getD .skip)).getD .skip
theorem lseqs_l1Get:lss_l1Get = [(0,cs_l1Get_0)] := by kernel_rfl
theorem ms_l1Get_0:∀ p,p ∈ lss_l1Get → p.1 = 0 → p.2 = cs_l1Get_0 := by
 intro p hp
 rw [lseqs_l1Get] at hp
 simp only [List.mem_cons,List.not_mem_nil,or_false] at hp
 subst hp; simp
theorem ks_l1Get_0:OrcOk Es_l1Get Os_l1Get_0 lss_l1Get 0 := orcOk_none
def hs_l1Get_0 (y0:ByteArray) (y1:Int) (y2:tS):List (Pl×LV) := [(.T 1,.t (.val false [.str y0])),(.T 2,.t (.val false [.ptr 2 0 0])),(.T 6,.t (.val false [.int .i64 y1])),(.B 2,.b 0 false [.sl .any 49 (.pair .str (.sl 3 (.int .i64))) y2])]
def g_Ss_l1Get_0 (y0:ByteArray) (y2:tS):(Int) → RT (Int) (((List Int)×Bool) ⊕ (Unit))
 | y1 => .br (true) (.br (decide (y1 < (y2.length:Int))) (.br (decide (0 ≤ y1 ∧ y1 < (y2.length:Int))) (.br (true) (.br (ByteArray.toList (at_ (.pair .str (.sl (nat_lit 3) (.int .i64))) y2 (Int.toNat y1)).1 == ByteArray.toList y0) (.br (decide (0 ≤ y1 ∧ y1 < (y2.length:Int))) (.br (decide ((nat_lit 0 + List.length (at_ (.pair .str (.sl (nat_lit 3) (.int .i64))) y2 (Int.toNat y1)).2) * nat_lit 8 ≤ nat_lit 140737488355328 ∧ nat_lit 0 + List.length (at_ (.pair .str (.sl (nat_lit 3) (.int .i64))) y2 (Int.toNat y1)).2 ≤ nat_lit 9223372036854775807)) (.out (.inl (([] ++ (at_ (.pair .str (.sl (nat_lit 3) (.int .i64))) y2 (Int.toNat y1)).2,true)))) .bad) .bad) (.br (true) (.go (IntKind.i64.wrap (y1 + 1))) .bad)) .bad) .bad) (.out (.inr (())))) .bad
def g_Ls_l1Get_0 (y0:ByteArray) (y2:tS) (x:Int):Option (((List Int)×Bool) ⊕ (Unit)) := loopO (g_Ss_l1Get_0 y0 y2) x
def xs_l1Get_0 (y0:ByteArray) (y2:tS):(((List Int)×Bool) ⊕ (Unit)) → Ex×List (Pl×LV) := fun
 | .inl r => (.ret,[(.T 4,.t (.val false [.row 4 0 0])),(.R 4 0,.r 0 (some ⟨false,.non,true,3,(.int .i64),r.1⟩)),(.T 5,.t (.val false [.bool r.2]))])
 | .inr (r) => (.exit 0,[(.T 4,.t (.val false [.undef])),(.T 5,.t (.val false [.undef]))])
def Os_l1Get_1:Orc := fun b h => match b,h with
 | 0,[(.T 1,.t (.val false [.str y0])),(.T 2,.t (.val false [.ptr 2 0 0])),(.T 6,.t (.val false [.int .i64 y1])),(.B 2,.b 0 false [.sl .any 49 (.pair .str (.sl 3 (.int .i64))) y2])] => some (okO (g_Ls_l1Get_0 y0 y2 y1),(.br (isL (valO (g_Ls_l1Get_0 y0 y2 y1))) (.leaf .ret [(.T 4,.t (.val false [.row 4 0 0])),(.R 4 0,.r 0 (some ⟨false,.non,true,3,(.int .i64),(getL (valO (g_Ls_l1Get_0 y0 y2 y1))).1⟩)),(.T 5,.t (.val false [.bool (getL (valO (g_Ls_l1Get_0 y0 y2 y1))).2]))]) (.leaf (.exit 0) [(.T 4,.t (.val false [.undef])),(.T 5,.t (.val false [.undef]))])))
 | b,h => Os_l1Get_0 b h
theorem bs_l1Get_0 (y0:ByteArray) (y1:Int) (y2:tS):Tr.bt Es_l1Get Os_l1Get_0 (exec Es_l1Get 0 cs_l1Get_0 (St.of (hs_l1Get_0 y0 y1 y2)) (leafRd Es_l1Get 0)) = (g_Ss_l1Get_0 y0 y2 y1).bt (fun (y1:Int) => (hs_l1Get_0 y0 y1 y2)) (xs_l1Get_0 y0 y2) := by kernel_rfl
theorem ks_l1Get_1:OrcOk Es_l1Get Os_l1Get_1 lss_l1Get 1 := orc_add ks_l1Get_0 (fun n p hp h ex h' ho => by
 obtain ⟨b,c⟩ := p
 obtain ⟨xt,h1,h2⟩ := ho
 have h1:Os_l1Get_1 b h = some (true,xt) := h1
 unfold Os_l1Get_1 at h1
 split at h1
 ·injection h1 with h1
  injection h1 with e1 e2
  subst e2
  have hc:c = cs_l1Get_0 := ms_l1Get_0 _ hp rfl
  subst hc
  right
  rename_i y0 y1 y2
  have key := LT_step ks_l1Get_0 hp (fun q hq => loopsAll_in _ _ _ _ hp hq) (fun (y1:Int) => (hs_l1Get_0 y0 y1 y2)) (xs_l1Get_0 y0 y2) (g_Ss_l1Get_0 y0 y2) (fun x => by first | exact bs_l1Get_0 y0 x y2) n (x := y1) (okO_some e1)
  have hx:∀ r,XT.sel (.br (isL r) (.leaf .ret [(.T 4,.t (.val false [.row 4 0 0])),(.R 4 0,.r 0 (some ⟨false,.non,true,3,(.int .i64),(getL r).1⟩)),(.T 5,.t (.val false [.bool (getL r).2]))]) (.leaf (.exit 0) [(.T 4,.t (.val false [.undef])),(.T 5,.t (.val false [.undef]))])) = xs_l1Get_0 y0 y2 r := fun r => by first | rfl | rcases r with r | r <;> rfl | rcases r with r | r | r <;> rfl | rcases r with r | r | r | r <;> rfl
  have h3 := (hx (valO (g_Ls_l1Get_0 y0 y2 y1))).symm.trans h2
  have e3 := congrArg Prod.fst h3
  have e4 := congrArg Prod.snd h3
  simp only at e3 e4
  rw [← e3,← e4]
  exact key
 ·exact .inl ⟨xt,h1,h2⟩)
def g_As_l1Get (a0:tS) (a1:ByteArray):Bool := okO (g_Ls_l1Get_0 a1 a0 (0:Int))
def g_Vs_l1Get_0 (a0:tS) (a1:ByteArray):List Int := bif isL (valO (g_Ls_l1Get_0 a1 a0 (0:Int))) then (getL (valO (g_Ls_l1Get_0 a1 a0 (0:Int)))).1 else []
def g_Vs_l1Get_1 (a0:tS) (a1:ByteArray):Bool := bif isL (valO (g_Ls_l1Get_0 a1 a0 (0:Int))) then (getL (valO (g_Ls_l1Get_0 a1 a0 (0:Int)))).2 else false
def Fs_l1Get:FSem := fun ys => match ys with
 | [.val true [.sl .any 49 (.pair .str (.sl 3 (.int .i64))) a0],.val false [.str a1]] => some ((g_As_l1Get a0 a1),.tup [(false,[.own .any true 3 (.int .i64) (g_Vs_l1Get_0 a0 a1)]),(false,[.bool (g_Vs_l1Get_1 a0 a1)])],[])
 | _ => none
theorem vs_l1Get (a0:tS) (a1:ByteArray):collapseH .std Es_l1Get Os_l1Get_1 (execFn Es_l1Get Tryz.f107 mss_l1Get [.val true [.sl .any 49 (.pair .str (.sl 3 (.int .i64))) a0],.val false [.str a1]]) = some ((g_As_l1Get a0 a1),.tup [(false,[.own .any true 3 (.int .i64) (g_Vs_l1Get_0 a0 a1)]),(false,[.bool (g_Vs_l1Get_1 a0 a1)])],[]) := by kernel_rfl
theorem ss_l1Get:Sound Tryz.prog 107 mss_l1Get Fs_l1Get := by
 refine fn_gen goods_l1Get (by kernel_rfl) .std (fn := Tryz.f107) (c := (Tryz.f107.body.getD .skip)) (o := Os_l1Get_1) (k := 1) (by kernel_rfl) (by kernel_rfl) (by kernel_rfl) (by kernel_rfl) (by decide) ks_l1Get_1 ?_
 intro ys r outs h
 unfold Fs_l1Get at h
 split at h
 ·exact (vs_l1Get _ _).trans h
 ·cases h
def Es_l3Digit:Env where
 tt := mkTI Tryz.prog
 fn := fun _ => none
 bxf := fun _ => none
 mv := []
 keep := fun _ => []
 keepB := fun _ => []
 keepX := fun _ => []
 keepXB := fun _ => []
theorem goodFs_l3Digit:∀ f ms F,Es_l3Digit.fn f = some (ms,F) → Sound Tryz.prog f ms F := fun f ms F h => by cases h
theorem goods_l3Digit:Good Tryz.prog Es_l3Digit := ⟨rfl,goodFs_l3Digit,fun f ms F h => by cases h⟩
def Os_l3Digit_0:Orc := fun _ _ => none
def mss_l3Digit:List PM := [.own]
def lss_l3Digit:List (Nat×Code) := loopsAll 0 (Tryz.f147.body.getD .skip)
theorem ks_l3Digit_0:OrcOk Es_l3Digit Os_l3Digit_0 lss_l3Digit 0 := orcOk_none
def g_Vs_l3Digit_0 (a0:Int):ByteArray := { data := List.toArray (List.map (fun n => UInt8.ofNat (Int.toNat n)) [IntKind.wrap IntKind.u8 (IntKind.i64.wrap (48 + a0))]) }
def Fs_l3Digit:FSem := fun ys => match ys with
 | [.val false [.int .i64 a0]] => some (true,.val false [.str (g_Vs_l3Digit_0 a0)],[])
 | _ => none
theorem vs_l3Digit (a0:Int):collapseH .std Es_l3Digit Os_l3Digit_0 (execFn Es_l3Digit Tryz.f147 mss_l3Digit [.val false [.int .i64 a0]]) = some (true,.val false [.str (g_Vs_l3Digit_0 a0)],[]) := by kernel_rfl
theorem ss_l3Digit:Sound Tryz.prog 147 mss_l3Digit Fs_l3Digit := by
 refine fn_gen goods_l3Digit (by kernel_rfl) .std (fn := Tryz.f147) (c := (Tryz.f147.body.getD .skip)) (o := Os_l3Digit_0) (k := 0) (by kernel_rfl) (by kernel_rfl) (by kernel_rfl) (by kernel_rfl) (by decide) ks_l3Digit_0 ?_
 intro ys r outs h
 unfold Fs_l3Digit at h
 split at h
 ·exact (vs_l3Digit _).trans h
 ·cases h
def Es_l3No:Env where
 tt := mkTI Tryz.prog
 fn := fun _ => none
 bxf := fun _ => none
 mv := []
 keep := fun _ => []
 keepB := fun _ => []
 keepX := fun _ => []
 keepXB := fun _ => []
theorem goodFs_l3No:∀ f ms F,Es_l3No.fn f = some (ms,F) → Sound Tryz.prog f ms F := fun f ms F h => by cases h
theorem goods_l3No:Good Tryz.prog Es_l3No := ⟨rfl,goodFs_l3No,fun f ms F h => by cases h⟩
def Os_l3No_0:Orc := fun _ _ => none
def mss_l3No:List PM := [.rd]
def lss_l3No:List (Nat×Code) := loopsAll 0 (Tryz.f108.body.getD .skip)
theorem ks_l3No_0:OrcOk Es_l3No Os_l3No_0 lss_l3No 0 := orcOk_none
def g_As_l3No (a0:List ByteArray):Bool := decide ((nat_lit 0 + List.length a0) * nat_lit 16 ≤ nat_lit 140737488355328 ∧ nat_lit 0 + List.length a0 ≤ nat_lit 9223372036854775807)
def g_Vs_l3No_0 (a0:List ByteArray):List ByteArray := [] ++ a0
def g_Vs_l3No_1 (a0:List ByteArray):tW := []
def Fs_l3No:FSem := fun ys => match ys with
 | [.val false [.sl .any 9 .str a0]] => some ((g_As_l3No a0),.val true [.bool false,.own .any true 9 .str (g_Vs_l3No_0 a0),.own .any true 39 (.pair .str (.pair .bool (.sl 3 (.int .i64)))) (g_Vs_l3No_1 a0)],[])
 | _ => none
theorem vs_l3No (a0:List ByteArray):collapseH .std Es_l3No Os_l3No_0 (execFn Es_l3No Tryz.f108 mss_l3No [.val false [.sl .any 9 .str a0]]) = some ((g_As_l3No a0),.val true [.bool false,.own .any true 9 .str (g_Vs_l3No_0 a0),.own .any true 39 (.pair .str (.pair .bool (.sl 3 (.int .i64)))) (g_Vs_l3No_1 a0)],[]) := by kernel_rfl
theorem ss_l3No:Sound Tryz.prog 108 mss_l3No Fs_l3No := by
 refine fn_gen goods_l3No (by kernel_rfl) .std (fn := Tryz.f108) (c := (Tryz.f108.body.getD .skip)) (o := Os_l3No_0) (k := 0) (by kernel_rfl) (by kernel_rfl) (by kernel_rfl) (by kernel_rfl) (by decide) ks_l3No_0 ?_
 intro ys r outs h
 unfold Fs_l3No at h
 split at h
 ·exact (vs_l3No _).trans h
 ·cases h
def Es_l3In:Env where
 tt := mkTI Tryz.prog
 fn := fun f => match f with
  | 107 => some (mss_l1Get,FSem.wk mss_l1Get Fs_l1Get)
  | 108 => some (mss_l3No,FSem.wk mss_l3No Fs_l3No)
  | 147 => some (mss_l3Digit,FSem.wk mss_l3Digit Fs_l3Digit)
  | _ => none
 bxf := fun _ => none
 mv := []
 keep := fun _ => []
 keepB := fun _ => []
 keepX := fun _ => []
 keepXB := fun _ => []
theorem goodFs_l3In:∀ f ms F,Es_l3In.fn f = some (ms,F) → Sound Tryz.prog f ms F := fun f ms F h => by
 unfold Es_l3In at h
 dsimp only at h
 split at h
 ·exact gF ss_l1Get h
 ·exact gF ss_l3No h
 ·exact gF ss_l3Digit h
 ·cases h
theorem goods_l3In:Good Tryz.prog Es_l3In := ⟨rfl,goodFs_l3In,fun f ms F h => by cases h⟩
def Os_l3In_0:Orc := fun _ _ => none
def mss_l3In:List PM := [.rd,.own]
def lss_l3In:List (Nat×Code) := loopsAll 0 (Tryz.f104.body.getD .skip)
theorem ks_l3In_0:OrcOk Es_l3In Os_l3In_0 lss_l3In 0 := orcOk_none
def g_As_l3In (a0:tS) (a1:Int) (a2:Int) (a3:Int) (a4:Int) (a5:Int) (a6:Int) (a7:Int):Bool := decide (nat_lit 1 + ByteArray.size (g_Vs_l3Digit_0 a3) ≤ nat_lit 9223372036854775807)&&(g_As_l1Get a0 (lit [(115:Nat)] ++ g_Vs_l3Digit_0 a3)&&bif a1 == 1 then !g_Vs_l1Get_1 a0 (lit [(115:Nat)] ++ g_Vs_l3Digit_0 a3) || g_As_l3No [lit [(115:Nat)] ++ g_Vs_l3Digit_0 a3] else bif a1 == 5 then bif !g_Vs_l1Get_1 a0 (lit [(115:Nat)] ++ g_Vs_l3Digit_0 a3) then g_As_l3No [lit [(115:Nat)] ++ g_Vs_l3Digit_0 a3] else decide ((0:Int) ≤ (0:Int) ∧ 0 < (↑(List.length (g_Vs_l1Get_0 a0 (lit [(115:Nat)] ++ g_Vs_l3Digit_0 a3))):Int))&&(decide (nat_lit 0 < List.length (g_Vs_l1Get_0 a0 (lit [(115:Nat)] ++ g_Vs_l3Digit_0 a3)))&&(!at_ (.int .i64) (g_Vs_l1Get_0 a0 (lit [(115:Nat)] ++ g_Vs_l3Digit_0 a3)) (nat_lit 0) != a2 || g_As_l3No [lit [(115:Nat)] ++ g_Vs_l3Digit_0 a3])) else bif !g_Vs_l1Get_1 a0 (lit [(115:Nat)] ++ g_Vs_l3Digit_0 a3) then g_As_l3No [lit [(115:Nat)] ++ g_Vs_l3Digit_0 a3] else decide ((0:Int) ≤ (0:Int) ∧ 0 < (↑(List.length (g_Vs_l1Get_0 a0 (lit [(115:Nat)] ++ g_Vs_l3Digit_0 a3))):Int))&&(decide (nat_lit 0 < List.length (g_Vs_l1Get_0 a0 (lit [(115:Nat)] ++ g_Vs_l3Digit_0 a3)))&&(!at_ (.int .i64) (g_Vs_l1Get_0 a0 (lit [(115:Nat)] ++ g_Vs_l3Digit_0 a3)) (nat_lit 0) != a2 || g_As_l3No [lit [(115:Nat)] ++ g_Vs_l3Digit_0 a3])))
def g_Vs_l3In_0 (a0:tS) (a1:Int) (a2:Int) (a3:Int) (a4:Int) (a5:Int) (a6:Int) (a7:Int):Bool := bif a1 == 1 then bif g_Vs_l1Get_1 a0 (lit [(115:Nat)] ++ g_Vs_l3Digit_0 a3) then false else true else bif a1 == 5 then bif !g_Vs_l1Get_1 a0 (lit [(115:Nat)] ++ g_Vs_l3Digit_0 a3) then false else bif at_ (.int .i64) (g_Vs_l1Get_0 a0 (lit [(115:Nat)] ++ g_Vs_l3Digit_0 a3)) (nat_lit 0) != a2 then false else true else bif !g_Vs_l1Get_1 a0 (lit [(115:Nat)] ++ g_Vs_l3Digit_0 a3) then false else bif at_ (.int .i64) (g_Vs_l1Get_0 a0 (lit [(115:Nat)] ++ g_Vs_l3Digit_0 a3)) (nat_lit 0) != a2 then false else true
def g_Vs_l3In_1 (a0:tS) (a1:Int) (a2:Int) (a3:Int) (a4:Int) (a5:Int) (a6:Int) (a7:Int):List ByteArray := bif a1 == 1 then bif g_Vs_l1Get_1 a0 (lit [(115:Nat)] ++ g_Vs_l3Digit_0 a3) then g_Vs_l3No_0 [lit [(115:Nat)] ++ g_Vs_l3Digit_0 a3] else [lit [(115:Nat)] ++ g_Vs_l3Digit_0 a3] else bif a1 == 5 then bif !g_Vs_l1Get_1 a0 (lit [(115:Nat)] ++ g_Vs_l3Digit_0 a3) then g_Vs_l3No_0 [lit [(115:Nat)] ++ g_Vs_l3Digit_0 a3] else bif at_ (.int .i64) (g_Vs_l1Get_0 a0 (lit [(115:Nat)] ++ g_Vs_l3Digit_0 a3)) (nat_lit 0) != a2 then g_Vs_l3No_0 [lit [(115:Nat)] ++ g_Vs_l3Digit_0 a3] else [lit [(115:Nat)] ++ g_Vs_l3Digit_0 a3] else bif !g_Vs_l1Get_1 a0 (lit [(115:Nat)] ++ g_Vs_l3Digit_0 a3) then g_Vs_l3No_0 [lit [(115:Nat)] ++ g_Vs_l3Digit_0 a3] else bif at_ (.int .i64) (g_Vs_l1Get_0 a0 (lit [(115:Nat)] ++ g_Vs_l3Digit_0 a3)) (nat_lit 0) != a2 then g_Vs_l3No_0 [lit [(115:Nat)] ++ g_Vs_l3Digit_0 a3] else [lit [(115:Nat)] ++ g_Vs_l3Digit_0 a3]
def g_Vs_l3In_2 (a0:tS) (a1:Int) (a2:Int) (a3:Int) (a4:Int) (a5:Int) (a6:Int) (a7:Int):tW := bif a1 == 1 then bif g_Vs_l1Get_1 a0 (lit [(115:Nat)] ++ g_Vs_l3Digit_0 a3) then g_Vs_l3No_1 [lit [(115:Nat)] ++ g_Vs_l3Digit_0 a3] else [(lit [(115:Nat)] ++ g_Vs_l3Digit_0 a3,false,[a2])] else bif a1 == 5 then bif !g_Vs_l1Get_1 a0 (lit [(115:Nat)] ++ g_Vs_l3Digit_0 a3) then g_Vs_l3No_1 [lit [(115:Nat)] ++ g_Vs_l3Digit_0 a3] else bif at_ (.int .i64) (g_Vs_l1Get_0 a0 (lit [(115:Nat)] ++ g_Vs_l3Digit_0 a3)) (nat_lit 0) != a2 then g_Vs_l3No_1 [lit [(115:Nat)] ++ g_Vs_l3Digit_0 a3] else [(lit [(115:Nat)] ++ g_Vs_l3Digit_0 a3,true,[])] else bif !g_Vs_l1Get_1 a0 (lit [(115:Nat)] ++ g_Vs_l3Digit_0 a3) then g_Vs_l3No_1 [lit [(115:Nat)] ++ g_Vs_l3Digit_0 a3] else bif at_ (.int .i64) (g_Vs_l1Get_0 a0 (lit [(115:Nat)] ++ g_Vs_l3Digit_0 a3)) (nat_lit 0) != a2 then g_Vs_l3No_1 [lit [(115:Nat)] ++ g_Vs_l3Digit_0 a3] else []
def Fs_l3In:FSem := fun ys => match ys with
 | [.val true [.sl .any 49 (.pair .str (.sl 3 (.int .i64))) a0],.val true [.int .i64 a1,.int .i64 a2,.int .i64 a3,.int .i64 a4,.int .i64 a5,.int .i64 a6,.int .i64 a7]] => some ((g_As_l3In a0 a1 a2 a3 a4 a5 a6 a7),.val true [.bool (g_Vs_l3In_0 a0 a1 a2 a3 a4 a5 a6 a7),.own .any true 9 .str (g_Vs_l3In_1 a0 a1 a2 a3 a4 a5 a6 a7),.own .any true 39 (.pair .str (.pair .bool (.sl 3 (.int .i64)))) (g_Vs_l3In_2 a0 a1 a2 a3 a4 a5 a6 a7)],[])
 | _ => none
theorem vs_l3In (a0:tS) (a1:Int) (a2:Int) (a3:Int) (a4:Int) (a5:Int) (a6:Int) (a7:Int):collapseH .std Es_l3In Os_l3In_0 (execFn Es_l3In Tryz.f104 mss_l3In [.val true [.sl .any 49 (.pair .str (.sl 3 (.int .i64))) a0],.val true [.int .i64 a1,.int .i64 a2,.int .i64 a3,.int .i64 a4,.int .i64 a5,.int .i64 a6,.int .i64 a7]]) = some ((g_As_l3In a0 a1 a2 a3 a4 a5 a6 a7),.val true [.bool (g_Vs_l3In_0 a0 a1 a2 a3 a4 a5 a6 a7),.own .any true 9 .str (g_Vs_l3In_1 a0 a1 a2 a3 a4 a5 a6 a7),.own .any true 39 (.pair .str (.pair .bool (.sl 3 (.int .i64)))) (g_Vs_l3In_2 a0 a1 a2 a3 a4 a5 a6 a7)],[]) := by kernel_rfl
theorem ss_l3In:Sound Tryz.prog 104 mss_l3In Fs_l3In := by
 refine fn_gen goods_l3In (by kernel_rfl) .std (fn := Tryz.f104) (c := (Tryz.f104.body.getD .skip)) (o := Os_l3In_0) (k := 0) (by kernel_rfl) (by kernel_rfl) (by kernel_rfl) (by kernel_rfl) (by decide) ks_l3In_0 ?_
 intro ys r outs h
 unfold Fs_l3In at h
 split at h
 ·exact (vs_l3In _ _ _ _ _ _ _ _).trans h
 ·cases h
def Es_SecSum:Env where
 tt := mkTI Tryz.prog
 fn := fun f => match f with
  | 59 => some (mss_l1In,FSem.wk mss_l1In Fs_l1In)
  | _ => none
 bxf := fun _ => none
 mv := []
 keep := fun _ => []
 keepB := fun _ => []
 keepX := fun _ => []
 keepXB := fun _ => []
theorem goodFs_SecSum:∀ f ms F,Es_SecSum.fn f = some (ms,F) → Sound Tryz.prog f ms F := fun f ms F h => by
 unfold Es_SecSum at h
 dsimp only at h
 split at h
 ·exact gF ss_l1In h
 ·cases h
theorem goods_SecSum:Good Tryz.prog Es_SecSum := ⟨rfl,goodFs_SecSum,fun f ms F h => by cases h⟩
def Os_SecSum_0:Orc := fun _ _ => none
def mss_SecSum:List PM := [.own]
def lss_SecSum:List (Nat×Code) := loopsAll 0 (Tryz.f148.body.getD .skip)
theorem ks_SecSum_0:OrcOk Es_SecSum Os_SecSum_0 lss_SecSum 0 := orcOk_none
def g_As_SecSum (a0:Int):Bool := g_As_l1In a0 (0:Int) (99:Int)&&(!g_Vs_l1In_0 a0 (0:Int) (99:Int) || true)
def g_Vs_SecSum_0 (a0:Int):Int := bif !g_Vs_l1In_0 a0 (0:Int) (99:Int) then (-1:Int) else Int.tmod (IntKind.i64.wrap (IntKind.i64.wrap (a0 * 7919) + 104)) (9973:Int)
def Fs_SecSum:FSem := fun ys => match ys with
 | [.val false [.int .i64 a0]] => some ((g_As_SecSum a0),.val false [.int .i64 (g_Vs_SecSum_0 a0)],[])
 | _ => none
theorem vs_SecSum (a0:Int):collapseH .std Es_SecSum Os_SecSum_0 (execFn Es_SecSum Tryz.f148 mss_SecSum [.val false [.int .i64 a0]]) = some ((g_As_SecSum a0),.val false [.int .i64 (g_Vs_SecSum_0 a0)],[]) := by kernel_rfl
theorem ss_SecSum:Sound Tryz.prog 148 mss_SecSum Fs_SecSum := by
 refine fn_gen goods_SecSum (by kernel_rfl) .std (fn := Tryz.f148) (c := (Tryz.f148.body.getD .skip)) (o := Os_SecSum_0) (k := 0) (by kernel_rfl) (by kernel_rfl) (by kernel_rfl) (by kernel_rfl) (by decide) ks_SecSum_0 ?_
 intro ys r outs h
 unfold Fs_SecSum at h
 split at h
 ·exact (vs_SecSum _).trans h
 ·cases h
def Es_l3Next:Env where
 tt := mkTI Tryz.prog
 fn := fun f => match f with
  | 107 => some (mss_l1Get,FSem.wk mss_l1Get Fs_l1Get)
  | 108 => some (mss_l3No,FSem.wk mss_l3No Fs_l3No)
  | 147 => some (mss_l3Digit,FSem.wk mss_l3Digit Fs_l3Digit)
  | _ => none
 bxf := fun _ => none
 mv := []
 keep := fun _ => []
 keepB := fun _ => []
 keepX := fun _ => []
 keepXB := fun _ => []
theorem goodFs_l3Next:∀ f ms F,Es_l3Next.fn f = some (ms,F) → Sound Tryz.prog f ms F := fun f ms F h => by
 unfold Es_l3Next at h
 dsimp only at h
 split at h
 ·exact gF ss_l1Get h
 ·exact gF ss_l3No h
 ·exact gF ss_l3Digit h
 ·cases h
theorem goods_l3Next:Good Tryz.prog Es_l3Next := ⟨rfl,goodFs_l3Next,fun f ms F h => by cases h⟩
def Os_l3Next_0:Orc := fun _ _ => none
def mss_l3Next:List PM := [.rd,.own]
def lss_l3Next:List (Nat×Code) := loopsAll 0 (Tryz.f150.body.getD .skip)
theorem ks_l3Next_0:OrcOk Es_l3Next Os_l3Next_0 lss_l3Next 0 := orcOk_none
def g_As_l3Next (a0:tS) (a1:Int) (a2:Int) (a3:Int) (a4:Int) (a5:Int) (a6:Int) (a7:Int):Bool := decide (nat_lit 1 + ByteArray.size (g_Vs_l3Digit_0 a6) ≤ nat_lit 9223372036854775807)&&(g_As_l1Get a0 (lit [(102:Nat)] ++ g_Vs_l3Digit_0 a6)&&bif !g_Vs_l1Get_1 a0 (lit [(102:Nat)] ++ g_Vs_l3Digit_0 a6) then g_As_l3No [lit [(102:Nat)] ++ g_Vs_l3Digit_0 a6] else decide ((0:Int) ≤ (2:Int) ∧ 2 < (↑(List.length (g_Vs_l1Get_0 a0 (lit [(102:Nat)] ++ g_Vs_l3Digit_0 a6))):Int))&&(decide (nat_lit 2 < List.length (g_Vs_l1Get_0 a0 (lit [(102:Nat)] ++ g_Vs_l3Digit_0 a6)))&&bif at_ (.int .i64) (g_Vs_l1Get_0 a0 (lit [(102:Nat)] ++ g_Vs_l3Digit_0 a6)) (nat_lit 2) == 0 then g_As_l3No [lit [(102:Nat)] ++ g_Vs_l3Digit_0 a6] else decide ((0:Int) ≤ (1:Int) ∧ 1 < (↑(List.length (g_Vs_l1Get_0 a0 (lit [(102:Nat)] ++ g_Vs_l3Digit_0 a6))):Int))&&(decide (nat_lit 1 < List.length (g_Vs_l1Get_0 a0 (lit [(102:Nat)] ++ g_Vs_l3Digit_0 a6)))&&bif decide (a7 > at_ (.int .i64) (g_Vs_l1Get_0 a0 (lit [(102:Nat)] ++ g_Vs_l3Digit_0 a6)) (nat_lit 1)) then g_As_l3No [lit [(102:Nat)] ++ g_Vs_l3Digit_0 a6] else bif a7 == 0 then g_As_l3No [lit [(102:Nat)] ++ g_Vs_l3Digit_0 a6] else decide ((0:Int) ≤ (1:Int) ∧ 1 < (↑(List.length (g_Vs_l1Get_0 a0 (lit [(102:Nat)] ++ g_Vs_l3Digit_0 a6))):Int))&&(decide (nat_lit 1 < List.length (g_Vs_l1Get_0 a0 (lit [(102:Nat)] ++ g_Vs_l3Digit_0 a6)))&&bif at_ (.int .i64) (g_Vs_l1Get_0 a0 (lit [(102:Nat)] ++ g_Vs_l3Digit_0 a6)) (nat_lit 1) == 99 then g_As_l3No [lit [(102:Nat)] ++ g_Vs_l3Digit_0 a6] else decide ((0:Int) ≤ (0:Int) ∧ 0 < (↑(List.length (g_Vs_l1Get_0 a0 (lit [(102:Nat)] ++ g_Vs_l3Digit_0 a6))):Int))&&(decide (nat_lit 0 < List.length (g_Vs_l1Get_0 a0 (lit [(102:Nat)] ++ g_Vs_l3Digit_0 a6)))&&(decide ((0:Int) ≤ (1:Int) ∧ 1 < (↑(List.length (g_Vs_l1Get_0 a0 (lit [(102:Nat)] ++ g_Vs_l3Digit_0 a6))):Int))&&(decide (nat_lit 1 < List.length (g_Vs_l1Get_0 a0 (lit [(102:Nat)] ++ g_Vs_l3Digit_0 a6)))&&(decide ((0:Int) ≤ (1:Int) ∧ 1 < (↑(List.length (g_Vs_l1Get_0 a0 (lit [(102:Nat)] ++ g_Vs_l3Digit_0 a6))):Int))&&(decide (nat_lit 1 < List.length (g_Vs_l1Get_0 a0 (lit [(102:Nat)] ++ g_Vs_l3Digit_0 a6)))&&bif decide (a7 < at_ (.int .i64) (g_Vs_l1Get_0 a0 (lit [(102:Nat)] ++ g_Vs_l3Digit_0 a6)) (nat_lit 1)) then decide ((0:Int) ≤ (0:Int) ∧ 0 < (↑(List.length (g_Vs_l1Get_0 a0 (lit [(102:Nat)] ++ g_Vs_l3Digit_0 a6))):Int))&&(decide (nat_lit 0 < List.length (g_Vs_l1Get_0 a0 (lit [(102:Nat)] ++ g_Vs_l3Digit_0 a6)))&&(decide ((0:Int) ≤ (1:Int) ∧ 1 < (↑(List.length (g_Vs_l1Get_0 a0 (lit [(102:Nat)] ++ g_Vs_l3Digit_0 a6))):Int))&&(decide (nat_lit 1 < List.length (g_Vs_l1Get_0 a0 (lit [(102:Nat)] ++ g_Vs_l3Digit_0 a6)))&&(decide ((0:Int) ≤ (0:Int) ∧ 0 < (↑(List.length (g_Vs_l1Get_0 a0 (lit [(102:Nat)] ++ g_Vs_l3Digit_0 a6))):Int))&&(decide (nat_lit 0 < List.length (g_Vs_l1Get_0 a0 (lit [(102:Nat)] ++ g_Vs_l3Digit_0 a6)))&&decide (nat_lit 1 + ByteArray.size (g_Vs_l3Digit_0 (at_ (.int .i64) (g_Vs_l1Get_0 a0 (lit [(102:Nat)] ++ g_Vs_l3Digit_0 a6)) (nat_lit 0))) ≤ nat_lit 9223372036854775807)))))) else decide ((0:Int) ≤ (0:Int) ∧ 0 < (↑(List.length (g_Vs_l1Get_0 a0 (lit [(102:Nat)] ++ g_Vs_l3Digit_0 a6))):Int))&&(decide (nat_lit 0 < List.length (g_Vs_l1Get_0 a0 (lit [(102:Nat)] ++ g_Vs_l3Digit_0 a6)))&&decide (nat_lit 1 + ByteArray.size (g_Vs_l3Digit_0 (at_ (.int .i64) (g_Vs_l1Get_0 a0 (lit [(102:Nat)] ++ g_Vs_l3Digit_0 a6)) (nat_lit 0))) ≤ nat_lit 9223372036854775807)))))))))))
def g_Vs_l3Next_0 (a0:tS) (a1:Int) (a2:Int) (a3:Int) (a4:Int) (a5:Int) (a6:Int) (a7:Int):Bool := bif !g_Vs_l1Get_1 a0 (lit [(102:Nat)] ++ g_Vs_l3Digit_0 a6) then false else bif at_ (.int .i64) (g_Vs_l1Get_0 a0 (lit [(102:Nat)] ++ g_Vs_l3Digit_0 a6)) (nat_lit 2) == 0 then false else bif decide (a7 > at_ (.int .i64) (g_Vs_l1Get_0 a0 (lit [(102:Nat)] ++ g_Vs_l3Digit_0 a6)) (nat_lit 1)) then false else bif a7 == 0 then false else bif at_ (.int .i64) (g_Vs_l1Get_0 a0 (lit [(102:Nat)] ++ g_Vs_l3Digit_0 a6)) (nat_lit 1) == 99 then false else bif decide (a7 < at_ (.int .i64) (g_Vs_l1Get_0 a0 (lit [(102:Nat)] ++ g_Vs_l3Digit_0 a6)) (nat_lit 1)) then true else true
def g_Vs_l3Next_1 (a0:tS) (a1:Int) (a2:Int) (a3:Int) (a4:Int) (a5:Int) (a6:Int) (a7:Int):List ByteArray := bif !g_Vs_l1Get_1 a0 (lit [(102:Nat)] ++ g_Vs_l3Digit_0 a6) then g_Vs_l3No_0 [lit [(102:Nat)] ++ g_Vs_l3Digit_0 a6] else bif at_ (.int .i64) (g_Vs_l1Get_0 a0 (lit [(102:Nat)] ++ g_Vs_l3Digit_0 a6)) (nat_lit 2) == 0 then g_Vs_l3No_0 [lit [(102:Nat)] ++ g_Vs_l3Digit_0 a6] else bif decide (a7 > at_ (.int .i64) (g_Vs_l1Get_0 a0 (lit [(102:Nat)] ++ g_Vs_l3Digit_0 a6)) (nat_lit 1)) then g_Vs_l3No_0 [lit [(102:Nat)] ++ g_Vs_l3Digit_0 a6] else bif a7 == 0 then g_Vs_l3No_0 [lit [(102:Nat)] ++ g_Vs_l3Digit_0 a6] else bif at_ (.int .i64) (g_Vs_l1Get_0 a0 (lit [(102:Nat)] ++ g_Vs_l3Digit_0 a6)) (nat_lit 1) == 99 then g_Vs_l3No_0 [lit [(102:Nat)] ++ g_Vs_l3Digit_0 a6] else bif decide (a7 < at_ (.int .i64) (g_Vs_l1Get_0 a0 (lit [(102:Nat)] ++ g_Vs_l3Digit_0 a6)) (nat_lit 1)) then [lit [(102:Nat)] ++ g_Vs_l3Digit_0 a6,lit [(117:Nat)] ++ g_Vs_l3Digit_0 (at_ (.int .i64) (g_Vs_l1Get_0 a0 (lit [(102:Nat)] ++ g_Vs_l3Digit_0 a6)) (nat_lit 0))] else [lit [(102:Nat)] ++ g_Vs_l3Digit_0 a6,lit [(117:Nat)] ++ g_Vs_l3Digit_0 (at_ (.int .i64) (g_Vs_l1Get_0 a0 (lit [(102:Nat)] ++ g_Vs_l3Digit_0 a6)) (nat_lit 0))]
def g_Vs_l3Next_2 (a0:tS) (a1:Int) (a2:Int) (a3:Int) (a4:Int) (a5:Int) (a6:Int) (a7:Int):tW := bif !g_Vs_l1Get_1 a0 (lit [(102:Nat)] ++ g_Vs_l3Digit_0 a6) then g_Vs_l3No_1 [lit [(102:Nat)] ++ g_Vs_l3Digit_0 a6] else bif at_ (.int .i64) (g_Vs_l1Get_0 a0 (lit [(102:Nat)] ++ g_Vs_l3Digit_0 a6)) (nat_lit 2) == 0 then g_Vs_l3No_1 [lit [(102:Nat)] ++ g_Vs_l3Digit_0 a6] else bif decide (a7 > at_ (.int .i64) (g_Vs_l1Get_0 a0 (lit [(102:Nat)] ++ g_Vs_l3Digit_0 a6)) (nat_lit 1)) then g_Vs_l3No_1 [lit [(102:Nat)] ++ g_Vs_l3Digit_0 a6] else bif a7 == 0 then g_Vs_l3No_1 [lit [(102:Nat)] ++ g_Vs_l3Digit_0 a6] else bif at_ (.int .i64) (g_Vs_l1Get_0 a0 (lit [(102:Nat)] ++ g_Vs_l3Digit_0 a6)) (nat_lit 1) == 99 then g_Vs_l3No_1 [lit [(102:Nat)] ++ g_Vs_l3Digit_0 a6] else bif decide (a7 < at_ (.int .i64) (g_Vs_l1Get_0 a0 (lit [(102:Nat)] ++ g_Vs_l3Digit_0 a6)) (nat_lit 1)) then [(lit [(102:Nat)] ++ g_Vs_l3Digit_0 a6,false,[at_ (.int .i64) (g_Vs_l1Get_0 a0 (lit [(102:Nat)] ++ g_Vs_l3Digit_0 a6)) (nat_lit 0),at_ (.int .i64) (g_Vs_l1Get_0 a0 (lit [(102:Nat)] ++ g_Vs_l3Digit_0 a6)) (nat_lit 1),(0:Int)])] else [(lit [(102:Nat)] ++ g_Vs_l3Digit_0 a6,false,[at_ (.int .i64) (g_Vs_l1Get_0 a0 (lit [(102:Nat)] ++ g_Vs_l3Digit_0 a6)) (nat_lit 0),IntKind.i64.wrap (at_ (.int .i64) (g_Vs_l1Get_0 a0 (lit [(102:Nat)] ++ g_Vs_l3Digit_0 a6)) (nat_lit 1) + 1),(1:Int)])]
def Fs_l3Next:FSem := fun ys => match ys with
 | [.val true [.sl .any 49 (.pair .str (.sl 3 (.int .i64))) a0],.val true [.int .i64 a1,.int .i64 a2,.int .i64 a3,.int .i64 a4,.int .i64 a5,.int .i64 a6,.int .i64 a7]] => some ((g_As_l3Next a0 a1 a2 a3 a4 a5 a6 a7),.val true [.bool (g_Vs_l3Next_0 a0 a1 a2 a3 a4 a5 a6 a7),.own .any true 9 .str (g_Vs_l3Next_1 a0 a1 a2 a3 a4 a5 a6 a7),.own .any true 39 (.pair .str (.pair .bool (.sl 3 (.int .i64)))) (g_Vs_l3Next_2 a0 a1 a2 a3 a4 a5 a6 a7)],[])
 | _ => none
theorem vs_l3Next (a0:tS) (a1:Int) (a2:Int) (a3:Int) (a4:Int) (a5:Int) (a6:Int) (a7:Int):collapseH .std Es_l3Next Os_l3Next_0 (execFn Es_l3Next Tryz.f150 mss_l3Next [.val true [.sl .any 49 (.pair .str (.sl 3 (.int .i64))) a0],.val true [.int .i64 a1,.int .i64 a2,.int .i64 a3,.int .i64 a4,.int .i64 a5,.int .i64 a6,.int .i64 a7]]) = some ((g_As_l3Next a0 a1 a2 a3 a4 a5 a6 a7),.val true [.bool (g_Vs_l3Next_0 a0 a1 a2 a3 a4 a5 a6 a7),.own .any true 9 .str (g_Vs_l3Next_1 a0 a1 a2 a3 a4 a5 a6 a7),.own .any true 39 (.pair .str (.pair .bool (.sl 3 (.int .i64)))) (g_Vs_l3Next_2 a0 a1 a2 a3 a4 a5 a6 a7)],[]) := by kernel_rfl
theorem ss_l3Next:Sound Tryz.prog 150 mss_l3Next Fs_l3Next := by
 refine fn_gen goods_l3Next (by kernel_rfl) .std (fn := Tryz.f150) (c := (Tryz.f150.body.getD .skip)) (o := Os_l3Next_0) (k := 0) (by kernel_rfl) (by kernel_rfl) (by kernel_rfl) (by kernel_rfl) (by decide) ks_l3Next_0 ?_
 intro ys r outs h
 unfold Fs_l3Next at h
 split at h
 ·exact (vs_l3Next _ _ _ _ _ _ _ _).trans h
 ·cases h
def Es_l3Out:Env where
 tt := mkTI Tryz.prog
 fn := fun f => match f with
  | 147 => some (mss_l3Digit,FSem.wk mss_l3Digit Fs_l3Digit)
  | _ => none
 bxf := fun _ => none
 mv := []
 keep := fun b => match b with
  | 0 => [(2,false),(3,false),(4,false),(5,false),(6,false)]
  | _ => []
 keepB := fun b => match b with
  | 0 => [(2,false),(3,false),(4,false),(5,false)]
  | _ => []
 keepX := fun b => match b with
  | 0 => [(4,false),(5,false)]
  | _ => []
 keepXB := fun b => match b with
  | 0 => [(4,false),(5,false)]
  | _ => []
theorem goodFs_l3Out:∀ f ms F,Es_l3Out.fn f = some (ms,F) → Sound Tryz.prog f ms F := fun f ms F h => by
 unfold Es_l3Out at h
 dsimp only at h
 split at h
 ·exact gF ss_l3Digit h
 ·cases h
theorem goods_l3Out:Good Tryz.prog Es_l3Out := ⟨rfl,goodFs_l3Out,fun f ms F h => by cases h⟩
def Os_l3Out_0:Orc := fun _ _ => none
def mss_l3Out:List PM := [.rd,.own]
def lss_l3Out:List (Nat×Code) := loopsAll 0 (Tryz.f151.body.getD .skip)
def cs_l3Out_0:Code := (loopOf 0 (Tryz.f151.body.getD .skip)).getD .skip
theorem lseqs_l3Out:lss_l3Out = [(0,cs_l3Out_0)] := by kernel_rfl
theorem ms_l3Out_0:∀ p,p ∈ lss_l3Out → p.1 = 0 → p.2 = cs_l3Out_0 := by
 intro p hp
 rw [lseqs_l3Out] at hp
 simp only [List.mem_cons,List.not_mem_nil,or_false] at hp
 subst hp; simp
theorem ks_l3Out_0:OrcOk Es_l3Out Os_l3Out_0 lss_l3Out 0 := orcOk_none
def hs_l3Out_0 (y0:Int) (y1:tS) (y2:Int) (y3:Int) (y4:Int) (y5:Int) (y6:Int) (y7:Int) (y8:Int) (y9:Bool) (y10:List ByteArray) (y11:tW) (y12:Bool) (y13:List ByteArray) (y14:tW):List (Pl×LV) := [(.T 2,.t (.val false [.ptr 2 0 0])),(.T 3,.t (.val false [.ptr 3 0 0])),(.T 4,.t (.val false [.ptr 4 0 0])),(.T 5,.t (.val false [.ptr 5 0 0])),(.T 6,.t (.val false [.int .i64 y0])),(.B 2,.b 0 false [.sl .any 49 (.pair .str (.sl 3 (.int .i64))) y1]),(.B 3,.b 0 false [.int .i64 y2,.int .i64 y3,.int .i64 y4,.int .i64 y5,.int .i64 y6,.int .i64 y7,.int .i64 y8]),(.B 4,.b 0 false [.bool y9,.row 4 3 0,.row 4 5 0]),(.R 4 3,.r 0 (some ⟨false,.any,true,9,.str,y10⟩)),(.R 4 5,.r 0 (some ⟨false,.any,true,39,(.pair .str (.pair .bool (.sl 3 (.int .i64)))),y11⟩)),(.B 5,.b 0 false [.bool y12,.row 5 3 0,.row 5 5 0]),(.R 5 3,.r 0 (some ⟨false,.non,true,9,.str,y13⟩)),(.R 5 5,.r 0 (some ⟨false,.any,true,39,(.pair .str (.pair .bool (.sl 3 (.int .i64)))),y14⟩))]
def g_Ss_l3Out_0 (y1:tS) (y2:Int) (y3:Int) (y4:Int) (y5:Int) (y6:Int) (y7:Int) (y8:Int) (y9:Bool) (y10:List ByteArray) (y11:tW) (y12:Bool):(Int×(List ByteArray)×tW) → RT (Int×(List ByteArray)×tW) (((List ByteArray)×tW))
 | (y0,y13,y14) => .br (true) (.br (decide (y0 < (y1.length:Int))) (.br (decide (0 ≤ y0 ∧ y0 < (y1.length:Int))) (.br (decide ((0:Int) ≤ (0:Int) ∧ 0 < (↑(ByteArray.size (at_ (.pair .str (.sl (nat_lit 3) (.int .i64))) y1 (Int.toNat y0)).1):Int))) (.br (true) (.br (byteAt (at_ (.pair .str (.sl (nat_lit 3) (.int .i64))) y1 (Int.toNat y0)).1 (nat_lit 0) == 102) (.br (decide ((0:Int) ≤ (0:Int) ∧ 0 < (↑(List.length (at_ (.pair .str (.sl (nat_lit 3) (.int .i64))) y1 (Int.toNat y0)).2):Int))) (.br (true) (.br (at_ (.int .i64) (at_ (.pair .str (.sl (nat_lit 3) (.int .i64))) y1 (Int.toNat y0)).2 (nat_lit 0) == y3) (.br (decide ((0:Int) ≤ (2:Int) ∧ 2 < (↑(List.length (at_ (.pair .str (.sl (nat_lit 3) (.int .i64))) y1 (Int.toNat y0)).2):Int))) (.br (true) (.br (at_ (.int .i64) (at_ (.pair .str (.sl (nat_lit 3) (.int .i64))) y1 (Int.toNat y0)).2 (nat_lit 2) == 1) (.br (decide ((List.length y13 + List.length [(at_ (.pair .str (.sl (nat_lit 3) (.int .i64))) y1 (Int.toNat y0)).1]) * nat_lit 16 ≤ nat_lit 140737488355328 ∧ List.length y13 + List.length [(at_ (.pair .str (.sl (nat_lit 3) (.int .i64))) y1 (Int.toNat y0)).1] ≤ nat_lit 9223372036854775807)) (.br (decide ((0:Int) ≤ (0:Int) ∧ 0 < (↑(List.length (at_ (.pair .str (.sl (nat_lit 3) (.int .i64))) y1 (Int.toNat y0)).2):Int))) (.br (decide ((0:Int) ≤ (1:Int) ∧ 1 < (↑(List.length (at_ (.pair .str (.sl (nat_lit 3) (.int .i64))) y1 (Int.toNat y0)).2):Int))) (.br (decide ((List.length y14 + List.length [((at_ (.pair .str (.sl (nat_lit 3) (.int .i64))) y1 (Int.toNat y0)).1,false,[at_ (.int .i64) (at_ (.pair .str (.sl (nat_lit 3) (.int .i64))) y1 (Int.toNat y0)).2 (nat_lit 0),at_ (.int .i64) (at_ (.pair .str (.sl (nat_lit 3) (.int .i64))) y1 (Int.toNat y0)).2 (nat_lit 1),(0:Int)])]) * nat_lit 48 ≤ nat_lit 140737488355328 ∧ List.length y14 + List.length [((at_ (.pair .str (.sl (nat_lit 3) (.int .i64))) y1 (Int.toNat y0)).1,false,[at_ (.int .i64) (at_ (.pair .str (.sl (nat_lit 3) (.int .i64))) y1 (Int.toNat y0)).2 (nat_lit 0),at_ (.int .i64) (at_ (.pair .str (.sl (nat_lit 3) (.int .i64))) y1 (Int.toNat y0)).2 (nat_lit 1),(0:Int)])] ≤ nat_lit 9223372036854775807)) (.br (true) (.go ((IntKind.i64.wrap (y0 + 1),y13 ++ [(at_ (.pair .str (.sl (nat_lit 3) (.int .i64))) y1 (Int.toNat y0)).1],y14 ++ [((at_ (.pair .str (.sl (nat_lit 3) (.int .i64))) y1 (Int.toNat y0)).1,false,[at_ (.int .i64) (at_ (.pair .str (.sl (nat_lit 3) (.int .i64))) y1 (Int.toNat y0)).2 (nat_lit 0),at_ (.int .i64) (at_ (.pair .str (.sl (nat_lit 3) (.int .i64))) y1 (Int.toNat y0)).2 (nat_lit 1),(0:Int)])]))) .bad) .bad) .bad) .bad) .bad) (.br (true) (.go ((IntKind.i64.wrap (y0 + 1),y13,y14))) .bad)) .bad) .bad) (.br (true) (.go ((IntKind.i64.wrap (y0 + 1),y13,y14))) .bad)) .bad) .bad) (.br (true) (.go ((IntKind.i64.wrap (y0 + 1),y13,y14))) .bad)) .bad) .bad) .bad) (.out ((y13,y14)))) .bad
def g_Ls_l3Out_0 (y1:tS) (y2:Int) (y3:Int) (y4:Int) (y5:Int) (y6:Int) (y7:Int) (y8:Int) (y9:Bool) (y10:List ByteArray) (y11:tW) (y12:Bool) (x:Int×(List ByteArray)×tW):Option (((List ByteArray)×tW)) := loopO (g_Ss_l3Out_0 y1 y2 y3 y4 y5 y6 y7 y8 y9 y10 y11 y12) x
def xs_l3Out_0 (y1:tS) (y2:Int) (y3:Int) (y4:Int) (y5:Int) (y6:Int) (y7:Int) (y8:Int) (y9:Bool) (y10:List ByteArray) (y11:tW) (y12:Bool):(((List ByteArray)×tW)) → Ex×List (Pl×LV) := fun r => (.exit 0,[(.T 4,.t (.val false [.ptr 4 0 0])),(.T 5,.t (.val false [.ptr 5 0 0])),(.B 4,.b 0 false [.bool y9,.row 4 3 0,.row 4 5 0]),(.R 4 3,.r 0 (some ⟨false,.any,true,9,.str,y10⟩)),(.R 4 5,.r 0 (some ⟨false,.any,true,39,(.pair .str (.pair .bool (.sl 3 (.int .i64)))),y11⟩)),(.B 5,.b 0 false [.bool y12,.row 5 3 0,.row 5 5 0]),(.R 5 3,.r 0 (some ⟨false,.non,true,9,.str,r.1⟩)),(.R 5 5,.r 0 (some ⟨false,.any,true,39,(.pair .str (.pair .bool (.sl 3 (.int .i64)))),r.2⟩))])
def Os_l3Out_1:Orc := fun b h => match b,h with
 | 0,[(.T 2,.t (.val false [.ptr 2 0 0])),(.T 3,.t (.val false [.ptr 3 0 0])),(.T 4,.t (.val false [.ptr 4 0 0])),(.T 5,.t (.val false [.ptr 5 0 0])),(.T 6,.t (.val false [.int .i64 y0])),(.B 2,.b 0 false [.sl .any 49 (.pair .str (.sl 3 (.int .i64))) y1]),(.B 3,.b 0 false [.int .i64 y2,.int .i64 y3,.int .i64 y4,.int .i64 y5,.int .i64 y6,.int .i64 y7,.int .i64 y8]),(.B 4,.b 0 false [.bool y9,.row 4 3 0,.row 4 5 0]),(.R 4 3,.r 0 (some ⟨false,.any,true,9,.str,y10⟩)),(.R 4 5,.r 0 (some ⟨false,.any,true,39,(.pair .str (.pair .bool (.sl 3 (.int .i64)))),y11⟩)),(.B 5,.b 0 false [.bool y12,.row 5 3 0,.row 5 5 0]),(.R 5 3,.r 0 (some ⟨false,.non,true,9,.str,y13⟩)),(.R 5 5,.r 0 (some ⟨false,.any,true,39,(.pair .str (.pair .bool (.sl 3 (.int .i64)))),y14⟩))] => some (okO (g_Ls_l3Out_0 y1 y2 y3 y4 y5 y6 y7 y8 y9 y10 y11 y12 (y0,y13,y14)),(.leaf (.exit 0) [(.T 4,.t (.val false [.ptr 4 0 0])),(.T 5,.t (.val false [.ptr 5 0 0])),(.B 4,.b 0 false [.bool y9,.row 4 3 0,.row 4 5 0]),(.R 4 3,.r 0 (some ⟨false,.any,true,9,.str,y10⟩)),(.R 4 5,.r 0 (some ⟨false,.any,true,39,(.pair .str (.pair .bool (.sl 3 (.int .i64)))),y11⟩)),(.B 5,.b 0 false [.bool y12,.row 5 3 0,.row 5 5 0]),(.R 5 3,.r 0 (some ⟨false,.non,true,9,.str,(valO (g_Ls_l3Out_0 y1 y2 y3 y4 y5 y6 y7 y8 y9 y10 y11 y12 (y0,y13,y14))).1⟩)),(.R 5 5,.r 0 (some ⟨false,.any,true,39,(.pair .str (.pair .bool (.sl 3 (.int .i64)))),(valO (g_Ls_l3Out_0 y1 y2 y3 y4 y5 y6 y7 y8 y9 y10 y11 y12 (y0,y13,y14))).2⟩))]))
 | b,h => Os_l3Out_0 b h
theorem bs_l3Out_0 (y0:Int) (y1:tS) (y2:Int) (y3:Int) (y4:Int) (y5:Int) (y6:Int) (y7:Int) (y8:Int) (y9:Bool) (y10:List ByteArray) (y11:tW) (y12:Bool) (y13:List ByteArray) (y14:tW):Tr.bt Es_l3Out Os_l3Out_0 (exec Es_l3Out 0 cs_l3Out_0 (St.of (hs_l3Out_0 y0 y1 y2 y3 y4 y5 y6 y7 y8 y9 y10 y11 y12 y13 y14)) (leafRd Es_l3Out 0)) = (g_Ss_l3Out_0 y1 y2 y3 y4 y5 y6 y7 y8 y9 y10 y11 y12 (y0,y13,y14)).bt (fun ((y0,y13,y14):Int×(List ByteArray)×tW) => (hs_l3Out_0 y0 y1 y2 y3 y4 y5 y6 y7 y8 y9 y10 y11 y12 y13 y14)) (xs_l3Out_0 y1 y2 y3 y4 y5 y6 y7 y8 y9 y10 y11 y12) := by kernel_rfl
theorem ks_l3Out_1:OrcOk Es_l3Out Os_l3Out_1 lss_l3Out 1 := orc_add ks_l3Out_0 (fun n p hp h ex h' ho => by
 obtain ⟨b,c⟩ := p
 obtain ⟨xt,h1,h2⟩ := ho
 have h1:Os_l3Out_1 b h = some (true,xt) := h1
 unfold Os_l3Out_1 at h1
 split at h1
 ·injection h1 with h1
  injection h1 with e1 e2
  subst e2
  have hc:c = cs_l3Out_0 := ms_l3Out_0 _ hp rfl
  subst hc
  right
  rename_i y0 y1 y2 y3 y4 y5 y6 y7 y8 y9 y10 y11 y12 y13 y14
  have key := LT_step ks_l3Out_0 hp (fun q hq => loopsAll_in _ _ _ _ hp hq) (fun ((y0,y13,y14):Int×(List ByteArray)×tW) => (hs_l3Out_0 y0 y1 y2 y3 y4 y5 y6 y7 y8 y9 y10 y11 y12 y13 y14)) (xs_l3Out_0 y1 y2 y3 y4 y5 y6 y7 y8 y9 y10 y11 y12) (g_Ss_l3Out_0 y1 y2 y3 y4 y5 y6 y7 y8 y9 y10 y11 y12) (fun x => by first | exact bs_l3Out_0 x.1 y1 y2 y3 y4 y5 y6 y7 y8 y9 y10 y11 y12 x.2.1 x.2.2) n (x := (y0,y13,y14)) (okO_some e1)
  have hx:∀ r,XT.sel (.leaf (.exit 0) [(.T 4,.t (.val false [.ptr 4 0 0])),(.T 5,.t (.val false [.ptr 5 0 0])),(.B 4,.b 0 false [.bool y9,.row 4 3 0,.row 4 5 0]),(.R 4 3,.r 0 (some ⟨false,.any,true,9,.str,y10⟩)),(.R 4 5,.r 0 (some ⟨false,.any,true,39,(.pair .str (.pair .bool (.sl 3 (.int .i64)))),y11⟩)),(.B 5,.b 0 false [.bool y12,.row 5 3 0,.row 5 5 0]),(.R 5 3,.r 0 (some ⟨false,.non,true,9,.str,r.1⟩)),(.R 5 5,.r 0 (some ⟨false,.any,true,39,(.pair .str (.pair .bool (.sl 3 (.int .i64)))),r.2⟩))]) = xs_l3Out_0 y1 y2 y3 y4 y5 y6 y7 y8 y9 y10 y11 y12 r := fun r => by first | rfl | rcases r with r | r <;> rfl | rcases r with r | r | r <;> rfl | rcases r with r | r | r | r <;> rfl
  have h3 := (hx (valO (g_Ls_l3Out_0 y1 y2 y3 y4 y5 y6 y7 y8 y9 y10 y11 y12 (y0,y13,y14)))).symm.trans h2
  have e3 := congrArg Prod.fst h3
  have e4 := congrArg Prod.snd h3
  simp only at e3 e4
  rw [← e3,← e4]
  exact key
 ·exact .inl ⟨xt,h1,h2⟩)
def g_As_l3Out (a0:tS) (a1:Int) (a2:Int) (a3:Int) (a4:Int) (a5:Int) (a6:Int) (a7:Int):Bool := decide (nat_lit 1 + ByteArray.size (g_Vs_l3Digit_0 a2) ≤ nat_lit 9223372036854775807)&&okO (g_Ls_l3Out_0 a0 a1 a2 a3 a4 a5 a6 a7 false [] [] true ((0:Int),[lit [(117:Nat)] ++ g_Vs_l3Digit_0 a2],[]))
def g_Vs_l3Out_0 (a0:tS) (a1:Int) (a2:Int) (a3:Int) (a4:Int) (a5:Int) (a6:Int) (a7:Int):List ByteArray := (valO (g_Ls_l3Out_0 a0 a1 a2 a3 a4 a5 a6 a7 false [] [] true ((0:Int),[lit [(117:Nat)] ++ g_Vs_l3Digit_0 a2],[]))).1
def g_Vs_l3Out_1 (a0:tS) (a1:Int) (a2:Int) (a3:Int) (a4:Int) (a5:Int) (a6:Int) (a7:Int):tW := (valO (g_Ls_l3Out_0 a0 a1 a2 a3 a4 a5 a6 a7 false [] [] true ((0:Int),[lit [(117:Nat)] ++ g_Vs_l3Digit_0 a2],[]))).2
def Fs_l3Out:FSem := fun ys => match ys with
 | [.val true [.sl .any 49 (.pair .str (.sl 3 (.int .i64))) a0],.val true [.int .i64 a1,.int .i64 a2,.int .i64 a3,.int .i64 a4,.int .i64 a5,.int .i64 a6,.int .i64 a7]] => some ((g_As_l3Out a0 a1 a2 a3 a4 a5 a6 a7),.val true [.bool true,.own .any true 9 .str (g_Vs_l3Out_0 a0 a1 a2 a3 a4 a5 a6 a7),.own .any true 39 (.pair .str (.pair .bool (.sl 3 (.int .i64)))) (g_Vs_l3Out_1 a0 a1 a2 a3 a4 a5 a6 a7)],[])
 | _ => none
theorem vs_l3Out (a0:tS) (a1:Int) (a2:Int) (a3:Int) (a4:Int) (a5:Int) (a6:Int) (a7:Int):collapseH .std Es_l3Out Os_l3Out_1 (execFn Es_l3Out Tryz.f151 mss_l3Out [.val true [.sl .any 49 (.pair .str (.sl 3 (.int .i64))) a0],.val true [.int .i64 a1,.int .i64 a2,.int .i64 a3,.int .i64 a4,.int .i64 a5,.int .i64 a6,.int .i64 a7]]) = some ((g_As_l3Out a0 a1 a2 a3 a4 a5 a6 a7),.val true [.bool true,.own .any true 9 .str (g_Vs_l3Out_0 a0 a1 a2 a3 a4 a5 a6 a7),.own .any true 39 (.pair .str (.pair .bool (.sl 3 (.int .i64)))) (g_Vs_l3Out_1 a0 a1 a2 a3 a4 a5 a6 a7)],[]) := by kernel_rfl
theorem ss_l3Out:Sound Tryz.prog 151 mss_l3Out Fs_l3Out := by
 refine fn_gen goods_l3Out (by kernel_rfl) .std (fn := Tryz.f151) (c := (Tryz.f151.body.getD .skip)) (o := Os_l3Out_1) (k := 1) (by kernel_rfl) (by kernel_rfl) (by kernel_rfl) (by kernel_rfl) (by decide) ks_l3Out_1 ?_
 intro ys r outs h
 unfold Fs_l3Out at h
 split at h
 ·exact (vs_l3Out _ _ _ _ _ _ _ _).trans h
 ·cases h
def Es_l3Trade:Env where
 tt := mkTI Tryz.prog
 fn := fun f => match f with
  | 107 => some (mss_l1Get,FSem.wk mss_l1Get Fs_l1Get)
  | 108 => some (mss_l3No,FSem.wk mss_l3No Fs_l3No)
  | 147 => some (mss_l3Digit,FSem.wk mss_l3Digit Fs_l3Digit)
  | 148 => some (mss_SecSum,FSem.wk mss_SecSum Fs_SecSum)
  | _ => none
 bxf := fun _ => none
 mv := []
 keep := fun _ => []
 keepB := fun _ => []
 keepX := fun _ => []
 keepXB := fun _ => []
theorem goodFs_l3Trade:∀ f ms F,Es_l3Trade.fn f = some (ms,F) → Sound Tryz.prog f ms F := fun f ms F h => by
 unfold Es_l3Trade at h
 dsimp only at h
 split at h
 ·exact gF ss_l1Get h
 ·exact gF ss_l3No h
 ·exact gF ss_l3Digit h
 ·exact gF ss_SecSum h
 ·cases h
theorem goods_l3Trade:Good Tryz.prog Es_l3Trade := ⟨rfl,goodFs_l3Trade,fun f ms F h => by cases h⟩
def Os_l3Trade_0:Orc := fun _ _ => none
def mss_l3Trade:List PM := [.rd,.own]
def lss_l3Trade:List (Nat×Code) := loopsAll 0 (Tryz.f149.body.getD .skip)
theorem ks_l3Trade_0:OrcOk Es_l3Trade Os_l3Trade_0 lss_l3Trade 0 := orcOk_none
def g_As_l3Trade (a0:tS) (a1:Int) (a2:Int) (a3:Int) (a4:Int) (a5:Int) (a6:Int) (a7:Int):Bool := decide (nat_lit 1 + ByteArray.size (g_Vs_l3Digit_0 a4) ≤ nat_lit 9223372036854775807)&&(decide (nat_lit 1 + ByteArray.size (g_Vs_l3Digit_0 a6) ≤ nat_lit 9223372036854775807)&&(g_As_l1Get a0 (lit [(99:Nat)] ++ g_Vs_l3Digit_0 a4)&&(g_As_l1Get a0 (lit [(102:Nat)] ++ g_Vs_l3Digit_0 a6)&&bif !g_Vs_l1Get_1 a0 (lit [(99:Nat)] ++ g_Vs_l3Digit_0 a4) then g_As_l3No [lit [(99:Nat)] ++ g_Vs_l3Digit_0 a4,lit [(102:Nat)] ++ g_Vs_l3Digit_0 a6] else bif g_Vs_l1Get_1 a0 (lit [(102:Nat)] ++ g_Vs_l3Digit_0 a6) then g_As_l3No [lit [(99:Nat)] ++ g_Vs_l3Digit_0 a4,lit [(102:Nat)] ++ g_Vs_l3Digit_0 a6] else decide ((0:Int) ≤ (1:Int) ∧ 1 < (↑(List.length (g_Vs_l1Get_0 a0 (lit [(99:Nat)] ++ g_Vs_l3Digit_0 a4))):Int))&&(decide (nat_lit 1 < List.length (g_Vs_l1Get_0 a0 (lit [(99:Nat)] ++ g_Vs_l3Digit_0 a4)))&&(g_As_SecSum a5&&bif at_ (.int .i64) (g_Vs_l1Get_0 a0 (lit [(99:Nat)] ++ g_Vs_l3Digit_0 a4)) (nat_lit 1) != g_Vs_SecSum_0 a5 then g_As_l3No [lit [(99:Nat)] ++ g_Vs_l3Digit_0 a4,lit [(102:Nat)] ++ g_Vs_l3Digit_0 a6] else decide ((0:Int) ≤ (0:Int) ∧ 0 < (↑(List.length (g_Vs_l1Get_0 a0 (lit [(99:Nat)] ++ g_Vs_l3Digit_0 a4))):Int))&&(decide (nat_lit 0 < List.length (g_Vs_l1Get_0 a0 (lit [(99:Nat)] ++ g_Vs_l3Digit_0 a4)))&&(decide (nat_lit 1 + ByteArray.size (g_Vs_l3Digit_0 (at_ (.int .i64) (g_Vs_l1Get_0 a0 (lit [(99:Nat)] ++ g_Vs_l3Digit_0 a4)) (nat_lit 0))) ≤ nat_lit 9223372036854775807)&&(decide ((0:Int) ≤ (0:Int) ∧ 0 < (↑(List.length (g_Vs_l1Get_0 a0 (lit [(99:Nat)] ++ g_Vs_l3Digit_0 a4))):Int))&&decide (nat_lit 0 < List.length (g_Vs_l1Get_0 a0 (lit [(99:Nat)] ++ g_Vs_l3Digit_0 a4)))))))))))
def g_Vs_l3Trade_0 (a0:tS) (a1:Int) (a2:Int) (a3:Int) (a4:Int) (a5:Int) (a6:Int) (a7:Int):Bool := bif !g_Vs_l1Get_1 a0 (lit [(99:Nat)] ++ g_Vs_l3Digit_0 a4) then false else bif g_Vs_l1Get_1 a0 (lit [(102:Nat)] ++ g_Vs_l3Digit_0 a6) then false else bif at_ (.int .i64) (g_Vs_l1Get_0 a0 (lit [(99:Nat)] ++ g_Vs_l3Digit_0 a4)) (nat_lit 1) != g_Vs_SecSum_0 a5 then false else true
def g_Vs_l3Trade_1 (a0:tS) (a1:Int) (a2:Int) (a3:Int) (a4:Int) (a5:Int) (a6:Int) (a7:Int):List ByteArray := bif !g_Vs_l1Get_1 a0 (lit [(99:Nat)] ++ g_Vs_l3Digit_0 a4) then g_Vs_l3No_0 [lit [(99:Nat)] ++ g_Vs_l3Digit_0 a4,lit [(102:Nat)] ++ g_Vs_l3Digit_0 a6] else bif g_Vs_l1Get_1 a0 (lit [(102:Nat)] ++ g_Vs_l3Digit_0 a6) then g_Vs_l3No_0 [lit [(99:Nat)] ++ g_Vs_l3Digit_0 a4,lit [(102:Nat)] ++ g_Vs_l3Digit_0 a6] else bif at_ (.int .i64) (g_Vs_l1Get_0 a0 (lit [(99:Nat)] ++ g_Vs_l3Digit_0 a4)) (nat_lit 1) != g_Vs_SecSum_0 a5 then g_Vs_l3No_0 [lit [(99:Nat)] ++ g_Vs_l3Digit_0 a4,lit [(102:Nat)] ++ g_Vs_l3Digit_0 a6] else [lit [(99:Nat)] ++ g_Vs_l3Digit_0 a4,lit [(102:Nat)] ++ g_Vs_l3Digit_0 a6,lit [(117:Nat)] ++ g_Vs_l3Digit_0 (at_ (.int .i64) (g_Vs_l1Get_0 a0 (lit [(99:Nat)] ++ g_Vs_l3Digit_0 a4)) (nat_lit 0))]
def g_Vs_l3Trade_2 (a0:tS) (a1:Int) (a2:Int) (a3:Int) (a4:Int) (a5:Int) (a6:Int) (a7:Int):tW := bif !g_Vs_l1Get_1 a0 (lit [(99:Nat)] ++ g_Vs_l3Digit_0 a4) then g_Vs_l3No_1 [lit [(99:Nat)] ++ g_Vs_l3Digit_0 a4,lit [(102:Nat)] ++ g_Vs_l3Digit_0 a6] else bif g_Vs_l1Get_1 a0 (lit [(102:Nat)] ++ g_Vs_l3Digit_0 a6) then g_Vs_l3No_1 [lit [(99:Nat)] ++ g_Vs_l3Digit_0 a4,lit [(102:Nat)] ++ g_Vs_l3Digit_0 a6] else bif at_ (.int .i64) (g_Vs_l1Get_0 a0 (lit [(99:Nat)] ++ g_Vs_l3Digit_0 a4)) (nat_lit 1) != g_Vs_SecSum_0 a5 then g_Vs_l3No_1 [lit [(99:Nat)] ++ g_Vs_l3Digit_0 a4,lit [(102:Nat)] ++ g_Vs_l3Digit_0 a6] else [(lit [(99:Nat)] ++ g_Vs_l3Digit_0 a4,true,[]),(lit [(102:Nat)] ++ g_Vs_l3Digit_0 a6,false,[at_ (.int .i64) (g_Vs_l1Get_0 a0 (lit [(99:Nat)] ++ g_Vs_l3Digit_0 a4)) (nat_lit 0),(1:Int),(1:Int)])]
def Fs_l3Trade:FSem := fun ys => match ys with
 | [.val true [.sl .any 49 (.pair .str (.sl 3 (.int .i64))) a0],.val true [.int .i64 a1,.int .i64 a2,.int .i64 a3,.int .i64 a4,.int .i64 a5,.int .i64 a6,.int .i64 a7]] => some ((g_As_l3Trade a0 a1 a2 a3 a4 a5 a6 a7),.val true [.bool (g_Vs_l3Trade_0 a0 a1 a2 a3 a4 a5 a6 a7),.own .any true 9 .str (g_Vs_l3Trade_1 a0 a1 a2 a3 a4 a5 a6 a7),.own .any true 39 (.pair .str (.pair .bool (.sl 3 (.int .i64)))) (g_Vs_l3Trade_2 a0 a1 a2 a3 a4 a5 a6 a7)],[])
 | _ => none
theorem vs_l3Trade (a0:tS) (a1:Int) (a2:Int) (a3:Int) (a4:Int) (a5:Int) (a6:Int) (a7:Int):collapseH .std Es_l3Trade Os_l3Trade_0 (execFn Es_l3Trade Tryz.f149 mss_l3Trade [.val true [.sl .any 49 (.pair .str (.sl 3 (.int .i64))) a0],.val true [.int .i64 a1,.int .i64 a2,.int .i64 a3,.int .i64 a4,.int .i64 a5,.int .i64 a6,.int .i64 a7]]) = some ((g_As_l3Trade a0 a1 a2 a3 a4 a5 a6 a7),.val true [.bool (g_Vs_l3Trade_0 a0 a1 a2 a3 a4 a5 a6 a7),.own .any true 9 .str (g_Vs_l3Trade_1 a0 a1 a2 a3 a4 a5 a6 a7),.own .any true 39 (.pair .str (.pair .bool (.sl 3 (.int .i64)))) (g_Vs_l3Trade_2 a0 a1 a2 a3 a4 a5 a6 a7)],[]) := by kernel_rfl
theorem ss_l3Trade:Sound Tryz.prog 149 mss_l3Trade Fs_l3Trade := by
 refine fn_gen goods_l3Trade (by kernel_rfl) .std (fn := Tryz.f149) (c := (Tryz.f149.body.getD .skip)) (o := Os_l3Trade_0) (k := 0) (by kernel_rfl) (by kernel_rfl) (by kernel_rfl) (by kernel_rfl) (by decide) ks_l3Trade_0 ?_
 intro ys r outs h
 unfold Fs_l3Trade at h
 split at h
 ·exact (vs_l3Trade _ _ _ _ _ _ _ _).trans h
 ·cases h
def Es_l3May:Env where
 tt := mkTI Tryz.prog
 fn := fun f => match f with
  | 107 => some (mss_l1Get,FSem.wk mss_l1Get Fs_l1Get)
  | 108 => some (mss_l3No,FSem.wk mss_l3No Fs_l3No)
  | 147 => some (mss_l3Digit,FSem.wk mss_l3Digit Fs_l3Digit)
  | 148 => some (mss_SecSum,FSem.wk mss_SecSum Fs_SecSum)
  | 149 => some (mss_l3Trade,FSem.wk mss_l3Trade Fs_l3Trade)
  | 150 => some (mss_l3Next,FSem.wk mss_l3Next Fs_l3Next)
  | 151 => some (mss_l3Out,FSem.wk mss_l3Out Fs_l3Out)
  | _ => none
 bxf := fun _ => none
 mv := []
 keep := fun _ => []
 keepB := fun _ => []
 keepX := fun _ => []
 keepXB := fun _ => []
theorem goodFs_l3May:∀ f ms F,Es_l3May.fn f = some (ms,F) → Sound Tryz.prog f ms F := fun f ms F h => by
 unfold Es_l3May at h
 dsimp only at h
 split at h
 ·exact gF ss_l1Get h
 ·exact gF ss_l3No h
 ·exact gF ss_l3Digit h
 ·exact gF ss_SecSum h
 ·exact gF ss_l3Trade h
 ·exact gF ss_l3Next h
 ·exact gF ss_l3Out h
 ·cases h
theorem goods_l3May:Good Tryz.prog Es_l3May := ⟨rfl,goodFs_l3May,fun f ms F h => by cases h⟩
def Os_l3May_0:Orc := fun _ _ => none
def mss_l3May:List PM := [.rd,.own]
def lss_l3May:List (Nat×Code) := loopsAll 0 (Tryz.f105.body.getD .skip)
theorem ks_l3May_0:OrcOk Es_l3May Os_l3May_0 lss_l3May 0 := orcOk_none
def g_As_l3May (a0:tS) (a1:Int) (a2:Int) (a3:Int) (a4:Int) (a5:Int) (a6:Int) (a7:Int):Bool := bif a1 == 2 then decide (nat_lit 1 + ByteArray.size (g_Vs_l3Digit_0 a4) ≤ nat_lit 9223372036854775807)&&(g_As_l1Get a0 (lit [(99:Nat)] ++ g_Vs_l3Digit_0 a4)&&bif g_Vs_l1Get_1 a0 (lit [(99:Nat)] ++ g_Vs_l3Digit_0 a4) then g_As_l3No [lit [(99:Nat)] ++ g_Vs_l3Digit_0 a4] else g_As_SecSum a5) else bif a1 == 3 then g_As_l3Trade a0 a1 a2 a3 a4 a5 a6 a7 else bif a1 == 4 then g_As_l3Next a0 a1 a2 a3 a4 a5 a6 a7 else g_As_l3Out a0 a1 a2 a3 a4 a5 a6 a7
def g_Vs_l3May_0 (a0:tS) (a1:Int) (a2:Int) (a3:Int) (a4:Int) (a5:Int) (a6:Int) (a7:Int):Bool := bif a1 == 2 then bif g_Vs_l1Get_1 a0 (lit [(99:Nat)] ++ g_Vs_l3Digit_0 a4) then false else true else bif a1 == 3 then g_Vs_l3Trade_0 a0 a1 a2 a3 a4 a5 a6 a7 else bif a1 == 4 then g_Vs_l3Next_0 a0 a1 a2 a3 a4 a5 a6 a7 else true
def g_Vs_l3May_1 (a0:tS) (a1:Int) (a2:Int) (a3:Int) (a4:Int) (a5:Int) (a6:Int) (a7:Int):List ByteArray := bif a1 == 2 then bif g_Vs_l1Get_1 a0 (lit [(99:Nat)] ++ g_Vs_l3Digit_0 a4) then g_Vs_l3No_0 [lit [(99:Nat)] ++ g_Vs_l3Digit_0 a4] else [lit [(99:Nat)] ++ g_Vs_l3Digit_0 a4] else bif a1 == 3 then g_Vs_l3Trade_1 a0 a1 a2 a3 a4 a5 a6 a7 else bif a1 == 4 then g_Vs_l3Next_1 a0 a1 a2 a3 a4 a5 a6 a7 else g_Vs_l3Out_0 a0 a1 a2 a3 a4 a5 a6 a7
def g_Vs_l3May_2 (a0:tS) (a1:Int) (a2:Int) (a3:Int) (a4:Int) (a5:Int) (a6:Int) (a7:Int):tW := bif a1 == 2 then bif g_Vs_l1Get_1 a0 (lit [(99:Nat)] ++ g_Vs_l3Digit_0 a4) then g_Vs_l3No_1 [lit [(99:Nat)] ++ g_Vs_l3Digit_0 a4] else [(lit [(99:Nat)] ++ g_Vs_l3Digit_0 a4,false,[a2,g_Vs_SecSum_0 a5])] else bif a1 == 3 then g_Vs_l3Trade_2 a0 a1 a2 a3 a4 a5 a6 a7 else bif a1 == 4 then g_Vs_l3Next_2 a0 a1 a2 a3 a4 a5 a6 a7 else g_Vs_l3Out_1 a0 a1 a2 a3 a4 a5 a6 a7
def Fs_l3May:FSem := fun ys => match ys with
 | [.val true [.sl .any 49 (.pair .str (.sl 3 (.int .i64))) a0],.val true [.int .i64 a1,.int .i64 a2,.int .i64 a3,.int .i64 a4,.int .i64 a5,.int .i64 a6,.int .i64 a7]] => some ((g_As_l3May a0 a1 a2 a3 a4 a5 a6 a7),.val true [.bool (g_Vs_l3May_0 a0 a1 a2 a3 a4 a5 a6 a7),.own .any true 9 .str (g_Vs_l3May_1 a0 a1 a2 a3 a4 a5 a6 a7),.own .any true 39 (.pair .str (.pair .bool (.sl 3 (.int .i64)))) (g_Vs_l3May_2 a0 a1 a2 a3 a4 a5 a6 a7)],[])
 | _ => none
theorem vs_l3May (a0:tS) (a1:Int) (a2:Int) (a3:Int) (a4:Int) (a5:Int) (a6:Int) (a7:Int):collapseH .std Es_l3May Os_l3May_0 (execFn Es_l3May Tryz.f105 mss_l3May [.val true [.sl .any 49 (.pair .str (.sl 3 (.int .i64))) a0],.val true [.int .i64 a1,.int .i64 a2,.int .i64 a3,.int .i64 a4,.int .i64 a5,.int .i64 a6,.int .i64 a7]]) = some ((g_As_l3May a0 a1 a2 a3 a4 a5 a6 a7),.val true [.bool (g_Vs_l3May_0 a0 a1 a2 a3 a4 a5 a6 a7),.own .any true 9 .str (g_Vs_l3May_1 a0 a1 a2 a3 a4 a5 a6 a7),.own .any true 39 (.pair .str (.pair .bool (.sl 3 (.int .i64)))) (g_Vs_l3May_2 a0 a1 a2 a3 a4 a5 a6 a7)],[]) := by kernel_rfl
theorem ss_l3May:Sound Tryz.prog 105 mss_l3May Fs_l3May := by
 refine fn_gen goods_l3May (by kernel_rfl) .std (fn := Tryz.f105) (c := (Tryz.f105.body.getD .skip)) (o := Os_l3May_0) (k := 0) (by kernel_rfl) (by kernel_rfl) (by kernel_rfl) (by kernel_rfl) (by decide) ks_l3May_0 ?_
 intro ys r outs h
 unfold Fs_l3May at h
 split at h
 ·exact (vs_l3May _ _ _ _ _ _ _ _).trans h
 ·cases h
def Es_l3Plain:Env where
 tt := mkTI Tryz.prog
 fn := fun f => match f with
  | 147 => some (mss_l3Digit,FSem.wk mss_l3Digit Fs_l3Digit)
  | _ => none
 bxf := fun _ => none
 mv := []
 keep := fun b => match b with
  | 0 => [(0,false),(3,false)]
  | _ => []
 keepB := fun b => match b with
  | 0 => []
  | _ => []
 keepX := fun b => match b with
  | 0 => [(0,false),(3,false)]
  | _ => []
 keepXB := fun b => match b with
  | 0 => []
  | _ => []
theorem goodFs_l3Plain:∀ f ms F,Es_l3Plain.fn f = some (ms,F) → Sound Tryz.prog f ms F := fun f ms F h => by
 unfold Es_l3Plain at h
 dsimp only at h
 split at h
 ·exact gF ss_l3Digit h
 ·cases h
theorem goods_l3Plain:Good Tryz.prog Es_l3Plain := ⟨rfl,goodFs_l3Plain,fun f ms F h => by cases h⟩
def Os_l3Plain_0:Orc := fun _ _ => none
def mss_l3Plain:List PM := [.own]
def lss_l3Plain:List (Nat×Code) := loopsAll 0 (Tryz.f106.body.getD .skip)
def cs_l3Plain_0:Code := (loopOf 0 (Tryz.f106.body.getD .skip)).getD .skip
theorem lseqs_l3Plain:lss_l3Plain = [(0,cs_l3Plain_0)] := by kernel_rfl
theorem ms_l3Plain_0:∀ p,p ∈ lss_l3Plain → p.1 = 0 → p.2 = cs_l3Plain_0 := by
 intro p hp
 rw [lseqs_l3Plain] at hp
 simp only [List.mem_cons,List.not_mem_nil,or_false] at hp
 subst hp; simp
theorem ks_l3Plain_0:OrcOk Es_l3Plain Os_l3Plain_0 lss_l3Plain 0 := orcOk_none
def hs_l3Plain_0 (y0:Int) (y1:ByteArray):List (Pl×LV) := [(.T 0,.t (.val false [.int .i64 y0])),(.T 3,.t (.val false [.str y1]))]
def g_Ss_l3Plain_0:(Int×ByteArray) → RT (Int×ByteArray) ((Int×ByteArray))
 | (y0,y1) => .br (true) (.br (decide (y0 > 9)) (.br (true) (.br (true) (.br (decide (ByteArray.size (g_Vs_l3Digit_0 (Int.tmod y0 (10:Int))) + ByteArray.size y1 ≤ nat_lit 9223372036854775807)) (.br (true) (.go ((IntKind.i64.wrap (Int.tdiv y0 (10:Int)),g_Vs_l3Digit_0 (Int.tmod y0 (10:Int)) ++ y1))) .bad) .bad) .bad) .bad) (.out ((y0,y1)))) .bad
def g_Ls_l3Plain_0 (x:Int×ByteArray):Option ((Int×ByteArray)) := loopO (g_Ss_l3Plain_0) x
def xs_l3Plain_0:((Int×ByteArray)) → Ex×List (Pl×LV) := fun r => (.exit 0,[(.T 0,.t (.val false [.int .i64 r.1])),(.T 3,.t (.val false [.str r.2]))])
def Os_l3Plain_1:Orc := fun b h => match b,h with
 | 0,[(.T 0,.t (.val false [.int .i64 y0])),(.T 3,.t (.val false [.str y1]))] => some (okO (g_Ls_l3Plain_0 (y0,y1)),(.leaf (.exit 0) [(.T 0,.t (.val false [.int .i64 (valO (g_Ls_l3Plain_0 (y0,y1))).1])),(.T 3,.t (.val false [.str (valO (g_Ls_l3Plain_0 (y0,y1))).2]))]))
 | b,h => Os_l3Plain_0 b h
theorem bs_l3Plain_0 (y0:Int) (y1:ByteArray):Tr.bt Es_l3Plain Os_l3Plain_0 (exec Es_l3Plain 0 cs_l3Plain_0 (St.of (hs_l3Plain_0 y0 y1)) (leafRd Es_l3Plain 0)) = (g_Ss_l3Plain_0 (y0,y1)).bt (fun ((y0,y1):Int×ByteArray) => (hs_l3Plain_0 y0 y1)) (xs_l3Plain_0) := by kernel_rfl
theorem ks_l3Plain_1:OrcOk Es_l3Plain Os_l3Plain_1 lss_l3Plain 1 := orc_add ks_l3Plain_0 (fun n p hp h ex h' ho => by
 obtain ⟨b,c⟩ := p
 obtain ⟨xt,h1,h2⟩ := ho
 have h1:Os_l3Plain_1 b h = some (true,xt) := h1
 unfold Os_l3Plain_1 at h1
 split at h1
 ·injection h1 with h1
  injection h1 with e1 e2
  subst e2
  have hc:c = cs_l3Plain_0 := ms_l3Plain_0 _ hp rfl
  subst hc
  right
  rename_i y0 y1
  have key := LT_step ks_l3Plain_0 hp (fun q hq => loopsAll_in _ _ _ _ hp hq) (fun ((y0,y1):Int×ByteArray) => (hs_l3Plain_0 y0 y1)) (xs_l3Plain_0) (g_Ss_l3Plain_0) (fun x => by first | exact bs_l3Plain_0 x.1 x.2) n (x := (y0,y1)) (okO_some e1)
  have hx:∀ r,XT.sel (.leaf (.exit 0) [(.T 0,.t (.val false [.int .i64 r.1])),(.T 3,.t (.val false [.str r.2]))]) = xs_l3Plain_0 r := fun r => by first | rfl | rcases r with r | r <;> rfl | rcases r with r | r | r <;> rfl | rcases r with r | r | r | r <;> rfl
  have h3 := (hx (valO (g_Ls_l3Plain_0 (y0,y1)))).symm.trans h2
  have e3 := congrArg Prod.fst h3
  have e4 := congrArg Prod.snd h3
  simp only at e3 e4
  rw [← e3,← e4]
  exact key
 ·exact .inl ⟨xt,h1,h2⟩)
def g_As_l3Plain (a0:Int):Bool := okO (g_Ls_l3Plain_0 (a0,lit []))&&decide (ByteArray.size (g_Vs_l3Digit_0 (valO (g_Ls_l3Plain_0 (a0,lit []))).1) + ByteArray.size (valO (g_Ls_l3Plain_0 (a0,lit []))).2 ≤ nat_lit 9223372036854775807)
def g_Vs_l3Plain_0 (a0:Int):ByteArray := g_Vs_l3Digit_0 (valO (g_Ls_l3Plain_0 (a0,lit []))).1 ++ (valO (g_Ls_l3Plain_0 (a0,lit []))).2
def Fs_l3Plain:FSem := fun ys => match ys with
 | [.val false [.int .i64 a0]] => some ((g_As_l3Plain a0),.val false [.str (g_Vs_l3Plain_0 a0)],[])
 | _ => none
theorem vs_l3Plain (a0:Int):collapseH .std Es_l3Plain Os_l3Plain_1 (execFn Es_l3Plain Tryz.f106 mss_l3Plain [.val false [.int .i64 a0]]) = some ((g_As_l3Plain a0),.val false [.str (g_Vs_l3Plain_0 a0)],[]) := by kernel_rfl
theorem ss_l3Plain:Sound Tryz.prog 106 mss_l3Plain Fs_l3Plain := by
 refine fn_gen goods_l3Plain (by kernel_rfl) .std (fn := Tryz.f106) (c := (Tryz.f106.body.getD .skip)) (o := Os_l3Plain_1) (k := 1) (by kernel_rfl) (by kernel_rfl) (by kernel_rfl) (by kernel_rfl) (by decide) ks_l3Plain_1 ?_
 intro ys r outs h
 unfold Fs_l3Plain at h
 split at h
 ·exact (vs_l3Plain _).trans h
 ·cases h
def Es_l3Plan:Env where
 tt := mkTI Tryz.prog
 fn := fun f => match f with
  | 104 => some (mss_l3In,FSem.wk mss_l3In Fs_l3In)
  | 105 => some (mss_l3May,FSem.wk mss_l3May Fs_l3May)
  | 106 => some (mss_l3Plain,FSem.wk mss_l3Plain Fs_l3Plain)
  | 107 => some (mss_l1Get,FSem.wk mss_l1Get Fs_l1Get)
  | 108 => some (mss_l3No,FSem.wk mss_l3No Fs_l3No)
  | _ => none
 bxf := fun _ => none
 mv := []
 keep := fun _ => []
 keepB := fun _ => []
 keepX := fun _ => []
 keepXB := fun _ => []
theorem goodFs_l3Plan:∀ f ms F,Es_l3Plan.fn f = some (ms,F) → Sound Tryz.prog f ms F := fun f ms F h => by
 unfold Es_l3Plan at h
 dsimp only at h
 split at h
 ·exact gF ss_l3In h
 ·exact gF ss_l3May h
 ·exact gF ss_l3Plain h
 ·exact gF ss_l1Get h
 ·exact gF ss_l3No h
 ·cases h
theorem goods_l3Plan:Good Tryz.prog Es_l3Plan := ⟨rfl,goodFs_l3Plan,fun f ms F h => by cases h⟩
def Os_l3Plan_0:Orc := fun _ _ => none
def mss_l3Plan:List PM := [.own,.rd,.own,.own]
def lss_l3Plan:List (Nat×Code) := loopsAll 0 (Tryz.f61.body.getD .skip)
theorem ks_l3Plan_0:OrcOk Es_l3Plan Os_l3Plan_0 lss_l3Plan 0 := orcOk_none
def g_As_l3Plan (a0:Int) (a1:tS) (a2:Int) (a3:Int) (a4:Int) (a5:Int) (a6:Int) (a7:Int) (a8:Int) (a9:Int):Bool := bif a0 == 1 then g_As_l3In a1 a3 a4 a5 a6 a7 a8 a9 else bif a0 == 2 then g_As_l3May a1 a3 a4 a5 a6 a7 a8 a9 else g_As_l3Plain a2&&(decide (nat_lit 1 + ByteArray.size (g_Vs_l3Plain_0 a2) ≤ nat_lit 9223372036854775807)&&(g_As_l1Get a1 (lit [(97:Nat)] ++ g_Vs_l3Plain_0 a2)&&(!g_Vs_l1Get_1 a1 (lit [(97:Nat)] ++ g_Vs_l3Plain_0 a2) || g_As_l3No [lit [(97:Nat)] ++ g_Vs_l3Plain_0 a2])))
def g_Vs_l3Plan_0 (a0:Int) (a1:tS) (a2:Int) (a3:Int) (a4:Int) (a5:Int) (a6:Int) (a7:Int) (a8:Int) (a9:Int):Bool := bif a0 == 1 then g_Vs_l3In_0 a1 a3 a4 a5 a6 a7 a8 a9 else bif a0 == 2 then g_Vs_l3May_0 a1 a3 a4 a5 a6 a7 a8 a9 else bif g_Vs_l1Get_1 a1 (lit [(97:Nat)] ++ g_Vs_l3Plain_0 a2) then false else true
def g_Vs_l3Plan_1 (a0:Int) (a1:tS) (a2:Int) (a3:Int) (a4:Int) (a5:Int) (a6:Int) (a7:Int) (a8:Int) (a9:Int):List ByteArray := bif a0 == 1 then g_Vs_l3In_1 a1 a3 a4 a5 a6 a7 a8 a9 else bif a0 == 2 then g_Vs_l3May_1 a1 a3 a4 a5 a6 a7 a8 a9 else bif g_Vs_l1Get_1 a1 (lit [(97:Nat)] ++ g_Vs_l3Plain_0 a2) then g_Vs_l3No_0 [lit [(97:Nat)] ++ g_Vs_l3Plain_0 a2] else [lit [(97:Nat)] ++ g_Vs_l3Plain_0 a2]
def g_Vs_l3Plan_2 (a0:Int) (a1:tS) (a2:Int) (a3:Int) (a4:Int) (a5:Int) (a6:Int) (a7:Int) (a8:Int) (a9:Int):tW := bif a0 == 1 then g_Vs_l3In_2 a1 a3 a4 a5 a6 a7 a8 a9 else bif a0 == 2 then g_Vs_l3May_2 a1 a3 a4 a5 a6 a7 a8 a9 else bif g_Vs_l1Get_1 a1 (lit [(97:Nat)] ++ g_Vs_l3Plain_0 a2) then g_Vs_l3No_1 [lit [(97:Nat)] ++ g_Vs_l3Plain_0 a2] else [(lit [(97:Nat)] ++ g_Vs_l3Plain_0 a2,false,[a3])]
def Fs_l3Plan:FSem := fun ys => match ys with
 | [.val false [.int .i64 a0],.val true [.sl .any 49 (.pair .str (.sl 3 (.int .i64))) a1],.val false [.int .i64 a2],.val true [.int .i64 a3,.int .i64 a4,.int .i64 a5,.int .i64 a6,.int .i64 a7,.int .i64 a8,.int .i64 a9]] => some ((g_As_l3Plan a0 a1 a2 a3 a4 a5 a6 a7 a8 a9),.val true [.bool (g_Vs_l3Plan_0 a0 a1 a2 a3 a4 a5 a6 a7 a8 a9),.own .any true 9 .str (g_Vs_l3Plan_1 a0 a1 a2 a3 a4 a5 a6 a7 a8 a9),.own .any true 39 (.pair .str (.pair .bool (.sl 3 (.int .i64)))) (g_Vs_l3Plan_2 a0 a1 a2 a3 a4 a5 a6 a7 a8 a9)],[])
 | _ => none
theorem vs_l3Plan (a0:Int) (a1:tS) (a2:Int) (a3:Int) (a4:Int) (a5:Int) (a6:Int) (a7:Int) (a8:Int) (a9:Int):collapseH .std Es_l3Plan Os_l3Plan_0 (execFn Es_l3Plan Tryz.f61 mss_l3Plan [.val false [.int .i64 a0],.val true [.sl .any 49 (.pair .str (.sl 3 (.int .i64))) a1],.val false [.int .i64 a2],.val true [.int .i64 a3,.int .i64 a4,.int .i64 a5,.int .i64 a6,.int .i64 a7,.int .i64 a8,.int .i64 a9]]) = some ((g_As_l3Plan a0 a1 a2 a3 a4 a5 a6 a7 a8 a9),.val true [.bool (g_Vs_l3Plan_0 a0 a1 a2 a3 a4 a5 a6 a7 a8 a9),.own .any true 9 .str (g_Vs_l3Plan_1 a0 a1 a2 a3 a4 a5 a6 a7 a8 a9),.own .any true 39 (.pair .str (.pair .bool (.sl 3 (.int .i64)))) (g_Vs_l3Plan_2 a0 a1 a2 a3 a4 a5 a6 a7 a8 a9)],[]) := by kernel_rfl
theorem ss_l3Plan:Sound Tryz.prog 61 mss_l3Plan Fs_l3Plan := by
 refine fn_gen goods_l3Plan (by kernel_rfl) .std (fn := Tryz.f61) (c := (Tryz.f61.body.getD .skip)) (o := Os_l3Plan_0) (k := 0) (by kernel_rfl) (by kernel_rfl) (by kernel_rfl) (by kernel_rfl) (by decide) ks_l3Plan_0 ?_
 intro ys r outs h
 unfold Fs_l3Plan at h
 split at h
 ·exact (vs_l3Plan _ _ _ _ _ _ _ _ _ _).trans h
 ·cases h
def Es_l4Do:Env where
 tt := mkTI Tryz.prog
 fn := fun f => match f with
  | 41 => some (mss_OpPlaces,FSem.wk mss_OpPlaces Fs_OpPlaces)
  | 61 => some (mss_l3Plan,FSem.wk mss_l3Plan Fs_l3Plan)
  | 67 => some (mss_StoDo,FSem.wk mss_StoDo Fs_StoDo)
  | 87 => some (mss_l4Copy,FSem.wk mss_l4Copy Fs_l4Copy)
  | _ => none
 bxf := fun _ => none
 mv := []
 keep := fun b => match b with
  | 0 => [(0,false),(1,false),(5,false),(8,false),(9,true),(10,false)]
  | _ => []
 keepB := fun b => match b with
  | 0 => [(5,false)]
  | _ => []
 keepX := fun b => match b with
  | 0 => [(6,false),(7,false),(9,true)]
  | _ => []
 keepXB := fun b => match b with
  | 0 => []
  | _ => []
theorem goodFs_l4Do:∀ f ms F,Es_l4Do.fn f = some (ms,F) → Sound Tryz.prog f ms F := fun f ms F h => by
 unfold Es_l4Do at h
 dsimp only at h
 split at h
 ·exact gF ss_OpPlaces h
 ·exact gF ss_l3Plan h
 ·exact gF ss_StoDo h
 ·exact gF ss_l4Copy h
 ·cases h
theorem goods_l4Do:Good Tryz.prog Es_l4Do := ⟨rfl,goodFs_l4Do,fun f ms F h => by cases h⟩
def Os_l4Do_0:Orc := fun _ _ => none
def mss_l4Do:List PM := [.fz,.own,.own]
def lss_l4Do:List (Nat×Code) := loopsAll 0 (Tryz.f86.body.getD .skip)
def cs_l4Do_0:Code := (loopOf 0 (Tryz.f86.body.getD .skip)).getD .skip
theorem lseqs_l4Do:lss_l4Do = [(0,cs_l4Do_0)] := by kernel_rfl
theorem ms_l4Do_0:∀ p,p ∈ lss_l4Do → p.1 = 0 → p.2 = cs_l4Do_0 := by
 intro p hp
 rw [lseqs_l4Do] at hp
 simp only [List.mem_cons,List.not_mem_nil,or_false] at hp
 subst hp; simp
theorem ks_l4Do_0:OrcOk Es_l4Do Os_l4Do_0 lss_l4Do 0 := orcOk_none
def hs_l4Do_0 (y0:List tS) (y1:Int) (y2:List Int) (y3:List tS) (y4:Int) (y5:Int) (y6:Int) (y7:Int) (y8:Int) (y9:Int) (y10:Int) (y11:Int):List (Pl×LV) := [(.T 0,.t (.val false [.sl .any 25 (.sl 49 (.pair .str (.sl 3 (.int .i64)))) y0])),(.T 1,.t (.val false [.int .i64 y1])),(.T 5,.t (.val false [.ptr 5 0 0])),(.T 8,.t (.val false [.row 8 0 0])),(.R 8 0,.r 0 (some ⟨false,.any,true,3,(.int .i64),y2⟩)),(.T 9,.t (.val false [.row 9 0 0])),(.R 9 0,.r 0 (some ⟨false,.any,false,25,(.sl 49 (.pair .str (.sl 3 (.int .i64)))),y3⟩)),(.T 10,.t (.val false [.int .i64 y4])),(.B 5,.b 0 false [.int .i64 y5,.int .i64 y6,.int .i64 y7,.int .i64 y8,.int .i64 y9,.int .i64 y10,.int .i64 y11])]
def g_Ss_l4Do_0 (y0:List tS) (y1:Int) (y2:List Int) (y5:Int) (y6:Int) (y7:Int) (y8:Int) (y9:Int) (y10:Int) (y11:Int):((List tS)×Int) → RT ((List tS)×Int) ((Bool×(List tS)) ⊕ ((List tS)))
 | (y3,y4) => .br (true) (.br (decide (y4 < (y2.length:Int))) (.br (decide (0 ≤ y4 ∧ y4 < (y2.length:Int))) (.br (decide (Int.toNat y4 < List.length y2)) (.br (decide (0 ≤ y4 ∧ y4 < (y2.length:Int))) (.br (decide (Int.toNat y4 < List.length y2)) (.br (true) (.br (decide (0 ≤ IntKind.i64.wrap (at_ (.int .i64) y2 (Int.toNat y4) - 1) ∧ IntKind.i64.wrap (at_ (.int .i64) y2 (Int.toNat y4) - 1) < (y0.length:Int))) (.br (g_As_l3Plan (at_ (.int .i64) y2 (Int.toNat y4)) (at_ (.sl (nat_lit 49) (.pair .str (.sl (nat_lit 3) (.int .i64)))) y0 (Int.toNat (IntKind.i64.wrap (at_ (.int .i64) y2 (Int.toNat y4) - 1)))) y1 y5 y6 y7 y8 y9 y10 y11) (.br (!g_Vs_l3Plan_0 (at_ (.int .i64) y2 (Int.toNat y4)) (at_ (.sl (nat_lit 49) (.pair .str (.sl (nat_lit 3) (.int .i64)))) y0 (Int.toNat (IntKind.i64.wrap (at_ (.int .i64) y2 (Int.toNat y4) - 1)))) y1 y5 y6 y7 y8 y9 y10 y11) (.out (.inl ((false,y3)))) (.br (decide (0 ≤ y4 ∧ y4 < (y2.length:Int))) (.br (decide (Int.toNat y4 < List.length y2)) (.br (true) (.br (decide (0 ≤ y4 ∧ y4 < (y2.length:Int))) (.br (decide (Int.toNat y4 < List.length y2)) (.br (true) (.br (decide (0 ≤ IntKind.i64.wrap (at_ (.int .i64) y2 (Int.toNat y4) - 1) ∧ IntKind.i64.wrap (at_ (.int .i64) y2 (Int.toNat y4) - 1) < (y3.length:Int))) (.br (decide (Int.toNat (IntKind.i64.wrap (at_ (.int .i64) y2 (Int.toNat y4) - 1)) < List.length y3)) (.br (g_As_StoDo (at_ (.sl (nat_lit 49) (.pair .str (.sl (nat_lit 3) (.int .i64)))) y3 (Int.toNat (IntKind.i64.wrap (at_ (.int .i64) y2 (Int.toNat y4) - 1)))) (g_Vs_l3Plan_2 (at_ (.int .i64) y2 (Int.toNat y4)) (at_ (.sl (nat_lit 49) (.pair .str (.sl (nat_lit 3) (.int .i64)))) y0 (Int.toNat (IntKind.i64.wrap (at_ (.int .i64) y2 (Int.toNat y4) - 1)))) y1 y5 y6 y7 y8 y9 y10 y11)) (.br (decide (0 ≤ IntKind.i64.wrap (at_ (.int .i64) y2 (Int.toNat y4) - 1) ∧ IntKind.i64.wrap (at_ (.int .i64) y2 (Int.toNat y4) - 1) < (y3.length:Int))) (.br (decide (Int.toNat (IntKind.i64.wrap (at_ (.int .i64) y2 (Int.toNat y4) - 1)) < List.length y3)) (.br (true) (.go ((List.set y3 (Int.toNat (IntKind.i64.wrap (at_ (.int .i64) y2 (Int.toNat y4) - 1))) (g_Vs_StoDo_0 (at_ (.sl (nat_lit 49) (.pair .str (.sl (nat_lit 3) (.int .i64)))) y3 (Int.toNat (IntKind.i64.wrap (at_ (.int .i64) y2 (Int.toNat y4) - 1)))) (g_Vs_l3Plan_2 (at_ (.int .i64) y2 (Int.toNat y4)) (at_ (.sl (nat_lit 49) (.pair .str (.sl (nat_lit 3) (.int .i64)))) y0 (Int.toNat (IntKind.i64.wrap (at_ (.int .i64) y2 (Int.toNat y4) - 1)))) y1 y5 y6 y7 y8 y9 y10 y11)),IntKind.i64.wrap (y4 + 1)))) .bad) .bad) .bad) .bad) .bad) .bad) .bad) .bad) .bad) .bad) .bad) .bad)) .bad) .bad) .bad) .bad) .bad) .bad) .bad) (.out (.inr (y3)))) .bad
def g_Ls_l4Do_0 (y0:List tS) (y1:Int) (y2:List Int) (y5:Int) (y6:Int) (y7:Int) (y8:Int) (y9:Int) (y10:Int) (y11:Int) (x:(List tS)×Int):Option ((Bool×(List tS)) ⊕ ((List tS))) := loopO (g_Ss_l4Do_0 y0 y1 y2 y5 y6 y7 y8 y9 y10 y11) x
def xs_l4Do_0 (y0:List tS) (y1:Int) (y2:List Int) (y5:Int) (y6:Int) (y7:Int) (y8:Int) (y9:Int) (y10:Int) (y11:Int):((Bool×(List tS)) ⊕ ((List tS))) → Ex×List (Pl×LV) := fun
 | .inl r => (.ret,[(.T 6,.t (.val false [.sl .any 25 (.sl 49 (.pair .str (.sl 3 (.int .i64)))) y0])),(.T 7,.t (.val false [.bool r.1])),(.T 9,.t (.val false [.row 9 0 0])),(.R 9 0,.r 0 (some ⟨false,.any,false,25,(.sl 49 (.pair .str (.sl 3 (.int .i64)))),r.2⟩))])
 | .inr (r) => (.exit 0,[(.T 6,.t (.val false [.undef])),(.T 7,.t (.val false [.undef])),(.T 9,.t (.val false [.row 9 0 0])),(.R 9 0,.r 0 (some ⟨false,.any,false,25,(.sl 49 (.pair .str (.sl 3 (.int .i64)))),r⟩))])
def Os_l4Do_1:Orc := fun b h => match b,h with
 | 0,[(.T 0,.t (.val false [.sl .any 25 (.sl 49 (.pair .str (.sl 3 (.int .i64)))) y0])),(.T 1,.t (.val false [.int .i64 y1])),(.T 5,.t (.val false [.ptr 5 0 0])),(.T 8,.t (.val false [.row 8 0 0])),(.R 8 0,.r 0 (some ⟨false,.any,true,3,(.int .i64),y2⟩)),(.T 9,.t (.val false [.row 9 0 0])),(.R 9 0,.r 0 (some ⟨false,.any,false,25,(.sl 49 (.pair .str (.sl 3 (.int .i64)))),y3⟩)),(.T 10,.t (.val false [.int .i64 y4])),(.B 5,.b 0 false [.int .i64 y5,.int .i64 y6,.int .i64 y7,.int .i64 y8,.int .i64 y9,.int .i64 y10,.int .i64 y11])] => some (okO (g_Ls_l4Do_0 y0 y1 y2 y5 y6 y7 y8 y9 y10 y11 (y3,y4)),(.br (isL (valO (g_Ls_l4Do_0 y0 y1 y2 y5 y6 y7 y8 y9 y10 y11 (y3,y4)))) (.leaf .ret [(.T 6,.t (.val false [.sl .any 25 (.sl 49 (.pair .str (.sl 3 (.int .i64)))) y0])),(.T 7,.t (.val false [.bool (getL (valO (g_Ls_l4Do_0 y0 y1 y2 y5 y6 y7 y8 y9 y10 y11 (y3,y4)))).1])),(.T 9,.t (.val false [.row 9 0 0])),(.R 9 0,.r 0 (some ⟨false,.any,false,25,(.sl 49 (.pair .str (.sl 3 (.int .i64)))),(getL (valO (g_Ls_l4Do_0 y0 y1 y2 y5 y6 y7 y8 y9 y10 y11 (y3,y4)))).2⟩))]) (.leaf (.exit 0) [(.T 6,.t (.val false [.undef])),(.T 7,.t (.val false [.undef])),(.T 9,.t (.val false [.row 9 0 0])),(.R 9 0,.r 0 (some ⟨false,.any,false,25,(.sl 49 (.pair .str (.sl 3 (.int .i64)))),(getR (valO (g_Ls_l4Do_0 y0 y1 y2 y5 y6 y7 y8 y9 y10 y11 (y3,y4))))⟩))])))
 | b,h => Os_l4Do_0 b h
theorem bs_l4Do_0 (y0:List tS) (y1:Int) (y2:List Int) (y3:List tS) (y4:Int) (y5:Int) (y6:Int) (y7:Int) (y8:Int) (y9:Int) (y10:Int) (y11:Int):Tr.bt Es_l4Do Os_l4Do_0 (exec Es_l4Do 0 cs_l4Do_0 (St.of (hs_l4Do_0 y0 y1 y2 y3 y4 y5 y6 y7 y8 y9 y10 y11)) (leafRd Es_l4Do 0)) = (g_Ss_l4Do_0 y0 y1 y2 y5 y6 y7 y8 y9 y10 y11 (y3,y4)).bt (fun ((y3,y4):(List tS)×Int) => (hs_l4Do_0 y0 y1 y2 y3 y4 y5 y6 y7 y8 y9 y10 y11)) (xs_l4Do_0 y0 y1 y2 y5 y6 y7 y8 y9 y10 y11) := by kernel_rfl
theorem ks_l4Do_1:OrcOk Es_l4Do Os_l4Do_1 lss_l4Do 1 := orc_add ks_l4Do_0 (fun n p hp h ex h' ho => by
 obtain ⟨b,c⟩ := p
 obtain ⟨xt,h1,h2⟩ := ho
 have h1:Os_l4Do_1 b h = some (true,xt) := h1
 unfold Os_l4Do_1 at h1
 split at h1
 ·injection h1 with h1
  injection h1 with e1 e2
  subst e2
  have hc:c = cs_l4Do_0 := ms_l4Do_0 _ hp rfl
  subst hc
  right
  rename_i y0 y1 y2 y3 y4 y5 y6 y7 y8 y9 y10 y11
  have key := LT_step ks_l4Do_0 hp (fun q hq => loopsAll_in _ _ _ _ hp hq) (fun ((y3,y4):(List tS)×Int) => (hs_l4Do_0 y0 y1 y2 y3 y4 y5 y6 y7 y8 y9 y10 y11)) (xs_l4Do_0 y0 y1 y2 y5 y6 y7 y8 y9 y10 y11) (g_Ss_l4Do_0 y0 y1 y2 y5 y6 y7 y8 y9 y10 y11) (fun x => by first | exact bs_l4Do_0 y0 y1 y2 x.1 x.2 y5 y6 y7 y8 y9 y10 y11) n (x := (y3,y4)) (okO_some e1)
  have hx:∀ r,XT.sel (.br (isL r) (.leaf .ret [(.T 6,.t (.val false [.sl .any 25 (.sl 49 (.pair .str (.sl 3 (.int .i64)))) y0])),(.T 7,.t (.val false [.bool (getL r).1])),(.T 9,.t (.val false [.row 9 0 0])),(.R 9 0,.r 0 (some ⟨false,.any,false,25,(.sl 49 (.pair .str (.sl 3 (.int .i64)))),(getL r).2⟩))]) (.leaf (.exit 0) [(.T 6,.t (.val false [.undef])),(.T 7,.t (.val false [.undef])),(.T 9,.t (.val false [.row 9 0 0])),(.R 9 0,.r 0 (some ⟨false,.any,false,25,(.sl 49 (.pair .str (.sl 3 (.int .i64)))),(getR r)⟩))])) = xs_l4Do_0 y0 y1 y2 y5 y6 y7 y8 y9 y10 y11 r := fun r => by first | rfl | rcases r with r | r <;> rfl | rcases r with r | r | r <;> rfl | rcases r with r | r | r | r <;> rfl
  have h3 := (hx (valO (g_Ls_l4Do_0 y0 y1 y2 y5 y6 y7 y8 y9 y10 y11 (y3,y4)))).symm.trans h2
  have e3 := congrArg Prod.fst h3
  have e4 := congrArg Prod.snd h3
  simp only at e3 e4
  rw [← e3,← e4]
  exact key
 ·exact .inl ⟨xt,h1,h2⟩)
def g_As_l4Do (a0:List tS) (a1:Int) (a2:Int) (a3:Int) (a4:Int) (a5:Int) (a6:Int) (a7:Int) (a8:Int):Bool := g_As_OpPlaces a2 a3 a4 a5 a6 a7 a8&&(g_As_l4Copy a0&&okO (g_Ls_l4Do_0 a0 a1 (g_Vs_OpPlaces_0 a2 a3 a4 a5 a6 a7 a8) a2 a3 a4 a5 a6 a7 a8 (g_Vs_l4Copy_0 a0,(0:Int))))
def g_Vs_l4Do_0 (a0:List tS) (a1:Int) (a2:Int) (a3:Int) (a4:Int) (a5:Int) (a6:Int) (a7:Int) (a8:Int):List tS := bif isL (valO (g_Ls_l4Do_0 a0 a1 (g_Vs_OpPlaces_0 a2 a3 a4 a5 a6 a7 a8) a2 a3 a4 a5 a6 a7 a8 (g_Vs_l4Copy_0 a0,(0:Int)))) then a0 else getR (valO (g_Ls_l4Do_0 a0 a1 (g_Vs_OpPlaces_0 a2 a3 a4 a5 a6 a7 a8) a2 a3 a4 a5 a6 a7 a8 (g_Vs_l4Copy_0 a0,(0:Int))))
def g_Vs_l4Do_1 (a0:List tS) (a1:Int) (a2:Int) (a3:Int) (a4:Int) (a5:Int) (a6:Int) (a7:Int) (a8:Int):Bool := bif isL (valO (g_Ls_l4Do_0 a0 a1 (g_Vs_OpPlaces_0 a2 a3 a4 a5 a6 a7 a8) a2 a3 a4 a5 a6 a7 a8 (g_Vs_l4Copy_0 a0,(0:Int)))) then (getL (valO (g_Ls_l4Do_0 a0 a1 (g_Vs_OpPlaces_0 a2 a3 a4 a5 a6 a7 a8) a2 a3 a4 a5 a6 a7 a8 (g_Vs_l4Copy_0 a0,(0:Int))))).1 else true
def Fs_l4Do:FSem := fun ys => match ys with
 | [.val false [.sl .any 25 (.sl 49 (.pair .str (.sl 3 (.int .i64)))) a0],.val false [.int .i64 a1],.val true [.int .i64 a2,.int .i64 a3,.int .i64 a4,.int .i64 a5,.int .i64 a6,.int .i64 a7,.int .i64 a8]] => some ((g_As_l4Do a0 a1 a2 a3 a4 a5 a6 a7 a8),.tup [(false,[.sl .any 25 (.sl 49 (.pair .str (.sl 3 (.int .i64)))) (g_Vs_l4Do_0 a0 a1 a2 a3 a4 a5 a6 a7 a8)]),(false,[.bool (g_Vs_l4Do_1 a0 a1 a2 a3 a4 a5 a6 a7 a8)])],[])
 | _ => none
theorem vs_l4Do (a0:List tS) (a1:Int) (a2:Int) (a3:Int) (a4:Int) (a5:Int) (a6:Int) (a7:Int) (a8:Int):collapseH .fr Es_l4Do Os_l4Do_1 (execFn Es_l4Do Tryz.f86 mss_l4Do [.val false [.sl .any 25 (.sl 49 (.pair .str (.sl 3 (.int .i64)))) a0],.val false [.int .i64 a1],.val true [.int .i64 a2,.int .i64 a3,.int .i64 a4,.int .i64 a5,.int .i64 a6,.int .i64 a7,.int .i64 a8]]) = some ((g_As_l4Do a0 a1 a2 a3 a4 a5 a6 a7 a8),.tup [(false,[.sl .any 25 (.sl 49 (.pair .str (.sl 3 (.int .i64)))) (g_Vs_l4Do_0 a0 a1 a2 a3 a4 a5 a6 a7 a8)]),(false,[.bool (g_Vs_l4Do_1 a0 a1 a2 a3 a4 a5 a6 a7 a8)])],[]) := by kernel_rfl
theorem ss_l4Do:Sound Tryz.prog 86 mss_l4Do Fs_l4Do := by
 refine fn_gen goods_l4Do (by kernel_rfl) .fr (fn := Tryz.f86) (c := (Tryz.f86.body.getD .skip)) (o := Os_l4Do_1) (k := 1) (by kernel_rfl) (by kernel_rfl) (by kernel_rfl) (by kernel_rfl) (by decide) ks_l4Do_1 ?_
 intro ys r outs h
 unfold Fs_l4Do at h
 split at h
 ·exact (vs_l4Do _ _ _ _ _ _ _ _ _).trans h
 ·cases h
def Es_GloDo:Env where
 tt := mkTI Tryz.prog
 fn := fun f => match f with
  | 16 => some (mss_GloOk,FSem.wk mss_GloOk Fs_GloOk)
  | 58 => some (mss_OpOk,FSem.wk mss_OpOk Fs_OpOk)
  | 59 => some (mss_l1In,FSem.wk mss_l1In Fs_l1In)
  | 86 => some (mss_l4Do,FSem.wk mss_l4Do Fs_l4Do)
  | 87 => some (mss_l4Copy,FSem.wk mss_l4Copy Fs_l4Copy)
  | _ => none
 bxf := fun _ => none
 mv := []
 keep := fun _ => []
 keepB := fun _ => []
 keepX := fun _ => []
 keepXB := fun _ => []
theorem goodFs_GloDo:∀ f ms F,Es_GloDo.fn f = some (ms,F) → Sound Tryz.prog f ms F := fun f ms F h => by
 unfold Es_GloDo at h
 dsimp only at h
 split at h
 ·exact gF ss_GloOk h
 ·exact gF ss_OpOk h
 ·exact gF ss_l1In h
 ·exact gF ss_l4Do h
 ·exact gF ss_l4Copy h
 ·cases h
theorem goods_GloDo:Good Tryz.prog Es_GloDo := ⟨rfl,goodFs_GloDo,fun f ms F h => by cases h⟩
def Os_GloDo_0:Orc := fun _ _ => none
def mss_GloDo:List PM := [.rd,.own,.own]
def lss_GloDo:List (Nat×Code) := loopsAll 0 (Tryz.f37.body.getD .skip)
theorem ks_GloDo_0:OrcOk Es_GloDo Os_GloDo_0 lss_GloDo 0 := orcOk_none
def g_As_GloDo (a0:List tS) (a1:Int) (a2:Int) (a3:Int) (a4:Int) (a5:Int) (a6:Int) (a7:Int) (a8:Int):Bool := g_As_GloOk a0&&(!g_Vs_GloOk_0 a0 || g_As_OpOk a2 a3 a4 a5 a6 a7 a8&&(!g_Vs_OpOk_0 a2 a3 a4 a5 a6 a7 a8 || g_As_l1In a1 (0:Int) (29:Int)&&(!g_Vs_l1In_0 a1 (0:Int) (29:Int) || g_As_l4Do a0 a1 a2 a3 a4 a5 a6 a7 a8&&g_As_l4Copy (g_Vs_l4Do_0 a0 a1 a2 a3 a4 a5 a6 a7 a8))))
def g_Vs_GloDo_0 (a0:List tS) (a1:Int) (a2:Int) (a3:Int) (a4:Int) (a5:Int) (a6:Int) (a7:Int) (a8:Int):List tS := bif !g_Vs_GloOk_0 a0 then [] else bif !g_Vs_OpOk_0 a2 a3 a4 a5 a6 a7 a8 then [] else bif !g_Vs_l1In_0 a1 (0:Int) (29:Int) then [] else g_Vs_l4Copy_0 (g_Vs_l4Do_0 a0 a1 a2 a3 a4 a5 a6 a7 a8)
def g_Vs_GloDo_1 (a0:List tS) (a1:Int) (a2:Int) (a3:Int) (a4:Int) (a5:Int) (a6:Int) (a7:Int) (a8:Int):Bool := bif !g_Vs_GloOk_0 a0 then false else bif !g_Vs_OpOk_0 a2 a3 a4 a5 a6 a7 a8 then false else bif !g_Vs_l1In_0 a1 (0:Int) (29:Int) then false else g_Vs_l4Do_1 a0 a1 a2 a3 a4 a5 a6 a7 a8
def Fs_GloDo:FSem := fun ys => match ys with
 | [.val false [.sl .any 25 (.sl 49 (.pair .str (.sl 3 (.int .i64)))) a0],.val false [.int .i64 a1],.val true [.int .i64 a2,.int .i64 a3,.int .i64 a4,.int .i64 a5,.int .i64 a6,.int .i64 a7,.int .i64 a8]] => some ((g_As_GloDo a0 a1 a2 a3 a4 a5 a6 a7 a8),.tup [(false,[.own .any true 25 (.sl 49 (.pair .str (.sl 3 (.int .i64)))) (g_Vs_GloDo_0 a0 a1 a2 a3 a4 a5 a6 a7 a8)]),(false,[.bool (g_Vs_GloDo_1 a0 a1 a2 a3 a4 a5 a6 a7 a8)])],[])
 | _ => none
theorem vs_GloDo (a0:List tS) (a1:Int) (a2:Int) (a3:Int) (a4:Int) (a5:Int) (a6:Int) (a7:Int) (a8:Int):collapseH .std Es_GloDo Os_GloDo_0 (execFn Es_GloDo Tryz.f37 mss_GloDo [.val false [.sl .any 25 (.sl 49 (.pair .str (.sl 3 (.int .i64)))) a0],.val false [.int .i64 a1],.val true [.int .i64 a2,.int .i64 a3,.int .i64 a4,.int .i64 a5,.int .i64 a6,.int .i64 a7,.int .i64 a8]]) = some ((g_As_GloDo a0 a1 a2 a3 a4 a5 a6 a7 a8),.tup [(false,[.own .any true 25 (.sl 49 (.pair .str (.sl 3 (.int .i64)))) (g_Vs_GloDo_0 a0 a1 a2 a3 a4 a5 a6 a7 a8)]),(false,[.bool (g_Vs_GloDo_1 a0 a1 a2 a3 a4 a5 a6 a7 a8)])],[]) := by kernel_rfl
theorem ss_GloDo:Sound Tryz.prog 37 mss_GloDo Fs_GloDo := by
 refine fn_gen goods_GloDo (by kernel_rfl) .std (fn := Tryz.f37) (c := (Tryz.f37.body.getD .skip)) (o := Os_GloDo_0) (k := 0) (by kernel_rfl) (by kernel_rfl) (by kernel_rfl) (by kernel_rfl) (by decide) ks_GloDo_0 ?_
 intro ys r outs h
 unfold Fs_GloDo at h
 split at h
 ·exact (vs_GloDo _ _ _ _ _ _ _ _ _).trans h
 ·cases h
def Es_GloNew:Env where
 tt := mkTI Tryz.prog
 fn := fun _ => none
 bxf := fun _ => none
 mv := []
 keep := fun _ => []
 keepB := fun _ => []
 keepX := fun _ => []
 keepXB := fun _ => []
theorem goodFs_GloNew:∀ f ms F,Es_GloNew.fn f = some (ms,F) → Sound Tryz.prog f ms F := fun f ms F h => by cases h
theorem goods_GloNew:Good Tryz.prog Es_GloNew := ⟨rfl,goodFs_GloNew,fun f ms F h => by cases h⟩
def Os_GloNew_0:Orc := fun _ _ => none
def mss_GloNew:List PM := []
def lss_GloNew:List (Nat×Code) := loopsAll 0 (Tryz.f88.body.getD .skip)
theorem ks_GloNew_0:OrcOk Es_GloNew Os_GloNew_0 lss_GloNew 0 := orcOk_none
def g_Vs_GloNew_0:List tS := [[],[],[]]
def Fs_GloNew:FSem := fun ys => match ys with
 | [] => some (true,.val false [.own .any true 25 (.sl 49 (.pair .str (.sl 3 (.int .i64)))) g_Vs_GloNew_0],[])
 | _ => none
theorem vs_GloNew:collapseH .std Es_GloNew Os_GloNew_0 (execFn Es_GloNew Tryz.f88 mss_GloNew []) = some (true,.val false [.own .any true 25 (.sl 49 (.pair .str (.sl 3 (.int .i64)))) g_Vs_GloNew_0],[]) := by kernel_rfl
theorem ss_GloNew:Sound Tryz.prog 88 mss_GloNew Fs_GloNew := by
 refine fn_gen goods_GloNew (by kernel_rfl) .std (fn := Tryz.f88) (c := (Tryz.f88.body.getD .skip)) (o := Os_GloNew_0) (k := 0) (by kernel_rfl) (by kernel_rfl) (by kernel_rfl) (by kernel_rfl) (by decide) ks_GloNew_0 ?_
 intro ys r outs h
 unfold Fs_GloNew at h
 split at h
 ·exact (vs_GloNew).trans h
 ·cases h
def Es_l20Rd_pick0:Env where
 tt := mkTI Tryz.prog
 fn := fun _ => none
 bxf := fun _ => none
 mv := []
 keep := fun _ => []
 keepB := fun _ => []
 keepX := fun _ => []
 keepXB := fun _ => []
theorem goodFs_l20Rd_pick0:∀ f ms F,Es_l20Rd_pick0.fn f = some (ms,F) → Sound Tryz.prog f ms F := fun f ms F h => by cases h
theorem goods_l20Rd_pick0:Good Tryz.prog Es_l20Rd_pick0 := ⟨rfl,goodFs_l20Rd_pick0,fun f ms F h => by cases h⟩
def Os_l20Rd_pick0_0:Orc := fun _ _ => none
def mss_l20Rd_pick0:List PM := [.bx,.own]
def lss_l20Rd_pick0:List (Nat×Code) := loopsAll 0 (Tryz.f42.body.getD .skip)
theorem ks_l20Rd_pick0_0:OrcOk Es_l20Rd_pick0 Os_l20Rd_pick0_0 lss_l20Rd_pick0 0 := orcOk_none
def g_As_l20Rd_pick0 (r0:List Int) (r1:Int) (a2:Int):Bool := decide (a2 < 1) || ((r0.length:Int) == 0 || bif decide (IntKind.i64.wrap (IntKind.i64.wrap (r1 + 1) - 1) < (r0.length:Int)) then decide (0 ≤ IntKind.i64.wrap (IntKind.i64.wrap (r1 + 1) - 1) ∧ IntKind.i64.wrap (IntKind.i64.wrap (r1 + 1) - 1) < (r0.length:Int))&&!a2 == 0 else !(r0.length:Int) == 0&&(decide (0 ≤ Int.tmod (IntKind.i64.wrap (IntKind.i64.wrap (r1 + 1) - 1)) (r0.length:Int) ∧ Int.tmod (IntKind.i64.wrap (IntKind.i64.wrap (r1 + 1) - 1)) (r0.length:Int) < (r0.length:Int))&&(!(r0.length:Int) == 0&&(decide (0 ≤ Int.tmod (IntKind.i64.wrap (IntKind.i64.wrap (IntKind.i64.wrap (IntKind.i64.wrap (r1 + 1) - 1) * 7) + 3)) (r0.length:Int) ∧ Int.tmod (IntKind.i64.wrap (IntKind.i64.wrap (IntKind.i64.wrap (IntKind.i64.wrap (r1 + 1) - 1) * 7) + 3)) (r0.length:Int) < (r0.length:Int))&&(!(r0.length:Int) == 0&&!a2 == 0)))))
def g_Vs_l20Rd_pick0_0 (r0:List Int) (r1:Int) (a2:Int):Int := bif decide (a2 < 1) then (0:Int) else bif (r0.length:Int) == 0 then (0:Int) else bif decide (IntKind.i64.wrap (IntKind.i64.wrap (r1 + 1) - 1) < (r0.length:Int)) then Int.tmod (IntKind.i64.wrap (at_ (Ty.int IntKind.u8) r0 (Int.toNat (IntKind.i64.wrap (IntKind.i64.wrap (r1 + 1) - 1))))) a2 else Int.tmod (IntKind.i64.wrap (↑(BitVec.toNat (BitVec.ofInt (nat_lit 64) (IntKind.i64.wrap (IntKind.i64.wrap (IntKind.i64.wrap (IntKind.i64.wrap (IntKind.i64.wrap (at_ (Ty.int IntKind.u8) r0 (Int.toNat (Int.tmod (IntKind.i64.wrap (IntKind.i64.wrap (r1 + 1) - 1)) (r0.length:Int)))) * 131) + IntKind.i64.wrap (IntKind.i64.wrap (at_ (Ty.int IntKind.u8) r0 (Int.toNat (Int.tmod (IntKind.i64.wrap (IntKind.i64.wrap (IntKind.i64.wrap (IntKind.i64.wrap (r1 + 1) - 1) * 7) + 3)) (r0.length:Int)))) * 1117)) + IntKind.i64.wrap (IntKind.i64.wrap (IntKind.i64.wrap (r1 + 1) - 1) * 29)) + IntKind.i64.wrap (IntKind.i64.wrap (Int.tdiv (IntKind.i64.wrap (IntKind.i64.wrap (r1 + 1) - 1)) (r0.length:Int)) * 53))) ^^^ BitVec.ofInt (nat_lit 64) (IntKind.i64.wrap (Int.tdiv (IntKind.i64.wrap (IntKind.i64.wrap (IntKind.i64.wrap (IntKind.i64.wrap (IntKind.i64.wrap (at_ (Ty.int IntKind.u8) r0 (Int.toNat (Int.tmod (IntKind.i64.wrap (IntKind.i64.wrap (r1 + 1) - 1)) (r0.length:Int)))) * 131) + IntKind.i64.wrap (IntKind.i64.wrap (at_ (Ty.int IntKind.u8) r0 (Int.toNat (Int.tmod (IntKind.i64.wrap (IntKind.i64.wrap (IntKind.i64.wrap (IntKind.i64.wrap (r1 + 1) - 1) * 7) + 3)) (r0.length:Int)))) * 1117)) + IntKind.i64.wrap (IntKind.i64.wrap (IntKind.i64.wrap (r1 + 1) - 1) * 29)) + IntKind.i64.wrap (IntKind.i64.wrap (Int.tdiv (IntKind.i64.wrap (IntKind.i64.wrap (r1 + 1) - 1)) (r0.length:Int)) * 53))) (64:Int))))):Int)) a2
def g_Vs_l20Rd_pick0_1 (r0:List Int) (r1:Int) (a2:Int):List Int := bif decide (a2 < 1) then r0 else bif (r0.length:Int) == 0 then r0 else bif decide (IntKind.i64.wrap (IntKind.i64.wrap (r1 + 1) - 1) < (r0.length:Int)) then r0 else r0
def g_Vs_l20Rd_pick0_2 (r0:List Int) (r1:Int) (a2:Int):Int := bif decide (a2 < 1) then IntKind.i64.wrap (r1 + 1) else bif (r0.length:Int) == 0 then IntKind.i64.wrap (r1 + 1) else bif decide (IntKind.i64.wrap (IntKind.i64.wrap (r1 + 1) - 1) < (r0.length:Int)) then IntKind.i64.wrap (r1 + 1) else IntKind.i64.wrap (r1 + 1)
def Fs_l20Rd_pick0:FSem := fun ys => match ys with
 | [.val true [.sl .any 5 (.int .u8) r0,.int .i64 r1],.val false [.int .i64 a2]] => some ((g_As_l20Rd_pick0 r0 r1 a2),.val false [.int .i64 (g_Vs_l20Rd_pick0_0 r0 r1 a2)],[[.sl .any 5 (.int .u8) (g_Vs_l20Rd_pick0_1 r0 r1 a2),.int .i64 (g_Vs_l20Rd_pick0_2 r0 r1 a2)]])
 | _ => none
theorem vs_l20Rd_pick0 (r0:List Int) (r1:Int) (a2:Int):collapseH .std Es_l20Rd_pick0 Os_l20Rd_pick0_0 (execFn Es_l20Rd_pick0 Tryz.f42 mss_l20Rd_pick0 [.val true [.sl .any 5 (.int .u8) r0,.int .i64 r1],.val false [.int .i64 a2]]) = some ((g_As_l20Rd_pick0 r0 r1 a2),.val false [.int .i64 (g_Vs_l20Rd_pick0_0 r0 r1 a2)],[[.sl .any 5 (.int .u8) (g_Vs_l20Rd_pick0_1 r0 r1 a2),.int .i64 (g_Vs_l20Rd_pick0_2 r0 r1 a2)]]) := by kernel_rfl
theorem ss_l20Rd_pick0:Sound Tryz.prog 42 mss_l20Rd_pick0 Fs_l20Rd_pick0 := by
 refine fn_gen goods_l20Rd_pick0 (by kernel_rfl) .std (fn := Tryz.f42) (c := (Tryz.f42.body.getD .skip)) (o := Os_l20Rd_pick0_0) (k := 0) (by kernel_rfl) (by kernel_rfl) (by kernel_rfl) (by kernel_rfl) (by decide) ks_l20Rd_pick0_0 ?_
 intro ys r outs h
 unfold Fs_l20Rd_pick0 at h
 split at h
 ·exact (vs_l20Rd_pick0 _ _ _).trans h
 ·cases h
def mss_l20Rd_pick:List PM := mss_l20Rd_pick0
def g_pick (r0:List Int) (r1:Int) (n:Int):Int := g_Vs_l20Rd_pick0_0 r0 r1 n
def g_pickA (r0:List Int) (r1:Int) (n:Int):Bool := g_As_l20Rd_pick0 r0 r1 n
def Fs_l20Rd_pick:FSem := fun ys => match ys with
 | [.val true [.sl .any 5 (.int .u8) r0,.int .i64 r1],.val false [.int .i64 a2]] => some (g_pickA r0 r1 a2,.val false [.int .i64 (g_pick r0 r1 a2)],[[.sl .any 5 (.int .u8) r0,.int .i64 (IntKind.wrap .i64 (r1 + 1))]])
 | _ => none
theorem ss_l20Rd_pick:Sound Tryz.prog 42 mss_l20Rd_pick Fs_l20Rd_pick := by
 refine ⟨ss_l20Rd_pick0.fn,fun w S ψ ys vs r outs hF hh hg => ss_l20Rd_pick0.calls w S ψ ys vs r outs (Eq.trans ?_ hF) hh hg⟩
 unfold Fs_l20Rd_pick at hF ⊢
 split at hF
 ·rename_i r0 r1 a2
  have e1:g_Vs_l20Rd_pick0_1 r0 r1 a2 = r0 := by unfold g_Vs_l20Rd_pick0_1; generalize decide (a2 < 1) = p; generalize ((r0.length:Int) == 0) = q; cases p <;> cases q <;> simp
  have e2:g_Vs_l20Rd_pick0_2 r0 r1 a2 = IntKind.wrap .i64 (r1 + 1) := by unfold g_Vs_l20Rd_pick0_2; generalize decide (a2 < 1) = p; generalize ((r0.length:Int) == 0) = q; cases p <;> cases q <;> simp
  show some (g_As_l20Rd_pick0 r0 r1 a2,RV.val false [Cell.int .i64 (g_Vs_l20Rd_pick0_0 r0 r1 a2)],[[Cell.sl .any 5 (.int .u8) (g_Vs_l20Rd_pick0_1 r0 r1 a2),Cell.int .i64 (g_Vs_l20Rd_pick0_2 r0 r1 a2)]]) = _
  rw [e1,e2]
  rfl
 ·cases hF
def Es_l20Rd_odd:Env where
 tt := mkTI Tryz.prog
 fn := fun f => match f with
  | 42 => some (mss_l20Rd_pick,FSem.wk mss_l20Rd_pick Fs_l20Rd_pick)
  | _ => none
 bxf := fun _ => none
 mv := []
 keep := fun _ => []
 keepB := fun _ => []
 keepX := fun _ => []
 keepXB := fun _ => []
theorem goodFs_l20Rd_odd:∀ f ms F,Es_l20Rd_odd.fn f = some (ms,F) → Sound Tryz.prog f ms F := fun f ms F h => by
 unfold Es_l20Rd_odd at h
 dsimp only at h
 split at h
 ·exact gF ss_l20Rd_pick h
 ·cases h
theorem goods_l20Rd_odd:Good Tryz.prog Es_l20Rd_odd := ⟨rfl,goodFs_l20Rd_odd,fun f ms F h => by cases h⟩
def Os_l20Rd_odd_0:Orc := fun _ _ => none
def mss_l20Rd_odd:List PM := [.bx,.own]
def lss_l20Rd_odd:List (Nat×Code) := loopsAll 0 (Tryz.f43.body.getD .skip)
theorem ks_l20Rd_odd_0:OrcOk Es_l20Rd_odd Os_l20Rd_odd_0 lss_l20Rd_odd 0 := orcOk_none
def g_As_l20Rd_odd (r0:List Int) (r1:Int) (a2:Int):Bool := !decide (a2 > 0) || g_pickA r0 r1 a2&&true
def g_Vs_l20Rd_odd_0 (r0:List Int) (r1:Int) (a2:Int):Bool := bif decide (a2 > 0) then g_pick r0 r1 a2 == IntKind.i64.wrap (a2 - 1) else false
def g_Vs_l20Rd_odd_1 (r0:List Int) (r1:Int) (a2:Int):List Int := bif decide (a2 > 0) then r0 else r0
def g_Vs_l20Rd_odd_2 (r0:List Int) (r1:Int) (a2:Int):Int := bif decide (a2 > 0) then IntKind.i64.wrap (r1 + 1) else r1
def Fs_l20Rd_odd:FSem := fun ys => match ys with
 | [.val true [.sl .any 5 (.int .u8) r0,.int .i64 r1],.val false [.int .i64 a2]] => some ((g_As_l20Rd_odd r0 r1 a2),.val false [.bool (g_Vs_l20Rd_odd_0 r0 r1 a2)],[[.sl .any 5 (.int .u8) (g_Vs_l20Rd_odd_1 r0 r1 a2),.int .i64 (g_Vs_l20Rd_odd_2 r0 r1 a2)]])
 | _ => none
theorem vs_l20Rd_odd (r0:List Int) (r1:Int) (a2:Int):collapseH .std Es_l20Rd_odd Os_l20Rd_odd_0 (execFn Es_l20Rd_odd Tryz.f43 mss_l20Rd_odd [.val true [.sl .any 5 (.int .u8) r0,.int .i64 r1],.val false [.int .i64 a2]]) = some ((g_As_l20Rd_odd r0 r1 a2),.val false [.bool (g_Vs_l20Rd_odd_0 r0 r1 a2)],[[.sl .any 5 (.int .u8) (g_Vs_l20Rd_odd_1 r0 r1 a2),.int .i64 (g_Vs_l20Rd_odd_2 r0 r1 a2)]]) := by kernel_rfl
theorem ss_l20Rd_odd:Sound Tryz.prog 43 mss_l20Rd_odd Fs_l20Rd_odd := by
 refine fn_gen goods_l20Rd_odd (by kernel_rfl) .std (fn := Tryz.f43) (c := (Tryz.f43.body.getD .skip)) (o := Os_l20Rd_odd_0) (k := 0) (by kernel_rfl) (by kernel_rfl) (by kernel_rfl) (by kernel_rfl) (by decide) ks_l20Rd_odd_0 ?_
 intro ys r outs h
 unfold Fs_l20Rd_odd at h
 split at h
 ·exact (vs_l20Rd_odd _ _ _).trans h
 ·cases h
def mss_l20Rd_oddR:List PM := mss_l20Rd_odd
theorem sames_l20Rd_odd (r0:List Int) (r1:Int) (a2:Int):g_Vs_l20Rd_odd_1 r0 r1 a2 = r0 := by
 unfold g_Vs_l20Rd_odd_1
 simp only [Bool.cond_self]
def Fs_l20Rd_oddR:FSem := fun ys => match ys with
 | [.val true [.sl .any 5 (.int .u8) r0,.int .i64 r1],.val false [.int .i64 a2]] => some ((g_As_l20Rd_odd r0 r1 a2),.val false [.bool (g_Vs_l20Rd_odd_0 r0 r1 a2)],[[.sl .any 5 (.int .u8) r0,.int .i64 (g_Vs_l20Rd_odd_2 r0 r1 a2)]])
 | _ => none
theorem ss_l20Rd_oddR:Sound Tryz.prog 43 mss_l20Rd_oddR Fs_l20Rd_oddR := by
 refine ⟨ss_l20Rd_odd.fn,fun w S ψ ys vs r outs hF hh hg => ss_l20Rd_odd.calls w S ψ ys vs r outs (Eq.trans ?_ hF) hh hg⟩
 unfold Fs_l20Rd_oddR at hF ⊢
 split at hF
 ·rename_i  r0 r1 a2
  show (some ((g_As_l20Rd_odd r0 r1 a2),.val false [.bool (g_Vs_l20Rd_odd_0 r0 r1 a2)],[[.sl .any 5 (.int .u8) (g_Vs_l20Rd_odd_1 r0 r1 a2),.int .i64 (g_Vs_l20Rd_odd_2 r0 r1 a2)]]):Option (Bool×RV×List (List Cell))) = _
  rw [sames_l20Rd_odd]
 ·cases hF
end
end Go.Proofs.YtjoggjjjlafdmaaGreatDoor.E
