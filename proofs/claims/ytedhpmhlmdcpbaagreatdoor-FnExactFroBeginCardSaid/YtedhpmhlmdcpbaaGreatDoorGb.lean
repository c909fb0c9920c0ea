/- What the functions that are reached do, by the engine: for the proof (laws.FnExactFroBegin): part 2. No conditions. -/
import Derived.Test.YtedhpmhlmdcpbaaGreatDoorGa
import Derived.Test.YtedhpmhlmdcpbaaGreatDoorProg
set_option linter.all false
namespace Go.Proofs.YtedhpmhlmdcpbaaGreatDoor.E
open Go
set_option maxRecDepth 100000
set_option maxHeartbeats 0
noncomputable def Es_l6At:Env where
 tt := mkTI Tryz.prog
 fn := fun _ => none
 bxf := fun _ => none
 mv := []
 keep := fun b => match b with
  | 0 => [(1,false),(2,false),(5,false)]
  | _ => []
 keepB := fun b => match b with
  | 0 => [(2,false)]
  | _ => []
 keepX := fun b => match b with
  | 0 => [(4,false)]
  | _ => []
 keepXB := fun b => match b with
  | 0 => []
  | _ => []
theorem goodFs_l6At:∀ f ms F,Es_l6At.fn f = some (ms,F) → Sound Tryz.prog f ms F := fun f ms F h => by cases h
theorem goods_l6At:Good Tryz.prog Es_l6At := ⟨rfl,goodFs_l6At,fun f ms F h => by cases h⟩
noncomputable def Os_l6At_0:Orc := fun _ _ => none
noncomputable def mss_l6At:List PM := [.rd,.own]
noncomputable def lss_l6At:List (Nat×Code) := loopsAll 0 (Tryz.f114.body.getD .skip)
noncomputable def cs_l6At_0:Code := (loopOf 0 (Tryz.f114.body.getD .skip)).getD .skip
theorem lseqs_l6At:lss_l6At = [(0,cs_l6At_0)] := by kernel_rfl
theorem ms_l6At_0:∀ p,p ∈ lss_l6At → p.1 = 0 → p.2 = cs_l6At_0 := by
 intro p hp
 rw [lseqs_l6At] at hp
 simp only [List.mem_cons,List.not_mem_nil,or_false] at hp
 subst hp; simp
theorem ks_l6At_0:OrcOk Es_l6At Os_l6At_0 lss_l6At 0 := orcOk_none
noncomputable def hs_l6At_0 (y0:Int) (y1:Int) (y2:tL1) (y3:Int) (y4:tL0):List (Pl×LV) := [(.T 1,.t (.val false [.int .i64 y0])),(.T 2,.t (.val false [.ptr 2 0 0])),(.T 5,.t (.val false [.int .i64 y1])),(.B 2,.b 0 false [.sl .any 92 (.pair (.int .i64) (.pair (.int .i64) (.pair (.sl 9 .str) (.sl 155 (.pair .str (.pair .bool (.sl 3 (.int .i64)))))))) y2,.int .i64 y3,.sl .any 73 (.pair (.int .i64) (.pair (.pair (.int .i64) (.pair (.int .i64) (.pair (.int .i64) (.pair (.int .i64) (.pair (.int .i64) (.pair (.int .i64) (.int .i64))))))) (.pair .bool (.pair (.sl 3 (.int .i64)) (.sl 3 (.int .i64)))))) y4])]
noncomputable def g_Ss_l6At_0 (y0:Int) (y2:tL1) (y3:Int) (y4:tL0):(Int) → RT (Int) ((Int) ⊕ (Unit))
 | y1 => .br (true) (.br (decide (y1 < (y4.length:Int))) (.br (decide (0 ≤ y1 ∧ y1 < (y4.length:Int))) (.br (true) (.br ((at_ yT0 y4 (Int.toNat y1)).1 == y0) (.out (.inl y1)) (.br (true) (.go (IntKind.i64.wrap (y1 + 1))) .bad)) .bad) .bad) (.out (.inr (())))) .bad
noncomputable def g_Ls_l6At_0 (y0:Int) (y2:tL1) (y3:Int) (y4:tL0) (x:Int):Option ((Int) ⊕ (Unit)) := loopO (g_Ss_l6At_0 y0 y2 y3 y4) x
noncomputable def xs_l6At_0 (y0:Int) (y2:tL1) (y3:Int) (y4:tL0):((Int) ⊕ (Unit)) → Ex×List (Pl×LV) := fun
 | .inl r => (.ret,[(.T 4,.t (.val false [.int .i64 r]))])
 | .inr (r) => (.exit 0,[(.T 4,.t (.val false [.undef]))])
noncomputable def Os_l6At_1:Orc := fun b h => match b,h with
 | 0,[(.T 1,.t (.val false [.int .i64 y0])),(.T 2,.t (.val false [.ptr 2 0 0])),(.T 5,.t (.val false [.int .i64 y1])),(.B 2,.b 0 false [.sl .any 92 (.pair (.int .i64) (.pair (.int .i64) (.pair (.sl 9 .str) (.sl 155 (.pair .str (.pair .bool (.sl 3 (.int .i64)))))))) y2,.int .i64 y3,.sl .any 73 (.pair (.int .i64) (.pair (.pair (.int .i64) (.pair (.int .i64) (.pair (.int .i64) (.pair (.int .i64) (.pair (.int .i64) (.pair (.int .i64) (.int .i64))))))) (.pair .bool (.pair (.sl 3 (.int .i64)) (.sl 3 (.int .i64)))))) y4])] => some (okO (g_Ls_l6At_0 y0 y2 y3 y4 y1),(.br (isL (valO (g_Ls_l6At_0 y0 y2 y3 y4 y1))) (.leaf .ret [(.T 4,.t (.val false [.int .i64 (getL (valO (g_Ls_l6At_0 y0 y2 y3 y4 y1)))]))]) (.leaf (.exit 0) [(.T 4,.t (.val false [.undef]))])))
 | b,h => Os_l6At_0 b h
theorem bs_l6At_0 (y0:Int) (y1:Int) (y2:tL1) (y3:Int) (y4:tL0):Tr.bt Es_l6At Os_l6At_0 (exec Es_l6At 0 cs_l6At_0 (St.of (hs_l6At_0 y0 y1 y2 y3 y4)) (leafRd Es_l6At 0)) = (g_Ss_l6At_0 y0 y2 y3 y4 y1).bt (fun (y1:Int) => (hs_l6At_0 y0 y1 y2 y3 y4)) (xs_l6At_0 y0 y2 y3 y4) := by kernel_rfl
theorem ks_l6At_1:OrcOk Es_l6At Os_l6At_1 lss_l6At 1 := orc_add ks_l6At_0 (fun n p hp h ex h' ho => by
 obtain ⟨b,c⟩ := p
 obtain ⟨xt,h1,h2⟩ := ho
 have h1:Os_l6At_1 b h = some (true,xt) := h1
 unfold Os_l6At_1 at h1
 split at h1
 ·injection h1 with h1
  injection h1 with e1 e2
  subst e2
  have hc:c = cs_l6At_0 := ms_l6At_0 _ hp rfl
  subst hc
  right
  rename_i y0 y1 y2 y3 y4
  have key := LT_step ks_l6At_0 hp (fun q hq => loopsAll_in _ _ _ _ hp hq) (fun (y1:Int) => (hs_l6At_0 y0 y1 y2 y3 y4)) (xs_l6At_0 y0 y2 y3 y4) (g_Ss_l6At_0 y0 y2 y3 y4) (fun x => by first | exact bs_l6At_0 y0 x y2 y3 y4) n (x := y1) (okO_some e1)
  have hx:∀ r,XT.sel (.br (isL r) (.leaf .ret [(.T 4,.t (.val false [.int .i64 (getL r)]))]) (.leaf (.exit 0) [(.T 4,.t (.val false [.undef]))])) = xs_l6At_0 y0 y2 y3 y4 r := fun r => by first | rfl | rcases r with r | r <;> rfl | rcases r with r | r | r <;> rfl | rcases r with r | r | r | r <;> rfl
  have h3 := (hx (valO (g_Ls_l6At_0 y0 y2 y3 y4 y1))).symm.trans h2
  have e3 := congrArg Prod.fst h3
  have e4 := congrArg Prod.snd h3
  simp only at e3 e4
  rw [← e3,← e4]
  exact key
 ·exact .inl ⟨xt,h1,h2⟩)
noncomputable def g_As_l6At (a0:tL1) (a1:Int) (a2:tL0) (a3:Int):Bool := okO (g_Ls_l6At_0 a3 a0 a1 a2 (0:Int))
noncomputable def g_Vs_l6At_0 (a0:tL1) (a1:Int) (a2:tL0) (a3:Int):Int := bif isL (valO (g_Ls_l6At_0 a3 a0 a1 a2 (0:Int))) then getL (valO (g_Ls_l6At_0 a3 a0 a1 a2 (0:Int))) else (-1:Int)
noncomputable def Fs_l6At:FSem := fun ys => match ys with
 | [.val true [.sl .any 92 (.pair (.int .i64) (.pair (.int .i64) (.pair (.sl 9 .str) (.sl 155 (.pair .str (.pair .bool (.sl 3 (.int .i64)))))))) a0,.int .i64 a1,.sl .any 73 (.pair (.int .i64) (.pair (.pair (.int .i64) (.pair (.int .i64) (.pair (.int .i64) (.pair (.int .i64) (.pair (.int .i64) (.pair (.int .i64) (.int .i64))))))) (.pair .bool (.pair (.sl 3 (.int .i64)) (.sl 3 (.int .i64)))))) a2],.val false [.int .i64 a3]] => some ((g_As_l6At a0 a1 a2 a3),.val false [.int .i64 (g_Vs_l6At_0 a0 a1 a2 a3)],[])
 | _ => none
theorem vs_l6At (a0:tL1) (a1:Int) (a2:tL0) (a3:Int):collapseH .std Es_l6At Os_l6At_1 (execFn Es_l6At Tryz.f114 mss_l6At [.val true [.sl .any 92 (.pair (.int .i64) (.pair (.int .i64) (.pair (.sl 9 .str) (.sl 155 (.pair .str (.pair .bool (.sl 3 (.int .i64)))))))) a0,.int .i64 a1,.sl .any 73 (.pair (.int .i64) (.pair (.pair (.int .i64) (.pair (.int .i64) (.pair (.int .i64) (.pair (.int .i64) (.pair (.int .i64) (.pair (.int .i64) (.int .i64))))))) (.pair .bool (.pair (.sl 3 (.int .i64)) (.sl 3 (.int .i64)))))) a2],.val false [.int .i64 a3]]) = some ((g_As_l6At a0 a1 a2 a3),.val false [.int .i64 (g_Vs_l6At_0 a0 a1 a2 a3)],[]) := by kernel_rfl
theorem ss_l6At:Sound Tryz.prog 114 mss_l6At Fs_l6At := by
 refine fn_gen goods_l6At (by kernel_rfl) .std (fn := Tryz.f114) (c := (Tryz.f114.body.getD .skip)) (o := Os_l6At_1) (k := 1) (by kernel_rfl) (by kernel_rfl) (by kernel_rfl) (by kernel_rfl) (by decide) ks_l6At_1 ?_
 intro ys r outs h
 unfold Fs_l6At at h
 split at h
 ·exact (vs_l6At _ _ _ _).trans h
 ·cases h
noncomputable def Es_l6Send:Env where
 tt := mkTI Tryz.prog
 fn := fun _ => none
 bxf := fun _ => none
 mv := []
 keep := fun b => match b with
  | 0 => [(0,false),(1,false),(3,false),(6,false),(9,false),(10,false)]
  | _ => []
 keepB := fun b => match b with
  | 0 => [(6,false)]
  | _ => []
 keepX := fun b => match b with
  | 0 => [(9,false)]
  | _ => []
 keepXB := fun b => match b with
  | 0 => []
  | _ => []
theorem goodFs_l6Send:∀ f ms F,Es_l6Send.fn f = some (ms,F) → Sound Tryz.prog f ms F := fun f ms F h => by cases h
theorem goods_l6Send:Good Tryz.prog Es_l6Send := ⟨rfl,goodFs_l6Send,fun f ms F h => by cases h⟩
noncomputable def Os_l6Send_0:Orc := fun _ _ => none
noncomputable def mss_l6Send:List PM := [.own,.own,.own,.rd]
noncomputable def lss_l6Send:List (Nat×Code) := loopsAll 0 (Tryz.f30.body.getD .skip)
noncomputable def cs_l6Send_0:Code := (loopOf 0 (Tryz.f30.body.getD .skip)).getD .skip
theorem lseqs_l6Send:lss_l6Send = [(0,cs_l6Send_0)] := by kernel_rfl
theorem ms_l6Send_0:∀ p,p ∈ lss_l6Send → p.1 = 0 → p.2 = cs_l6Send_0 := by
 intro p hp
 rw [lseqs_l6Send] at hp
 simp only [List.mem_cons,List.not_mem_nil,or_false] at hp
 subst hp; simp
theorem ks_l6Send_0:OrcOk Es_l6Send Os_l6Send_0 lss_l6Send 0 := orcOk_none
noncomputable def hs_l6Send_0 (y0:Int) (y1:Int) (y2:List Int) (y3:tL2) (y4:Int) (y5:Int) (y6:Int) (y7:Int) (y8:Int) (y9:Int) (y10:Int) (y11:Int):List (Pl×LV) := [(.T 0,.t (.val false [.int .i64 y0])),(.T 1,.t (.val false [.int .i64 y1])),(.T 3,.t (.val false [.sl .any 3 (.int .i64) y2])),(.T 6,.t (.val false [.ptr 6 0 0])),(.T 9,.t (.val false [.row 9 0 0])),(.R 9 0,.r 0 (some ⟨false,.non,true,83,(.pair (.int .i64) (.pair (.int .i64) (.pair (.int .i64) (.pair (.int .i64) (.pair (.int .i64) (.pair (.int .i64) (.pair (.int .i64) (.pair (.int .i64) (.pair (.int .i64) (.pair (.int .i64) (.int .i64))))))))))),y3⟩)),(.T 10,.t (.val false [.int .i64 y4])),(.B 6,.b 0 false [.int .i64 y5,.int .i64 y6,.int .i64 y7,.int .i64 y8,.int .i64 y9,.int .i64 y10,.int .i64 y11])]
noncomputable def g_Ss_l6Send_0 (y0:Int) (y1:Int) (y2:List Int) (y5:Int) (y6:Int) (y7:Int) (y8:Int) (y9:Int) (y10:Int) (y11:Int):(tL2×Int) → RT (tL2×Int) ((tL2))
 | (y3,y4) => .br (true) (.br (decide (y4 < (y2.length:Int))) (.br (decide (0 ≤ y4 ∧ y4 < (y2.length:Int))) (.br (true) (.br (y0 == 1) (.br (decide ((List.length y3 + List.length [(y0,at_ (.int .i64) y2 (Int.toNat y4),(0:Int),y1,y5,y6,y7,y8,y9,y10,y11)]) * nat_lit 88 ≤ nat_lit 140737488355328 ∧ List.length y3 + List.length [(y0,at_ (.int .i64) y2 (Int.toNat y4),(0:Int),y1,y5,y6,y7,y8,y9,y10,y11)] ≤ nat_lit 9223372036854775807)) (.br (true) (.go ((y3 ++ [(y0,at_ (.int .i64) y2 (Int.toNat y4),(0:Int),y1,y5,y6,y7,y8,y9,y10,y11)],IntKind.i64.wrap (y4 + 1)))) .bad) .bad) (.br (decide ((List.length y3 + List.length [(y0,at_ (.int .i64) y2 (Int.toNat y4),(0:Int),y1,(0:Int),(0:Int),(0:Int),(0:Int),(0:Int),(0:Int),(0:Int))]) * nat_lit 88 ≤ nat_lit 140737488355328 ∧ List.length y3 + List.length [(y0,at_ (.int .i64) y2 (Int.toNat y4),(0:Int),y1,(0:Int),(0:Int),(0:Int),(0:Int),(0:Int),(0:Int),(0:Int))] ≤ nat_lit 9223372036854775807)) (.br (true) (.go ((y3 ++ [(y0,at_ (.int .i64) y2 (Int.toNat y4),(0:Int),y1,(0:Int),(0:Int),(0:Int),(0:Int),(0:Int),(0:Int),(0:Int))],IntKind.i64.wrap (y4 + 1)))) .bad) .bad)) .bad) .bad) (.out (y3))) .bad
noncomputable def g_Ls_l6Send_0 (y0:Int) (y1:Int) (y2:List Int) (y5:Int) (y6:Int) (y7:Int) (y8:Int) (y9:Int) (y10:Int) (y11:Int) (x:tL2×Int):Option ((tL2)) := loopO (g_Ss_l6Send_0 y0 y1 y2 y5 y6 y7 y8 y9 y10 y11) x
noncomputable def xs_l6Send_0 (y0:Int) (y1:Int) (y2:List Int) (y5:Int) (y6:Int) (y7:Int) (y8:Int) (y9:Int) (y10:Int) (y11:Int):((tL2)) → Ex×List (Pl×LV) := fun r => (.exit 0,[(.T 9,.t (.val false [.row 9 0 0])),(.R 9 0,.r 0 (some ⟨false,.non,true,83,(.pair (.int .i64) (.pair (.int .i64) (.pair (.int .i64) (.pair (.int .i64) (.pair (.int .i64) (.pair (.int .i64) (.pair (.int .i64) (.pair (.int .i64) (.pair (.int .i64) (.pair (.int .i64) (.int .i64))))))))))),r⟩))])
noncomputable def Os_l6Send_1:Orc := fun b h => match b,h with
 | 0,[(.T 0,.t (.val false [.int .i64 y0])),(.T 1,.t (.val false [.int .i64 y1])),(.T 3,.t (.val false [.sl .any 3 (.int .i64) y2])),(.T 6,.t (.val false [.ptr 6 0 0])),(.T 9,.t (.val false [.row 9 0 0])),(.R 9 0,.r 0 (some ⟨false,.non,true,83,(.pair (.int .i64) (.pair (.int .i64) (.pair (.int .i64) (.pair (.int .i64) (.pair (.int .i64) (.pair (.int .i64) (.pair (.int .i64) (.pair (.int .i64) (.pair (.int .i64) (.pair (.int .i64) (.int .i64))))))))))),y3⟩)),(.T 10,.t (.val false [.int .i64 y4])),(.B 6,.b 0 false [.int .i64 y5,.int .i64 y6,.int .i64 y7,.int .i64 y8,.int .i64 y9,.int .i64 y10,.int .i64 y11])] => some (okO (g_Ls_l6Send_0 y0 y1 y2 y5 y6 y7 y8 y9 y10 y11 (y3,y4)),(.leaf (.exit 0) [(.T 9,.t (.val false [.row 9 0 0])),(.R 9 0,.r 0 (some ⟨false,.non,true,83,(.pair (.int .i64) (.pair (.int .i64) (.pair (.int .i64) (.pair (.int .i64) (.pair (.int .i64) (.pair (.int .i64) (.pair (.int .i64) (.pair (.int .i64) (.pair (.int .i64) (.pair (.int .i64) (.int .i64))))))))))),(valO (g_Ls_l6Send_0 y0 y1 y2 y5 y6 y7 y8 y9 y10 y11 (y3,y4)))⟩))]))
 | b,h => Os_l6Send_0 b h
theorem bs_l6Send_0 (y0:Int) (y1:Int) (y2:List Int) (y3:tL2) (y4:Int) (y5:Int) (y6:Int) (y7:Int) (y8:Int) (y9:Int) (y10:Int) (y11:Int):Tr.bt Es_l6Send Os_l6Send_0 (exec Es_l6Send 0 cs_l6Send_0 (St.of (hs_l6Send_0 y0 y1 y2 y3 y4 y5 y6 y7 y8 y9 y10 y11)) (leafRd Es_l6Send 0)) = (g_Ss_l6Send_0 y0 y1 y2 y5 y6 y7 y8 y9 y10 y11 (y3,y4)).bt (fun ((y3,y4):tL2×Int) => (hs_l6Send_0 y0 y1 y2 y3 y4 y5 y6 y7 y8 y9 y10 y11)) (xs_l6Send_0 y0 y1 y2 y5 y6 y7 y8 y9 y10 y11) := by kernel_rfl
theorem ks_l6Send_1:OrcOk Es_l6Send Os_l6Send_1 lss_l6Send 1 := orc_add ks_l6Send_0 (fun n p hp h ex h' ho => by
 obtain ⟨b,c⟩ := p
 obtain ⟨xt,h1,h2⟩ := ho
 have h1:Os_l6Send_1 b h = some (true,xt) := h1
 unfold Os_l6Send_1 at h1
 split at h1
 ·injection h1 with h1
  injection h1 with e1 e2
  subst e2
  have hc:c = cs_l6Send_0 := ms_l6Send_0 _ hp rfl
  subst hc
  right
  rename_i y0 y1 y2 y3 y4 y5 y6 y7 y8 y9 y10 y11
  have key := LT_step ks_l6Send_0 hp (fun q hq => loopsAll_in _ _ _ _ hp hq) (fun ((y3,y4):tL2×Int) => (hs_l6Send_0 y0 y1 y2 y3 y4 y5 y6 y7 y8 y9 y10 y11)) (xs_l6Send_0 y0 y1 y2 y5 y6 y7 y8 y9 y10 y11) (g_Ss_l6Send_0 y0 y1 y2 y5 y6 y7 y8 y9 y10 y11) (fun x => by first | exact bs_l6Send_0 y0 y1 y2 x.1 x.2 y5 y6 y7 y8 y9 y10 y11) n (x := (y3,y4)) (okO_some e1)
  have hx:∀ r,XT.sel (.leaf (.exit 0) [(.T 9,.t (.val false [.row 9 0 0])),(.R 9 0,.r 0 (some ⟨false,.non,true,83,(.pair (.int .i64) (.pair (.int .i64) (.pair (.int .i64) (.pair (.int .i64) (.pair (.int .i64) (.pair (.int .i64) (.pair (.int .i64) (.pair (.int .i64) (.pair (.int .i64) (.pair (.int .i64) (.int .i64))))))))))),r⟩))]) = xs_l6Send_0 y0 y1 y2 y5 y6 y7 y8 y9 y10 y11 r := fun r => by first | rfl | rcases r with r | r <;> rfl | rcases r with r | r | r <;> rfl | rcases r with r | r | r | r <;> rfl
  have h3 := (hx (valO (g_Ls_l6Send_0 y0 y1 y2 y5 y6 y7 y8 y9 y10 y11 (y3,y4)))).symm.trans h2
  have e3 := congrArg Prod.fst h3
  have e4 := congrArg Prod.snd h3
  simp only at e3 e4
  rw [← e3,← e4]
  exact key
 ·exact .inl ⟨xt,h1,h2⟩)
noncomputable def g_As_l6Send (a0:Int) (a1:Int) (a2:Int) (a3:Int) (a4:Int) (a5:Int) (a6:Int) (a7:Int) (a8:Int) (a9:List Int):Bool := okO (g_Ls_l6Send_0 a0 a1 a9 a2 a3 a4 a5 a6 a7 a8 ([],(0:Int)))
noncomputable def g_Vs_l6Send_0 (a0:Int) (a1:Int) (a2:Int) (a3:Int) (a4:Int) (a5:Int) (a6:Int) (a7:Int) (a8:Int) (a9:List Int):tL2 := valO (g_Ls_l6Send_0 a0 a1 a9 a2 a3 a4 a5 a6 a7 a8 ([],(0:Int)))
noncomputable def Fs_l6Send:FSem := fun ys => match ys with
 | [.val false [.int .i64 a0],.val false [.int .i64 a1],.val true [.int .i64 a2,.int .i64 a3,.int .i64 a4,.int .i64 a5,.int .i64 a6,.int .i64 a7,.int .i64 a8],.val false [.sl .any 3 (.int .i64) a9]] => some ((g_As_l6Send a0 a1 a2 a3 a4 a5 a6 a7 a8 a9),.val false [.own .any true 83 (.pair (.int .i64) (.pair (.int .i64) (.pair (.int .i64) (.pair (.int .i64) (.pair (.int .i64) (.pair (.int .i64) (.pair (.int .i64) (.pair (.int .i64) (.pair (.int .i64) (.pair (.int .i64) (.int .i64))))))))))) (g_Vs_l6Send_0 a0 a1 a2 a3 a4 a5 a6 a7 a8 a9)],[])
 | _ => none
theorem vs_l6Send (a0:Int) (a1:Int) (a2:Int) (a3:Int) (a4:Int) (a5:Int) (a6:Int) (a7:Int) (a8:Int) (a9:List Int):collapseH .std Es_l6Send Os_l6Send_1 (execFn Es_l6Send Tryz.f30 mss_l6Send [.val false [.int .i64 a0],.val false [.int .i64 a1],.val true [.int .i64 a2,.int .i64 a3,.int .i64 a4,.int .i64 a5,.int .i64 a6,.int .i64 a7,.int .i64 a8],.val false [.sl .any 3 (.int .i64) a9]]) = some ((g_As_l6Send a0 a1 a2 a3 a4 a5 a6 a7 a8 a9),.val false [.own .any true 83 (.pair (.int .i64) (.pair (.int .i64) (.pair (.int .i64) (.pair (.int .i64) (.pair (.int .i64) (.pair (.int .i64) (.pair (.int .i64) (.pair (.int .i64) (.pair (.int .i64) (.pair (.int .i64) (.int .i64))))))))))) (g_Vs_l6Send_0 a0 a1 a2 a3 a4 a5 a6 a7 a8 a9)],[]) := by kernel_rfl
theorem ss_l6Send:Sound Tryz.prog 30 mss_l6Send Fs_l6Send := by
 refine fn_gen goods_l6Send (by kernel_rfl) .std (fn := Tryz.f30) (c := (Tryz.f30.body.getD .skip)) (o := Os_l6Send_1) (k := 1) (by kernel_rfl) (by kernel_rfl) (by kernel_rfl) (by kernel_rfl) (by decide) ks_l6Send_1 ?_
 intro ys r outs h
 unfold Fs_l6Send at h
 split at h
 ·exact (vs_l6Send _ _ _ _ _ _ _ _ _ _).trans h
 ·cases h
noncomputable def Es_l6Begin:Env where
 tt := mkTI Tryz.prog
 fn := fun f => match f with
  | 30 => some (mss_l6Send,FSem.wk mss_l6Send Fs_l6Send)
  | 33 => some (msZ71,FSem.wk msZ71 FZ71)
  | 47 => some (mss_l2Of,FSem.wk mss_l2Of Fs_l2Of)
  | 114 => some (mss_l6At,FSem.wk mss_l6At Fs_l6At)
  | _ => none
 bxf := fun _ => none
 mv := []
 keep := fun _ => []
 keepB := fun _ => []
 keepX := fun _ => []
 keepXB := fun _ => []
theorem goodFs_l6Begin:∀ f ms F,Es_l6Begin.fn f = some (ms,F) → Sound Tryz.prog f ms F := fun f ms F h => by
 unfold Es_l6Begin at h
 dsimp only at h
 split at h
 ·exact gF ss_l6Send h
 ·exact gF sZ71 h
 ·exact gF ss_l2Of h
 ·exact gF ss_l6At h
 ·cases h
theorem goods_l6Begin:Good Tryz.prog Es_l6Begin := ⟨rfl,goodFs_l6Begin,fun f ms F h => by cases h⟩
noncomputable def Os_l6Begin_0:Orc := fun _ _ => none
noncomputable def mss_l6Begin:List PM := [.own,.own,.own]
noncomputable def lss_l6Begin:List (Nat×Code) := loopsAll 0 (Tryz.f57.body.getD .skip)
theorem ks_l6Begin_0:OrcOk Es_l6Begin Os_l6Begin_0 lss_l6Begin 0 := orcOk_none
noncomputable def g_As_l6Begin (a0:tL1) (a1:Int) (a2:tL0) (a3:Int) (a4:Int) (a5:Int) (a6:Int) (a7:Int) (a8:Int) (a9:Int) (a10:Int):Bool := g_As_l6At a0 a1 a2 a3&&(decide (g_Vs_l6At_0 a0 a1 a2 a3 ≥ 0) || g_As_l2Of a0 a3&&(g_Vs_l2Of_0 a0 a3 != 0 || bif decide ((a2.length:Int) > 0) then decide (0 ≤ IntKind.i64.wrap ((a2.length:Int) - 1) ∧ IntKind.i64.wrap ((a2.length:Int) - 1) < (a2.length:Int))&&(decide (Int.toNat (IntKind.i64.wrap ((a2.length:Int) - 1)) < List.length a2)&&(decide ((at_ yT0 a2 (Int.toNat (IntKind.i64.wrap ((a2.length:Int) - 1)))).1 > a3) || (decide (IntKind.i64.wrap (IntKind.i64.wrap ((a0.length:Int) + IntKind.i64.wrap (2 * (a2.length:Int))) + 2) > 120) || decide ((List.length a2 + List.length [(a3,(a4,a5,a6,a7,a8,a9,a10),false,([]:List Int),([]:List Int))]) * nat_lit 120 ≤ nat_lit 140737488355328 ∧ List.length a2 + List.length [(a3,(a4,a5,a6,a7,a8,a9,a10),false,([]:List Int),([]:List Int))] ≤ nat_lit 9223372036854775807)&&(g_AZ71 a4 a5 a6 a7 a8 a9 a10&&g_As_l6Send (1:Int) a3 a4 a5 a6 a7 a8 a9 a10 (g_VZ71_0 a4 a5 a6 a7 a8 a9 a10))))) else decide (IntKind.i64.wrap (IntKind.i64.wrap ((a0.length:Int) + IntKind.i64.wrap (2 * (a2.length:Int))) + 2) > 120) || decide ((List.length a2 + List.length [(a3,(a4,a5,a6,a7,a8,a9,a10),false,([]:List Int),([]:List Int))]) * nat_lit 120 ≤ nat_lit 140737488355328 ∧ List.length a2 + List.length [(a3,(a4,a5,a6,a7,a8,a9,a10),false,([]:List Int),([]:List Int))] ≤ nat_lit 9223372036854775807)&&(g_AZ71 a4 a5 a6 a7 a8 a9 a10&&g_As_l6Send (1:Int) a3 a4 a5 a6 a7 a8 a9 a10 (g_VZ71_0 a4 a5 a6 a7 a8 a9 a10))))
noncomputable def g_Vs_l6Begin_0 (a0:tL1) (a1:Int) (a2:tL0) (a3:Int) (a4:Int) (a5:Int) (a6:Int) (a7:Int) (a8:Int) (a9:Int) (a10:Int):tL1 := bif decide (g_Vs_l6At_0 a0 a1 a2 a3 ≥ 0) then a0 else bif g_Vs_l2Of_0 a0 a3 != 0 then a0 else bif decide ((a2.length:Int) > 0) then bif decide ((at_ yT0 a2 (Int.toNat (IntKind.i64.wrap ((a2.length:Int) - 1)))).1 > a3) then a0 else bif decide (IntKind.i64.wrap (IntKind.i64.wrap ((a0.length:Int) + IntKind.i64.wrap (2 * (a2.length:Int))) + 2) > 120) then a0 else a0 else bif decide (IntKind.i64.wrap (IntKind.i64.wrap ((a0.length:Int) + IntKind.i64.wrap (2 * (a2.length:Int))) + 2) > 120) then a0 else a0
noncomputable def g_Vs_l6Begin_1 (a0:tL1) (a1:Int) (a2:tL0) (a3:Int) (a4:Int) (a5:Int) (a6:Int) (a7:Int) (a8:Int) (a9:Int) (a10:Int):Int := bif decide (g_Vs_l6At_0 a0 a1 a2 a3 ≥ 0) then a1 else bif g_Vs_l2Of_0 a0 a3 != 0 then a1 else bif decide ((a2.length:Int) > 0) then bif decide ((at_ yT0 a2 (Int.toNat (IntKind.i64.wrap ((a2.length:Int) - 1)))).1 > a3) then a1 else bif decide (IntKind.i64.wrap (IntKind.i64.wrap ((a0.length:Int) + IntKind.i64.wrap (2 * (a2.length:Int))) + 2) > 120) then a1 else a1 else bif decide (IntKind.i64.wrap (IntKind.i64.wrap ((a0.length:Int) + IntKind.i64.wrap (2 * (a2.length:Int))) + 2) > 120) then a1 else a1
noncomputable def g_Vs_l6Begin_2 (a0:tL1) (a1:Int) (a2:tL0) (a3:Int) (a4:Int) (a5:Int) (a6:Int) (a7:Int) (a8:Int) (a9:Int) (a10:Int):tL0 := bif decide (g_Vs_l6At_0 a0 a1 a2 a3 ≥ 0) then a2 else bif g_Vs_l2Of_0 a0 a3 != 0 then a2 else bif decide ((a2.length:Int) > 0) then bif decide ((at_ yT0 a2 (Int.toNat (IntKind.i64.wrap ((a2.length:Int) - 1)))).1 > a3) then a2 else bif decide (IntKind.i64.wrap (IntKind.i64.wrap ((a0.length:Int) + IntKind.i64.wrap (2 * (a2.length:Int))) + 2) > 120) then a2 else a2 ++ [(a3,(a4,a5,a6,a7,a8,a9,a10),false,([]:List Int),([]:List Int))] else bif decide (IntKind.i64.wrap (IntKind.i64.wrap ((a0.length:Int) + IntKind.i64.wrap (2 * (a2.length:Int))) + 2) > 120) then a2 else a2 ++ [(a3,(a4,a5,a6,a7,a8,a9,a10),false,([]:List Int),([]:List Int))]
noncomputable def g_Vs_l6Begin_3 (a0:tL1) (a1:Int) (a2:tL0) (a3:Int) (a4:Int) (a5:Int) (a6:Int) (a7:Int) (a8:Int) (a9:Int) (a10:Int):tL2 := bif decide (g_Vs_l6At_0 a0 a1 a2 a3 ≥ 0) then [] else bif g_Vs_l2Of_0 a0 a3 != 0 then [] else bif decide ((a2.length:Int) > 0) then bif decide ((at_ yT0 a2 (Int.toNat (IntKind.i64.wrap ((a2.length:Int) - 1)))).1 > a3) then [] else bif decide (IntKind.i64.wrap (IntKind.i64.wrap ((a0.length:Int) + IntKind.i64.wrap (2 * (a2.length:Int))) + 2) > 120) then [] else g_Vs_l6Send_0 (1:Int) a3 a4 a5 a6 a7 a8 a9 a10 (g_VZ71_0 a4 a5 a6 a7 a8 a9 a10) else bif decide (IntKind.i64.wrap (IntKind.i64.wrap ((a0.length:Int) + IntKind.i64.wrap (2 * (a2.length:Int))) + 2) > 120) then [] else g_Vs_l6Send_0 (1:Int) a3 a4 a5 a6 a7 a8 a9 a10 (g_VZ71_0 a4 a5 a6 a7 a8 a9 a10)
noncomputable def g_Vs_l6Begin_4 (a0:tL1) (a1:Int) (a2:tL0) (a3:Int) (a4:Int) (a5:Int) (a6:Int) (a7:Int) (a8:Int) (a9:Int) (a10:Int):Bool := bif decide (g_Vs_l6At_0 a0 a1 a2 a3 ≥ 0) then false else bif g_Vs_l2Of_0 a0 a3 != 0 then false else bif decide ((a2.length:Int) > 0) then bif decide ((at_ yT0 a2 (Int.toNat (IntKind.i64.wrap ((a2.length:Int) - 1)))).1 > a3) then false else bif decide (IntKind.i64.wrap (IntKind.i64.wrap ((a0.length:Int) + IntKind.i64.wrap (2 * (a2.length:Int))) + 2) > 120) then false else true else bif decide (IntKind.i64.wrap (IntKind.i64.wrap ((a0.length:Int) + IntKind.i64.wrap (2 * (a2.length:Int))) + 2) > 120) then false else true
noncomputable def Fs_l6Begin:FSem := fun ys => match ys with
 | [.val true [.own .any true 92 (.pair (.int .i64) (.pair (.int .i64) (.pair (.sl 9 .str) (.sl 155 (.pair .str (.pair .bool (.sl 3 (.int .i64)))))))) a0,.int .i64 a1,.own .any true 73 (.pair (.int .i64) (.pair (.pair (.int .i64) (.pair (.int .i64) (.pair (.int .i64) (.pair (.int .i64) (.pair (.int .i64) (.pair (.int .i64) (.int .i64))))))) (.pair .bool (.pair (.sl 3 (.int .i64)) (.sl 3 (.int .i64)))))) a2],.val false [.int .i64 a3],.val true [.int .i64 a4,.int .i64 a5,.int .i64 a6,.int .i64 a7,.int .i64 a8,.int .i64 a9,.int .i64 a10]] => some ((g_As_l6Begin a0 a1 a2 a3 a4 a5 a6 a7 a8 a9 a10),.tup [(true,[.own .any true 92 (.pair (.int .i64) (.pair (.int .i64) (.pair (.sl 9 .str) (.sl 155 (.pair .str (.pair .bool (.sl 3 (.int .i64)))))))) (g_Vs_l6Begin_0 a0 a1 a2 a3 a4 a5 a6 a7 a8 a9 a10),.int .i64 (g_Vs_l6Begin_1 a0 a1 a2 a3 a4 a5 a6 a7 a8 a9 a10),.own .any true 73 (.pair (.int .i64) (.pair (.pair (.int .i64) (.pair (.int .i64) (.pair (.int .i64) (.pair (.int .i64) (.pair (.int .i64) (.pair (.int .i64) (.int .i64))))))) (.pair .bool (.pair (.sl 3 (.int .i64)) (.sl 3 (.int .i64)))))) (g_Vs_l6Begin_2 a0 a1 a2 a3 a4 a5 a6 a7 a8 a9 a10)]),(false,[.own .any true 83 (.pair (.int .i64) (.pair (.int .i64) (.pair (.int .i64) (.pair (.int .i64) (.pair (.int .i64) (.pair (.int .i64) (.pair (.int .i64) (.pair (.int .i64) (.pair (.int .i64) (.pair (.int .i64) (.int .i64))))))))))) (g_Vs_l6Begin_3 a0 a1 a2 a3 a4 a5 a6 a7 a8 a9 a10)]),(false,[.bool (g_Vs_l6Begin_4 a0 a1 a2 a3 a4 a5 a6 a7 a8 a9 a10)])],[])
 | _ => none
theorem vs_l6Begin (a0:tL1) (a1:Int) (a2:tL0) (a3:Int) (a4:Int) (a5:Int) (a6:Int) (a7:Int) (a8:Int) (a9:Int) (a10:Int):collapseH .std Es_l6Begin Os_l6Begin_0 (execFn Es_l6Begin Tryz.f57 mss_l6Begin [.val true [.own .any true 92 (.pair (.int .i64) (.pair (.int .i64) (.pair (.sl 9 .str) (.sl 155 (.pair .str (.pair .bool (.sl 3 (.int .i64)))))))) a0,.int .i64 a1,.own .any true 73 (.pair (.int .i64) (.pair (.pair (.int .i64) (.pair (.int .i64) (.pair (.int .i64) (.pair (.int .i64) (.pair (.int .i64) (.pair (.int .i64) (.int .i64))))))) (.pair .bool (.pair (.sl 3 (.int .i64)) (.sl 3 (.int .i64)))))) a2],.val false [.int .i64 a3],.val true [.int .i64 a4,.int .i64 a5,.int .i64 a6,.int .i64 a7,.int .i64 a8,.int .i64 a9,.int .i64 a10]]) = some ((g_As_l6Begin a0 a1 a2 a3 a4 a5 a6 a7 a8 a9 a10),.tup [(true,[.own .any true 92 (.pair (.int .i64) (.pair (.int .i64) (.pair (.sl 9 .str) (.sl 155 (.pair .str (.pair .bool (.sl 3 (.int .i64)))))))) (g_Vs_l6Begin_0 a0 a1 a2 a3 a4 a5 a6 a7 a8 a9 a10),.int .i64 (g_Vs_l6Begin_1 a0 a1 a2 a3 a4 a5 a6 a7 a8 a9 a10),.own .any true 73 (.pair (.int .i64) (.pair (.pair (.int .i64) (.pair (.int .i64) (.pair (.int .i64) (.pair (.int .i64) (.pair (.int .i64) (.pair (.int .i64) (.int .i64))))))) (.pair .bool (.pair (.sl 3 (.int .i64)) (.sl 3 (.int .i64)))))) (g_Vs_l6Begin_2 a0 a1 a2 a3 a4 a5 a6 a7 a8 a9 a10)]),(false,[.own .any true 83 (.pair (.int .i64) (.pair (.int .i64) (.pair (.int .i64) (.pair (.int .i64) (.pair (.int .i64) (.pair (.int .i64) (.pair (.int .i64) (.pair (.int .i64) (.pair (.int .i64) (.pair (.int .i64) (.int .i64))))))))))) (g_Vs_l6Begin_3 a0 a1 a2 a3 a4 a5 a6 a7 a8 a9 a10)]),(false,[.bool (g_Vs_l6Begin_4 a0 a1 a2 a3 a4 a5 a6 a7 a8 a9 a10)])],[]) := by kernel_rfl
theorem ss_l6Begin:Sound Tryz.prog 57 mss_l6Begin Fs_l6Begin := by
 refine fn_gen goods_l6Begin (by kernel_rfl) .std (fn := Tryz.f57) (c := (Tryz.f57.body.getD .skip)) (o := Os_l6Begin_0) (k := 0) (by kernel_rfl) (by kernel_rfl) (by kernel_rfl) (by kernel_rfl) (by decide) ks_l6Begin_0 ?_
 intro ys r outs h
 unfold Fs_l6Begin at h
 split at h
 ·exact (vs_l6Begin _ _ _ _ _ _ _ _ _ _ _).trans h
 ·cases h
noncomputable def Es_l2Note:Env where
 tt := mkTI Tryz.prog
 fn := fun _ => none
 bxf := fun _ => none
 mv := []
 keep := fun b => match b with
  | 0 => [(1,false),(2,false),(3,false),(4,false)]
  | _ => []
 keepB := fun b => match b with
  | 0 => [(1,false),(2,false),(3,false)]
  | _ => []
 keepX := fun b => match b with
  | 0 => [(2,false),(3,false)]
  | _ => []
 keepXB := fun b => match b with
  | 0 => [(2,false),(3,false)]
  | _ => []
theorem goodFs_l2Note:∀ f ms F,Es_l2Note.fn f = some (ms,F) → Sound Tryz.prog f ms F := fun f ms F h => by cases h
theorem goods_l2Note:Good Tryz.prog Es_l2Note := ⟨rfl,goodFs_l2Note,fun f ms F h => by cases h⟩
noncomputable def Os_l2Note_0:Orc := fun _ _ => none
noncomputable def mss_l2Note:List PM := [.rd]
noncomputable def lss_l2Note:List (Nat×Code) := loopsAll 0 (Tryz.f145.body.getD .skip)
noncomputable def cs_l2Note_0:Code := (loopOf 0 (Tryz.f145.body.getD .skip)).getD .skip
theorem lseqs_l2Note:lss_l2Note = [(0,cs_l2Note_0)] := by kernel_rfl
theorem ms_l2Note_0:∀ p,p ∈ lss_l2Note → p.1 = 0 → p.2 = cs_l2Note_0 := by
 intro p hp
 rw [lseqs_l2Note] at hp
 simp only [List.mem_cons,List.not_mem_nil,or_false] at hp
 subst hp; simp
theorem ks_l2Note_0:OrcOk Es_l2Note Os_l2Note_0 lss_l2Note 0 := orcOk_none
noncomputable def hs_l2Note_0 (y0:Int) (y1:Int) (y2:Int) (y3:List ByteArray) (y4:tL3) (y5:Int) (y6:Int) (y7:List ByteArray) (y8:tL3) (y9:Int) (y10:Int) (y11:List ByteArray) (y12:tL3):List (Pl×LV) := [(.T 1,.t (.val false [.ptr 1 0 0])),(.T 2,.t (.val false [.ptr 2 0 0])),(.T 3,.t (.val false [.ptr 3 0 0])),(.T 4,.t (.val false [.int .i64 y0])),(.B 1,.b 0 false [.int .i64 y1,.int .i64 y2,.sl .any 9 .str y3,.sl .any 155 (.pair .str (.pair .bool (.sl 3 (.int .i64)))) y4]),(.B 2,.b 0 false [.int .i64 y5,.int .i64 y6,.row 2 5 0,.row 2 7 0]),(.R 2 5,.r 0 (some ⟨false,.any,true,9,.str,y7⟩)),(.R 2 7,.r 0 (some ⟨false,.any,true,155,(.pair .str (.pair .bool (.sl 3 (.int .i64)))),y8⟩)),(.B 3,.b 0 false [.int .i64 y9,.int .i64 y10,.row 3 5 0,.row 3 7 0]),(.R 3 5,.r 0 (some ⟨false,.non,true,9,.str,y11⟩)),(.R 3 7,.r 0 (some ⟨false,.any,true,155,(.pair .str (.pair .bool (.sl 3 (.int .i64)))),y12⟩))]
noncomputable def g_Ss_l2Note_0 (y1:Int) (y2:Int) (y3:List ByteArray) (y4:tL3) (y5:Int) (y6:Int) (y7:List ByteArray) (y8:tL3) (y9:Int) (y10:Int) (y11:List ByteArray):(Int×tL3) → RT (Int×tL3) ((tL3))
 | (y0,y12) => .br (true) (.br (decide (y0 < (y4.length:Int))) (.br (decide (0 ≤ y0 ∧ y0 < (y4.length:Int))) (.br (decide ((nat_lit 0 + List.length (at_ yT3 y4 (Int.toNat y0)).2.2) * nat_lit 8 ≤ nat_lit 140737488355328 ∧ nat_lit 0 + List.length (at_ yT3 y4 (Int.toNat y0)).2.2 ≤ nat_lit 9223372036854775807)) (.br (decide ((List.length y12 + List.length [((at_ yT3 y4 (Int.toNat y0)).1,(at_ yT3 y4 (Int.toNat y0)).2.1,[] ++ (at_ yT3 y4 (Int.toNat y0)).2.2)]) * nat_lit 48 ≤ nat_lit 140737488355328 ∧ List.length y12 + List.length [((at_ yT3 y4 (Int.toNat y0)).1,(at_ yT3 y4 (Int.toNat y0)).2.1,[] ++ (at_ yT3 y4 (Int.toNat y0)).2.2)] ≤ nat_lit 9223372036854775807)) (.br (true) (.go ((IntKind.i64.wrap (y0 + 1),y12 ++ [((at_ yT3 y4 (Int.toNat y0)).1,(at_ yT3 y4 (Int.toNat y0)).2.1,[] ++ (at_ yT3 y4 (Int.toNat y0)).2.2)]))) .bad) .bad) .bad) .bad) (.out (y12))) .bad
noncomputable def g_Ls_l2Note_0 (y1:Int) (y2:Int) (y3:List ByteArray) (y4:tL3) (y5:Int) (y6:Int) (y7:List ByteArray) (y8:tL3) (y9:Int) (y10:Int) (y11:List ByteArray) (x:Int×tL3):Option ((tL3)) := loopO (g_Ss_l2Note_0 y1 y2 y3 y4 y5 y6 y7 y8 y9 y10 y11) x
noncomputable def xs_l2Note_0 (y1:Int) (y2:Int) (y3:List ByteArray) (y4:tL3) (y5:Int) (y6:Int) (y7:List ByteArray) (y8:tL3) (y9:Int) (y10:Int) (y11:List ByteArray):((tL3)) → Ex×List (Pl×LV) := fun r => (.exit 0,[(.T 2,.t (.val false [.ptr 2 0 0])),(.T 3,.t (.val false [.ptr 3 0 0])),(.B 2,.b 0 false [.int .i64 y5,.int .i64 y6,.row 2 5 0,.row 2 7 0]),(.R 2 5,.r 0 (some ⟨false,.any,true,9,.str,y7⟩)),(.R 2 7,.r 0 (some ⟨false,.any,true,155,(.pair .str (.pair .bool (.sl 3 (.int .i64)))),y8⟩)),(.B 3,.b 0 false [.int .i64 y9,.int .i64 y10,.row 3 5 0,.row 3 7 0]),(.R 3 5,.r 0 (some ⟨false,.non,true,9,.str,y11⟩)),(.R 3 7,.r 0 (some ⟨false,.any,true,155,(.pair .str (.pair .bool (.sl 3 (.int .i64)))),r⟩))])
noncomputable def Os_l2Note_1:Orc := fun b h => match b,h with
 | 0,[(.T 1,.t (.val false [.ptr 1 0 0])),(.T 2,.t (.val false [.ptr 2 0 0])),(.T 3,.t (.val false [.ptr 3 0 0])),(.T 4,.t (.val false [.int .i64 y0])),(.B 1,.b 0 false [.int .i64 y1,.int .i64 y2,.sl .any 9 .str y3,.sl .any 155 (.pair .str (.pair .bool (.sl 3 (.int .i64)))) y4]),(.B 2,.b 0 false [.int .i64 y5,.int .i64 y6,.row 2 5 0,.row 2 7 0]),(.R 2 5,.r 0 (some ⟨false,.any,true,9,.str,y7⟩)),(.R 2 7,.r 0 (some ⟨false,.any,true,155,(.pair .str (.pair .bool (.sl 3 (.int .i64)))),y8⟩)),(.B 3,.b 0 false [.int .i64 y9,.int .i64 y10,.row 3 5 0,.row 3 7 0]),(.R 3 5,.r 0 (some ⟨false,.non,true,9,.str,y11⟩)),(.R 3 7,.r 0 (some ⟨false,.any,true,155,(.pair .str (.pair .bool (.sl 3 (.int .i64)))),y12⟩))] => some (okO (g_Ls_l2Note_0 y1 y2 y3 y4 y5 y6 y7 y8 y9 y10 y11 (y0,y12)),(.leaf (.exit 0) [(.T 2,.t (.val false [.ptr 2 0 0])),(.T 3,.t (.val false [.ptr 3 0 0])),(.B 2,.b 0 false [.int .i64 y5,.int .i64 y6,.row 2 5 0,.row 2 7 0]),(.R 2 5,.r 0 (some ⟨false,.any,true,9,.str,y7⟩)),(.R 2 7,.r 0 (some ⟨false,.any,true,155,(.pair .str (.pair .bool (.sl 3 (.int .i64)))),y8⟩)),(.B 3,.b 0 false [.int .i64 y9,.int .i64 y10,.row 3 5 0,.row 3 7 0]),(.R 3 5,.r 0 (some ⟨false,.non,true,9,.str,y11⟩)),(.R 3 7,.r 0 (some ⟨false,.any,true,155,(.pair .str (.pair .bool (.sl 3 (.int .i64)))),(valO (g_Ls_l2Note_0 y1 y2 y3 y4 y5 y6 y7 y8 y9 y10 y11 (y0,y12)))⟩))]))
 | b,h => Os_l2Note_0 b h
theorem bs_l2Note_0 (y0:Int) (y1:Int) (y2:Int) (y3:List ByteArray) (y4:tL3) (y5:Int) (y6:Int) (y7:List ByteArray) (y8:tL3) (y9:Int) (y10:Int) (y11:List ByteArray) (y12:tL3):Tr.bt Es_l2Note Os_l2Note_0 (exec Es_l2Note 0 cs_l2Note_0 (St.of (hs_l2Note_0 y0 y1 y2 y3 y4 y5 y6 y7 y8 y9 y10 y11 y12)) (leafRd Es_l2Note 0)) = (g_Ss_l2Note_0 y1 y2 y3 y4 y5 y6 y7 y8 y9 y10 y11 (y0,y12)).bt (fun ((y0,y12):Int×tL3) => (hs_l2Note_0 y0 y1 y2 y3 y4 y5 y6 y7 y8 y9 y10 y11 y12)) (xs_l2Note_0 y1 y2 y3 y4 y5 y6 y7 y8 y9 y10 y11) := by kernel_rfl
theorem ks_l2Note_1:OrcOk Es_l2Note Os_l2Note_1 lss_l2Note 1 := orc_add ks_l2Note_0 (fun n p hp h ex h' ho => by
 obtain ⟨b,c⟩ := p
 obtain ⟨xt,h1,h2⟩ := ho
 have h1:Os_l2Note_1 b h = some (true,xt) := h1
 unfold Os_l2Note_1 at h1
 split at h1
 ·injection h1 with h1
  injection h1 with e1 e2
  subst e2
  have hc:c = cs_l2Note_0 := ms_l2Note_0 _ hp rfl
  subst hc
  right
  rename_i y0 y1 y2 y3 y4 y5 y6 y7 y8 y9 y10 y11 y12
  have key := LT_step ks_l2Note_0 hp (fun q hq => loopsAll_in _ _ _ _ hp hq) (fun ((y0,y12):Int×tL3) => (hs_l2Note_0 y0 y1 y2 y3 y4 y5 y6 y7 y8 y9 y10 y11 y12)) (xs_l2Note_0 y1 y2 y3 y4 y5 y6 y7 y8 y9 y10 y11) (g_Ss_l2Note_0 y1 y2 y3 y4 y5 y6 y7 y8 y9 y10 y11) (fun x => by first | exact bs_l2Note_0 x.1 y1 y2 y3 y4 y5 y6 y7 y8 y9 y10 y11 x.2) n (x := (y0,y12)) (okO_some e1)
  have hx:∀ r,XT.sel (.leaf (.exit 0) [(.T 2,.t (.val false [.ptr 2 0 0])),(.T 3,.t (.val false [.ptr 3 0 0])),(.B 2,.b 0 false [.int .i64 y5,.int .i64 y6,.row 2 5 0,.row 2 7 0]),(.R 2 5,.r 0 (some ⟨false,.any,true,9,.str,y7⟩)),(.R 2 7,.r 0 (some ⟨false,.any,true,155,(.pair .str (.pair .bool (.sl 3 (.int .i64)))),y8⟩)),(.B 3,.b 0 false [.int .i64 y9,.int .i64 y10,.row 3 5 0,.row 3 7 0]),(.R 3 5,.r 0 (some ⟨false,.non,true,9,.str,y11⟩)),(.R 3 7,.r 0 (some ⟨false,.any,true,155,(.pair .str (.pair .bool (.sl 3 (.int .i64)))),r⟩))]) = xs_l2Note_0 y1 y2 y3 y4 y5 y6 y7 y8 y9 y10 y11 r := fun r => by first | rfl | rcases r with r | r <;> rfl | rcases r with r | r | r <;> rfl | rcases r with r | r | r | r <;> rfl
  have h3 := (hx (valO (g_Ls_l2Note_0 y1 y2 y3 y4 y5 y6 y7 y8 y9 y10 y11 (y0,y12)))).symm.trans h2
  have e3 := congrArg Prod.fst h3
  have e4 := congrArg Prod.snd h3
  simp only at e3 e4
  rw [← e3,← e4]
  exact key
 ·exact .inl ⟨xt,h1,h2⟩)
noncomputable def g_As_l2Note (a0:Int) (a1:Int) (a2:List ByteArray) (a3:tL3):Bool := decide ((nat_lit 0 + List.length a2) * nat_lit 16 ≤ nat_lit 140737488355328 ∧ nat_lit 0 + List.length a2 ≤ nat_lit 9223372036854775807)&&okO (g_Ls_l2Note_0 a0 a1 a2 a3 (0:Int) (0:Int) [] [] a0 a1 ([] ++ a2) ((0:Int),[]))
noncomputable def g_Vs_l2Note_0 (a0:Int) (a1:Int) (a2:List ByteArray) (a3:tL3):List ByteArray := [] ++ a2
noncomputable def g_Vs_l2Note_1 (a0:Int) (a1:Int) (a2:List ByteArray) (a3:tL3):tL3 := valO (g_Ls_l2Note_0 a0 a1 a2 a3 (0:Int) (0:Int) [] [] a0 a1 ([] ++ a2) ((0:Int),[]))
noncomputable def Fs_l2Note:FSem := fun ys => match ys with
 | [.val true [.int .i64 a0,.int .i64 a1,.sl .any 9 .str a2,.sl .any 155 (.pair .str (.pair .bool (.sl 3 (.int .i64)))) a3]] => some ((g_As_l2Note a0 a1 a2 a3),.val true [.int .i64 a0,.int .i64 a1,.own .any true 9 .str (g_Vs_l2Note_0 a0 a1 a2 a3),.own .any true 155 (.pair .str (.pair .bool (.sl 3 (.int .i64)))) (g_Vs_l2Note_1 a0 a1 a2 a3)],[])
 | _ => none
theorem vs_l2Note (a0:Int) (a1:Int) (a2:List ByteArray) (a3:tL3):collapseH .std Es_l2Note Os_l2Note_1 (execFn Es_l2Note Tryz.f145 mss_l2Note [.val true [.int .i64 a0,.int .i64 a1,.sl .any 9 .str a2,.sl .any 155 (.pair .str (.pair .bool (.sl 3 (.int .i64)))) a3]]) = some ((g_As_l2Note a0 a1 a2 a3),.val true [.int .i64 a0,.int .i64 a1,.own .any true 9 .str (g_Vs_l2Note_0 a0 a1 a2 a3),.own .any true 155 (.pair .str (.pair .bool (.sl 3 (.int .i64)))) (g_Vs_l2Note_1 a0 a1 a2 a3)],[]) := by kernel_rfl
theorem ss_l2Note:Sound Tryz.prog 145 mss_l2Note Fs_l2Note := by
 refine fn_gen goods_l2Note (by kernel_rfl) .std (fn := Tryz.f145) (c := (Tryz.f145.body.getD .skip)) (o := Os_l2Note_1) (k := 1) (by kernel_rfl) (by kernel_rfl) (by kernel_rfl) (by kernel_rfl) (by decide) ks_l2Note_1 ?_
 intro ys r outs h
 unfold Fs_l2Note at h
 split at h
 ·exact (vs_l2Note _ _ _ _).trans h
 ·cases h
noncomputable def Es_l2Copy:Env where
 tt := mkTI Tryz.prog
 fn := fun f => match f with
  | 145 => some (mss_l2Note,FSem.wk mss_l2Note Fs_l2Note)
  | _ => none
 bxf := fun _ => none
 mv := []
 keep := fun b => match b with
  | 0 => [(1,false),(2,false),(3,false),(4,false)]
  | _ => []
 keepB := fun b => match b with
  | 0 => [(1,false),(2,false),(3,false)]
  | _ => []
 keepX := fun b => match b with
  | 0 => [(2,false),(3,false)]
  | _ => []
 keepXB := fun b => match b with
  | 0 => [(2,false),(3,false)]
  | _ => []
theorem goodFs_l2Copy:∀ f ms F,Es_l2Copy.fn f = some (ms,F) → Sound Tryz.prog f ms F := fun f ms F h => by
 unfold Es_l2Copy at h
 dsimp only at h
 split at h
 ·exact gF ss_l2Note h
 ·cases h
theorem goods_l2Copy:Good Tryz.prog Es_l2Copy := ⟨rfl,goodFs_l2Copy,fun f ms F h => by cases h⟩
noncomputable def Os_l2Copy_0:Orc := fun _ _ => none
noncomputable def mss_l2Copy:List PM := [.rd]
noncomputable def lss_l2Copy:List (Nat×Code) := loopsAll 0 (Tryz.f107.body.getD .skip)
noncomputable def cs_l2Copy_0:Code := (loopOf 0 (Tryz.f107.body.getD .skip)).getD .skip
theorem lseqs_l2Copy:lss_l2Copy = [(0,cs_l2Copy_0)] := by kernel_rfl
theorem ms_l2Copy_0:∀ p,p ∈ lss_l2Copy → p.1 = 0 → p.2 = cs_l2Copy_0 := by
 intro p hp
 rw [lseqs_l2Copy] at hp
 simp only [List.mem_cons,List.not_mem_nil,or_false] at hp
 subst hp; simp
theorem ks_l2Copy_0:OrcOk Es_l2Copy Os_l2Copy_0 lss_l2Copy 0 := orcOk_none
noncomputable def hs_l2Copy_0 (y0:Int) (y1:tL1) (y2:Int) (y3:Int) (y4:tL1) (y5:Int) (y6:tL1):List (Pl×LV) := [(.T 1,.t (.val false [.ptr 1 0 0])),(.T 2,.t (.val false [.ptr 2 0 0])),(.T 3,.t (.val false [.ptr 3 0 0])),(.T 4,.t (.val false [.int .i64 y0])),(.B 1,.b 0 false [.sl .any 92 (.pair (.int .i64) (.pair (.int .i64) (.pair (.sl 9 .str) (.sl 155 (.pair .str (.pair .bool (.sl 3 (.int .i64)))))))) y1,.int .i64 y2]),(.B 2,.b 0 false [.row 2 1 0,.int .i64 y3]),(.R 2 1,.r 0 (some ⟨false,.any,true,92,(.pair (.int .i64) (.pair (.int .i64) (.pair (.sl 9 .str) (.sl 155 (.pair .str (.pair .bool (.sl 3 (.int .i64)))))))),y4⟩)),(.B 3,.b 0 false [.row 3 1 0,.int .i64 y5]),(.R 3 1,.r 0 (some ⟨false,.any,true,92,(.pair (.int .i64) (.pair (.int .i64) (.pair (.sl 9 .str) (.sl 155 (.pair .str (.pair .bool (.sl 3 (.int .i64)))))))),y6⟩))]
noncomputable def g_Ss_l2Copy_0 (y1:tL1) (y2:Int) (y3:Int) (y4:tL1) (y5:Int):(Int×tL1) → RT (Int×tL1) ((tL1))
 | (y0,y6) => .br (true) (.br (decide (y0 < (y1.length:Int))) (.br (decide (0 ≤ y0 ∧ y0 < (y1.length:Int))) (.br (g_As_l2Note (at_ yT1 y1 (Int.toNat y0)).1 (at_ yT1 y1 (Int.toNat y0)).2.1 (at_ yT1 y1 (Int.toNat y0)).2.2.1 (at_ yT1 y1 (Int.toNat y0)).2.2.2) (.br (decide ((List.length y6 + List.length [((at_ yT1 y1 (Int.toNat y0)).1,(at_ yT1 y1 (Int.toNat y0)).2.1,g_Vs_l2Note_0 (at_ yT1 y1 (Int.toNat y0)).1 (at_ yT1 y1 (Int.toNat y0)).2.1 (at_ yT1 y1 (Int.toNat y0)).2.2.1 (at_ yT1 y1 (Int.toNat y0)).2.2.2,g_Vs_l2Note_1 (at_ yT1 y1 (Int.toNat y0)).1 (at_ yT1 y1 (Int.toNat y0)).2.1 (at_ yT1 y1 (Int.toNat y0)).2.2.1 (at_ yT1 y1 (Int.toNat y0)).2.2.2)]) * nat_lit 64 ≤ nat_lit 140737488355328 ∧ List.length y6 + List.length [((at_ yT1 y1 (Int.toNat y0)).1,(at_ yT1 y1 (Int.toNat y0)).2.1,g_Vs_l2Note_0 (at_ yT1 y1 (Int.toNat y0)).1 (at_ yT1 y1 (Int.toNat y0)).2.1 (at_ yT1 y1 (Int.toNat y0)).2.2.1 (at_ yT1 y1 (Int.toNat y0)).2.2.2,g_Vs_l2Note_1 (at_ yT1 y1 (Int.toNat y0)).1 (at_ yT1 y1 (Int.toNat y0)).2.1 (at_ yT1 y1 (Int.toNat y0)).2.2.1 (at_ yT1 y1 (Int.toNat y0)).2.2.2)] ≤ nat_lit 9223372036854775807)) (.br (true) (.go ((IntKind.i64.wrap (y0 + 1),y6 ++ [((at_ yT1 y1 (Int.toNat y0)).1,(at_ yT1 y1 (Int.toNat y0)).2.1,g_Vs_l2Note_0 (at_ yT1 y1 (Int.toNat y0)).1 (at_ yT1 y1 (Int.toNat y0)).2.1 (at_ yT1 y1 (Int.toNat y0)).2.2.1 (at_ yT1 y1 (Int.toNat y0)).2.2.2,g_Vs_l2Note_1 (at_ yT1 y1 (Int.toNat y0)).1 (at_ yT1 y1 (Int.toNat y0)).2.1 (at_ yT1 y1 (Int.toNat y0)).2.2.1 (at_ yT1 y1 (Int.toNat y0)).2.2.2)]))) .bad) .bad) .bad) .bad) (.out (y6))) .bad
noncomputable def g_Ls_l2Copy_0 (y1:tL1) (y2:Int) (y3:Int) (y4:tL1) (y5:Int) (x:Int×tL1):Option ((tL1)) := loopO (g_Ss_l2Copy_0 y1 y2 y3 y4 y5) x
noncomputable def xs_l2Copy_0 (y1:tL1) (y2:Int) (y3:Int) (y4:tL1) (y5:Int):((tL1)) → Ex×List (Pl×LV) := fun r => (.exit 0,[(.T 2,.t (.val false [.ptr 2 0 0])),(.T 3,.t (.val false [.ptr 3 0 0])),(.B 2,.b 0 false [.row 2 1 0,.int .i64 y3]),(.R 2 1,.r 0 (some ⟨false,.any,true,92,(.pair (.int .i64) (.pair (.int .i64) (.pair (.sl 9 .str) (.sl 155 (.pair .str (.pair .bool (.sl 3 (.int .i64)))))))),y4⟩)),(.B 3,.b 0 false [.row 3 1 0,.int .i64 y5]),(.R 3 1,.r 0 (some ⟨false,.any,true,92,(.pair (.int .i64) (.pair (.int .i64) (.pair (.sl 9 .str) (.sl 155 (.pair .str (.pair .bool (.sl 3 (.int .i64)))))))),r⟩))])
noncomputable def Os_l2Copy_1:Orc := fun b h => match b,h with
 | 0,[(.T 1,.t (.val false [.ptr 1 0 0])),(.T 2,.t (.val false [.ptr 2 0 0])),(.T 3,.t (.val false [.ptr 3 0 0])),(.T 4,.t (.val false [.int .i64 y0])),(.B 1,.b 0 false [.sl .any 92 (.pair (.int .i64) (.pair (.int .i64) (.pair (.sl 9 .str) (.sl 155 (.pair .str (.pair .bool (.sl 3 (.int .i64)))))))) y1,.int .i64 y2]),(.B 2,.b 0 false [.row 2 1 0,.int .i64 y3]),(.R 2 1,.r 0 (some ⟨false,.any,true,92,(.pair (.int .i64) (.pair (.int .i64) (.pair (.sl 9 .str) (.sl 155 (.pair .str (.pair .bool (.sl 3 (.int .i64)))))))),y4⟩)),(.B 3,.b 0 false [.row 3 1 0,.int .i64 y5]),(.R 3 1,.r 0 (some ⟨false,.any,true,92,(.pair (.int .i64) (.pair (.int .i64) (.pair (.sl 9 .str) (.sl 155 (.pair .str (.pair .bool (.sl 3 (.int .i64)))))))),y6⟩))] => some (okO (g_Ls_l2Copy_0 y1 y2 y3 y4 y5 (y0,y6)),(.leaf (.exit 0) [(.T 2,.t (.val false [.ptr 2 0 0])),(.T 3,.t (.val false [.ptr 3 0 0])),(.B 2,.b 0 false [.row 2 1 0,.int .i64 y3]),(.R 2 1,.r 0 (some ⟨false,.any,true,92,(.pair (.int .i64) (.pair (.int .i64) (.pair (.sl 9 .str) (.sl 155 (.pair .str (.pair .bool (.sl 3 (.int .i64)))))))),y4⟩)),(.B 3,.b 0 false [.row 3 1 0,.int .i64 y5]),(.R 3 1,.r 0 (some ⟨false,.any,true,92,(.pair (.int .i64) (.pair (.int .i64) (.pair (.sl 9 .str) (.sl 155 (.pair .str (.pair .bool (.sl 3 (.int .i64)))))))),(valO (g_Ls_l2Copy_0 y1 y2 y3 y4 y5 (y0,y6)))⟩))]))
 | b,h => Os_l2Copy_0 b h
theorem bs_l2Copy_0 (y0:Int) (y1:tL1) (y2:Int) (y3:Int) (y4:tL1) (y5:Int) (y6:tL1):Tr.bt Es_l2Copy Os_l2Copy_0 (exec Es_l2Copy 0 cs_l2Copy_0 (St.of (hs_l2Copy_0 y0 y1 y2 y3 y4 y5 y6)) (leafRd Es_l2Copy 0)) = (g_Ss_l2Copy_0 y1 y2 y3 y4 y5 (y0,y6)).bt (fun ((y0,y6):Int×tL1) => (hs_l2Copy_0 y0 y1 y2 y3 y4 y5 y6)) (xs_l2Copy_0 y1 y2 y3 y4 y5) := by kernel_rfl
theorem ks_l2Copy_1:OrcOk Es_l2Copy Os_l2Copy_1 lss_l2Copy 1 := orc_add ks_l2Copy_0 (fun n p hp h ex h' ho => by
 obtain ⟨b,c⟩ := p
 obtain ⟨xt,h1,h2⟩ := ho
 have h1:Os_l2Copy_1 b h = some (true,xt) := h1
 unfold Os_l2Copy_1 at h1
 split at h1
 ·injection h1 with h1
  injection h1 with e1 e2
  subst e2
  have hc:c = cs_l2Copy_0 := ms_l2Copy_0 _ hp rfl
  subst hc
  right
  rename_i y0 y1 y2 y3 y4 y5 y6
  have key := LT_step ks_l2Copy_0 hp (fun q hq => loopsAll_in _ _ _ _ hp hq) (fun ((y0,y6):Int×tL1) => (hs_l2Copy_0 y0 y1 y2 y3 y4 y5 y6)) (xs_l2Copy_0 y1 y2 y3 y4 y5) (g_Ss_l2Copy_0 y1 y2 y3 y4 y5) (fun x => by first | exact bs_l2Copy_0 x.1 y1 y2 y3 y4 y5 x.2) n (x := (y0,y6)) (okO_some e1)
  have hx:∀ r,XT.sel (.leaf (.exit 0) [(.T 2,.t (.val false [.ptr 2 0 0])),(.T 3,.t (.val false [.ptr 3 0 0])),(.B 2,.b 0 false [.row 2 1 0,.int .i64 y3]),(.R 2 1,.r 0 (some ⟨false,.any,true,92,(.pair (.int .i64) (.pair (.int .i64) (.pair (.sl 9 .str) (.sl 155 (.pair .str (.pair .bool (.sl 3 (.int .i64)))))))),y4⟩)),(.B 3,.b 0 false [.row 3 1 0,.int .i64 y5]),(.R 3 1,.r 0 (some ⟨false,.any,true,92,(.pair (.int .i64) (.pair (.int .i64) (.pair (.sl 9 .str) (.sl 155 (.pair .str (.pair .bool (.sl 3 (.int .i64)))))))),r⟩))]) = xs_l2Copy_0 y1 y2 y3 y4 y5 r := fun r => by first | rfl | rcases r with r | r <;> rfl | rcases r with r | r | r <;> rfl | rcases r with r | r | r | r <;> rfl
  have h3 := (hx (valO (g_Ls_l2Copy_0 y1 y2 y3 y4 y5 (y0,y6)))).symm.trans h2
  have e3 := congrArg Prod.fst h3
  have e4 := congrArg Prod.snd h3
  simp only at e3 e4
  rw [← e3,← e4]
  exact key
 ·exact .inl ⟨xt,h1,h2⟩)
noncomputable def g_As_l2Copy (a0:tL1) (a1:Int):Bool := okO (g_Ls_l2Copy_0 a0 a1 (0:Int) [] a1 ((0:Int),[]))
noncomputable def g_Vs_l2Copy_0 (a0:tL1) (a1:Int):tL1 := valO (g_Ls_l2Copy_0 a0 a1 (0:Int) [] a1 ((0:Int),[]))
noncomputable def Fs_l2Copy:FSem := fun ys => match ys with
 | [.val true [.sl .any 92 (.pair (.int .i64) (.pair (.int .i64) (.pair (.sl 9 .str) (.sl 155 (.pair .str (.pair .bool (.sl 3 (.int .i64)))))))) a0,.int .i64 a1]] => some ((g_As_l2Copy a0 a1),.val true [.own .any true 92 (.pair (.int .i64) (.pair (.int .i64) (.pair (.sl 9 .str) (.sl 155 (.pair .str (.pair .bool (.sl 3 (.int .i64)))))))) (g_Vs_l2Copy_0 a0 a1),.int .i64 a1],[])
 | _ => none
theorem vs_l2Copy (a0:tL1) (a1:Int):collapseH .std Es_l2Copy Os_l2Copy_1 (execFn Es_l2Copy Tryz.f107 mss_l2Copy [.val true [.sl .any 92 (.pair (.int .i64) (.pair (.int .i64) (.pair (.sl 9 .str) (.sl 155 (.pair .str (.pair .bool (.sl 3 (.int .i64)))))))) a0,.int .i64 a1]]) = some ((g_As_l2Copy a0 a1),.val true [.own .any true 92 (.pair (.int .i64) (.pair (.int .i64) (.pair (.sl 9 .str) (.sl 155 (.pair .str (.pair .bool (.sl 3 (.int .i64)))))))) (g_Vs_l2Copy_0 a0 a1),.int .i64 a1],[]) := by kernel_rfl
theorem ss_l2Copy:Sound Tryz.prog 107 mss_l2Copy Fs_l2Copy := by
 refine fn_gen goods_l2Copy (by kernel_rfl) .std (fn := Tryz.f107) (c := (Tryz.f107.body.getD .skip)) (o := Os_l2Copy_1) (k := 1) (by kernel_rfl) (by kernel_rfl) (by kernel_rfl) (by kernel_rfl) (by decide) ks_l2Copy_1 ?_
 intro ys r outs h
 unfold Fs_l2Copy at h
 split at h
 ·exact (vs_l2Copy _ _).trans h
 ·cases h
noncomputable def Es_l6Copy:Env where
 tt := mkTI Tryz.prog
 fn := fun f => match f with
  | 107 => some (mss_l2Copy,FSem.wk mss_l2Copy Fs_l2Copy)
  | _ => none
 bxf := fun _ => none
 mv := []
 keep := fun b => match b with
  | 0 => [(1,false),(2,false),(3,false),(4,false)]
  | _ => []
 keepB := fun b => match b with
  | 0 => [(1,false),(2,false),(3,false)]
  | _ => []
 keepX := fun b => match b with
  | 0 => [(2,false),(3,false)]
  | _ => []
 keepXB := fun b => match b with
  | 0 => [(2,false),(3,false)]
  | _ => []
theorem goodFs_l6Copy:∀ f ms F,Es_l6Copy.fn f = some (ms,F) → Sound Tryz.prog f ms F := fun f ms F h => by
 unfold Es_l6Copy at h
 dsimp only at h
 split at h
 ·exact gF ss_l2Copy h
 ·cases h
theorem goods_l6Copy:Good Tryz.prog Es_l6Copy := ⟨rfl,goodFs_l6Copy,fun f ms F h => by cases h⟩
noncomputable def Os_l6Copy_0:Orc := fun _ _ => none
noncomputable def mss_l6Copy:List PM := [.rd]
noncomputable def lss_l6Copy:List (Nat×Code) := loopsAll 0 (Tryz.f48.body.getD .skip)
noncomputable def cs_l6Copy_0:Code := (loopOf 0 (Tryz.f48.body.getD .skip)).getD .skip
theorem lseqs_l6Copy:lss_l6Copy = [(0,cs_l6Copy_0)] := by kernel_rfl
theorem ms_l6Copy_0:∀ p,p ∈ lss_l6Copy → p.1 = 0 → p.2 = cs_l6Copy_0 := by
 intro p hp
 rw [lseqs_l6Copy] at hp
 simp only [List.mem_cons,List.not_mem_nil,or_false] at hp
 subst hp; simp
theorem ks_l6Copy_0:OrcOk Es_l6Copy Os_l6Copy_0 lss_l6Copy 0 := orcOk_none
noncomputable def hs_l6Copy_0 (y0:Int) (y1:tL1) (y2:Int) (y3:tL0) (y4:Int) (y5:tL1) (y6:tL0) (y7:Int) (y8:tL1) (y9:tL0):List (Pl×LV) := [(.T 1,.t (.val false [.ptr 1 0 0])),(.T 2,.t (.val false [.ptr 2 0 0])),(.T 3,.t (.val false [.ptr 3 0 0])),(.T 4,.t (.val false [.int .i64 y0])),(.B 1,.b 0 false [.sl .any 92 (.pair (.int .i64) (.pair (.int .i64) (.pair (.sl 9 .str) (.sl 155 (.pair .str (.pair .bool (.sl 3 (.int .i64)))))))) y1,.int .i64 y2,.sl .any 73 (.pair (.int .i64) (.pair (.pair (.int .i64) (.pair (.int .i64) (.pair (.int .i64) (.pair (.int .i64) (.pair (.int .i64) (.pair (.int .i64) (.int .i64))))))) (.pair .bool (.pair (.sl 3 (.int .i64)) (.sl 3 (.int .i64)))))) y3]),(.B 2,.b 0 false [.row 2 1 0,.int .i64 y4,.row 2 5 0]),(.R 2 1,.r 0 (some ⟨false,.any,true,92,(.pair (.int .i64) (.pair (.int .i64) (.pair (.sl 9 .str) (.sl 155 (.pair .str (.pair .bool (.sl 3 (.int .i64)))))))),y5⟩)),(.R 2 5,.r 0 (some ⟨false,.any,true,73,(.pair (.int .i64) (.pair (.pair (.int .i64) (.pair (.int .i64) (.pair (.int .i64) (.pair (.int .i64) (.pair (.int .i64) (.pair (.int .i64) (.int .i64))))))) (.pair .bool (.pair (.sl 3 (.int .i64)) (.sl 3 (.int .i64)))))),y6⟩)),(.B 3,.b 0 false [.row 3 1 0,.int .i64 y7,.row 3 5 0]),(.R 3 1,.r 0 (some ⟨false,.any,true,92,(.pair (.int .i64) (.pair (.int .i64) (.pair (.sl 9 .str) (.sl 155 (.pair .str (.pair .bool (.sl 3 (.int .i64)))))))),y8⟩)),(.R 3 5,.r 0 (some ⟨false,.any,true,73,(.pair (.int .i64) (.pair (.pair (.int .i64) (.pair (.int .i64) (.pair (.int .i64) (.pair (.int .i64) (.pair (.int .i64) (.pair (.int .i64) (.int .i64))))))) (.pair .bool (.pair (.sl 3 (.int .i64)) (.sl 3 (.int .i64)))))),y9⟩))]
noncomputable def g_Ss_l6Copy_0 (y1:tL1) (y2:Int) (y3:tL0) (y4:Int) (y5:tL1) (y6:tL0) (y7:Int) (y8:tL1):(Int×tL0) → RT (Int×tL0) ((tL0))
 | (y0,y9) => .br (true) (.br (decide (y0 < (y3.length:Int))) (.br (decide (0 ≤ y0 ∧ y0 < (y3.length:Int))) (.br (decide ((nat_lit 0 + List.length (at_ yT0 y3 (Int.toNat y0)).2.2.2.1) * nat_lit 8 ≤ nat_lit 140737488355328 ∧ nat_lit 0 + List.length (at_ yT0 y3 (Int.toNat y0)).2.2.2.1 ≤ nat_lit 9223372036854775807)) (.br (decide ((nat_lit 0 + List.length (at_ yT0 y3 (Int.toNat y0)).2.2.2.2) * nat_lit 8 ≤ nat_lit 140737488355328 ∧ nat_lit 0 + List.length (at_ yT0 y3 (Int.toNat y0)).2.2.2.2 ≤ nat_lit 9223372036854775807)) (.br (decide ((List.length y9 + List.length [((at_ yT0 y3 (Int.toNat y0)).1,((at_ yT0 y3 (Int.toNat y0)).2.1.1,(at_ yT0 y3 (Int.toNat y0)).2.1.2.1,(at_ yT0 y3 (Int.toNat y0)).2.1.2.2.1,(at_ yT0 y3 (Int.toNat y0)).2.1.2.2.2.1,(at_ yT0 y3 (Int.toNat y0)).2.1.2.2.2.2.1,(at_ yT0 y3 (Int.toNat y0)).2.1.2.2.2.2.2.1,(at_ yT0 y3 (Int.toNat y0)).2.1.2.2.2.2.2.2),(at_ yT0 y3 (Int.toNat y0)).2.2.1,[] ++ (at_ yT0 y3 (Int.toNat y0)).2.2.2.1,[] ++ (at_ yT0 y3 (Int.toNat y0)).2.2.2.2)]) * nat_lit 120 ≤ nat_lit 140737488355328 ∧ List.length y9 + List.length [((at_ yT0 y3 (Int.toNat y0)).1,((at_ yT0 y3 (Int.toNat y0)).2.1.1,(at_ yT0 y3 (Int.toNat y0)).2.1.2.1,(at_ yT0 y3 (Int.toNat y0)).2.1.2.2.1,(at_ yT0 y3 (Int.toNat y0)).2.1.2.2.2.1,(at_ yT0 y3 (Int.toNat y0)).2.1.2.2.2.2.1,(at_ yT0 y3 (Int.toNat y0)).2.1.2.2.2.2.2.1,(at_ yT0 y3 (Int.toNat y0)).2.1.2.2.2.2.2.2),(at_ yT0 y3 (Int.toNat y0)).2.2.1,[] ++ (at_ yT0 y3 (Int.toNat y0)).2.2.2.1,[] ++ (at_ yT0 y3 (Int.toNat y0)).2.2.2.2)] ≤ nat_lit 9223372036854775807)) (.br (true) (.go ((IntKind.i64.wrap (y0 + 1),y9 ++ [((at_ yT0 y3 (Int.toNat y0)).1,((at_ yT0 y3 (Int.toNat y0)).2.1.1,(at_ yT0 y3 (Int.toNat y0)).2.1.2.1,(at_ yT0 y3 (Int.toNat y0)).2.1.2.2.1,(at_ yT0 y3 (Int.toNat y0)).2.1.2.2.2.1,(at_ yT0 y3 (Int.toNat y0)).2.1.2.2.2.2.1,(at_ yT0 y3 (Int.toNat y0)).2.1.2.2.2.2.2.1,(at_ yT0 y3 (Int.toNat y0)).2.1.2.2.2.2.2.2),(at_ yT0 y3 (Int.toNat y0)).2.2.1,[] ++ (at_ yT0 y3 (Int.toNat y0)).2.2.2.1,[] ++ (at_ yT0 y3 (Int.toNat y0)).2.2.2.2)]))) .bad) .bad) .bad) .bad) .bad) (.out (y9))) .bad
noncomputable def g_Ls_l6Copy_0 (y1:tL1) (y2:Int) (y3:tL0) (y4:Int) (y5:tL1) (y6:tL0) (y7:Int) (y8:tL1) (x:Int×tL0):Option ((tL0)) := loopO (g_Ss_l6Copy_0 y1 y2 y3 y4 y5 y6 y7 y8) x
noncomputable def xs_l6Copy_0 (y1:tL1) (y2:Int) (y3:tL0) (y4:Int) (y5:tL1) (y6:tL0) (y7:Int) (y8:tL1):((tL0)) → Ex×List (Pl×LV) := fun r => (.exit 0,[(.T 2,.t (.val false [.ptr 2 0 0])),(.T 3,.t (.val false [.ptr 3 0 0])),(.B 2,.b 0 false [.row 2 1 0,.int .i64 y4,.row 2 5 0]),(.R 2 1,.r 0 (some ⟨false,.any,true,92,(.pair (.int .i64) (.pair (.int .i64) (.pair (.sl 9 .str) (.sl 155 (.pair .str (.pair .bool (.sl 3 (.int .i64)))))))),y5⟩)),(.R 2 5,.r 0 (some ⟨false,.any,true,73,(.pair (.int .i64) (.pair (.pair (.int .i64) (.pair (.int .i64) (.pair (.int .i64) (.pair (.int .i64) (.pair (.int .i64) (.pair (.int .i64) (.int .i64))))))) (.pair .bool (.pair (.sl 3 (.int .i64)) (.sl 3 (.int .i64)))))),y6⟩)),(.B 3,.b 0 false [.row 3 1 0,.int .i64 y7,.row 3 5 0]),(.R 3 1,.r 0 (some ⟨false,.any,true,92,(.pair (.int .i64) (.pair (.int .i64) (.pair (.sl 9 .str) (.sl 155 (.pair .str (.pair .bool (.sl 3 (.int .i64)))))))),y8⟩)),(.R 3 5,.r 0 (some ⟨false,.any,true,73,(.pair (.int .i64) (.pair (.pair (.int .i64) (.pair (.int .i64) (.pair (.int .i64) (.pair (.int .i64) (.pair (.int .i64) (.pair (.int .i64) (.int .i64))))))) (.pair .bool (.pair (.sl 3 (.int .i64)) (.sl 3 (.int .i64)))))),r⟩))])
noncomputable def Os_l6Copy_1:Orc := fun b h => match b,h with
 | 0,[(.T 1,.t (.val false [.ptr 1 0 0])),(.T 2,.t (.val false [.ptr 2 0 0])),(.T 3,.t (.val false [.ptr 3 0 0])),(.T 4,.t (.val false [.int .i64 y0])),(.B 1,.b 0 false [.sl .any 92 (.pair (.int .i64) (.pair (.int .i64) (.pair (.sl 9 .str) (.sl 155 (.pair .str (.pair .bool (.sl 3 (.int .i64)))))))) y1,.int .i64 y2,.sl .any 73 (.pair (.int .i64) (.pair (.pair (.int .i64) (.pair (.int .i64) (.pair (.int .i64) (.pair (.int .i64) (.pair (.int .i64) (.pair (.int .i64) (.int .i64))))))) (.pair .bool (.pair (.sl 3 (.int .i64)) (.sl 3 (.int .i64)))))) y3]),(.B 2,.b 0 false [.row 2 1 0,.int .i64 y4,.row 2 5 0]),(.R 2 1,.r 0 (some ⟨false,.any,true,92,(.pair (.int .i64) (.pair (.int .i64) (.pair (.sl 9 .str) (.sl 155 (.pair .str (.pair .bool (.sl 3 (.int .i64)))))))),y5⟩)),(.R 2 5,.r 0 (some ⟨false,.any,true,73,(.pair (.int .i64) (.pair (.pair (.int .i64) (.pair (.int .i64) (.pair (.int .i64) (.pair (.int .i64) (.pair (.int .i64) (.pair (.int .i64) (.int .i64))))))) (.pair .bool (.pair (.sl 3 (.int .i64)) (.sl 3 (.int .i64)))))),y6⟩)),(.B 3,.b 0 false [.row 3 1 0,.int .i64 y7,.row 3 5 0]),(.R 3 1,.r 0 (some ⟨false,.any,true,92,(.pair (.int .i64) (.pair (.int .i64) (.pair (.sl 9 .str) (.sl 155 (.pair .str (.pair .bool (.sl 3 (.int .i64)))))))),y8⟩)),(.R 3 5,.r 0 (some ⟨false,.any,true,73,(.pair (.int .i64) (.pair (.pair (.int .i64) (.pair (.int .i64) (.pair (.int .i64) (.pair (.int .i64) (.pair (.int .i64) (.pair (.int .i64) (.int .i64))))))) (.pair .bool (.pair (.sl 3 (.int .i64)) (.sl 3 (.int .i64)))))),y9⟩))] => some (okO (g_Ls_l6Copy_0 y1 y2 y3 y4 y5 y6 y7 y8 (y0,y9)),(.leaf (.exit 0) [(.T 2,.t (.val false [.ptr 2 0 0])),(.T 3,.t (.val false [.ptr 3 0 0])),(.B 2,.b 0 false [.row 2 1 0,.int .i64 y4,.row 2 5 0]),(.R 2 1,.r 0 (some ⟨false,.any,true,92,(.pair (.int .i64) (.pair (.int .i64) (.pair (.sl 9 .str) (.sl 155 (.pair .str (.pair .bool (.sl 3 (.int .i64)))))))),y5⟩)),(.R 2 5,.r 0 (some ⟨false,.any,true,73,(.pair (.int .i64) (.pair (.pair (.int .i64) (.pair (.int .i64) (.pair (.int .i64) (.pair (.int .i64) (.pair (.int .i64) (.pair (.int .i64) (.int .i64))))))) (.pair .bool (.pair (.sl 3 (.int .i64)) (.sl 3 (.int .i64)))))),y6⟩)),(.B 3,.b 0 false [.row 3 1 0,.int .i64 y7,.row 3 5 0]),(.R 3 1,.r 0 (some ⟨false,.any,true,92,(.pair (.int .i64) (.pair (.int .i64) (.pair (.sl 9 .str) (.sl 155 (.pair .str (.pair .bool (.sl 3 (.int .i64)))))))),y8⟩)),(.R 3 5,.r 0 (some ⟨false,.any,true,73,(.pair (.int .i64) (.pair (.pair (.int .i64) (.pair (.int .i64) (.pair (.int .i64) (.pair (.int .i64) (.pair (.int .i64) (.pair (.int .i64) (.int .i64))))))) (.pair .bool (.pair (.sl 3 (.int .i64)) (.sl 3 (.int .i64)))))),(valO (g_Ls_l6Copy_0 y1 y2 y3 y4 y5 y6 y7 y8 (y0,y9)))⟩))]))
 | b,h => Os_l6Copy_0 b h
theorem bs_l6Copy_0 (y0:Int) (y1:tL1) (y2:Int) (y3:tL0) (y4:Int) (y5:tL1) (y6:tL0) (y7:Int) (y8:tL1) (y9:tL0):Tr.bt Es_l6Copy Os_l6Copy_0 (exec Es_l6Copy 0 cs_l6Copy_0 (St.of (hs_l6Copy_0 y0 y1 y2 y3 y4 y5 y6 y7 y8 y9)) (leafRd Es_l6Copy 0)) = (g_Ss_l6Copy_0 y1 y2 y3 y4 y5 y6 y7 y8 (y0,y9)).bt (fun ((y0,y9):Int×tL0) => (hs_l6Copy_0 y0 y1 y2 y3 y4 y5 y6 y7 y8 y9)) (xs_l6Copy_0 y1 y2 y3 y4 y5 y6 y7 y8) := by kernel_rfl
theorem ks_l6Copy_1:OrcOk Es_l6Copy Os_l6Copy_1 lss_l6Copy 1 := orc_add ks_l6Copy_0 (fun n p hp h ex h' ho => by
 obtain ⟨b,c⟩ := p
 obtain ⟨xt,h1,h2⟩ := ho
 have h1:Os_l6Copy_1 b h = some (true,xt) := h1
 unfold Os_l6Copy_1 at h1
 split at h1
 ·injection h1 with h1
  injection h1 with e1 e2
  subst e2
  have hc:c = cs_l6Copy_0 := ms_l6Copy_0 _ hp rfl
  subst hc
  right
  rename_i y0 y1 y2 y3 y4 y5 y6 y7 y8 y9
  have key := LT_step ks_l6Copy_0 hp (fun q hq => loopsAll_in _ _ _ _ hp hq) (fun ((y0,y9):Int×tL0) => (hs_l6Copy_0 y0 y1 y2 y3 y4 y5 y6 y7 y8 y9)) (xs_l6Copy_0 y1 y2 y3 y4 y5 y6 y7 y8) (g_Ss_l6Copy_0 y1 y2 y3 y4 y5 y6 y7 y8) (fun x => by first | exact bs_l6Copy_0 x.1 y1 y2 y3 y4 y5 y6 y7 y8 x.2) n (x := (y0,y9)) (okO_some e1)
  have hx:∀ r,XT.sel (.leaf (.exit 0) [(.T 2,.t (.val false [.ptr 2 0 0])),(.T 3,.t (.val false [.ptr 3 0 0])),(.B 2,.b 0 false [.row 2 1 0,.int .i64 y4,.row 2 5 0]),(.R 2 1,.r 0 (some ⟨false,.any,true,92,(.pair (.int .i64) (.pair (.int .i64) (.pair (.sl 9 .str) (.sl 155 (.pair .str (.pair .bool (.sl 3 (.int .i64)))))))),y5⟩)),(.R 2 5,.r 0 (some ⟨false,.any,true,73,(.pair (.int .i64) (.pair (.pair (.int .i64) (.pair (.int .i64) (.pair (.int .i64) (.pair (.int .i64) (.pair (.int .i64) (.pair (.int .i64) (.int .i64))))))) (.pair .bool (.pair (.sl 3 (.int .i64)) (.sl 3 (.int .i64)))))),y6⟩)),(.B 3,.b 0 false [.row 3 1 0,.int .i64 y7,.row 3 5 0]),(.R 3 1,.r 0 (some ⟨false,.any,true,92,(.pair (.int .i64) (.pair (.int .i64) (.pair (.sl 9 .str) (.sl 155 (.pair .str (.pair .bool (.sl 3 (.int .i64)))))))),y8⟩)),(.R 3 5,.r 0 (some ⟨false,.any,true,73,(.pair (.int .i64) (.pair (.pair (.int .i64) (.pair (.int .i64) (.pair (.int .i64) (.pair (.int .i64) (.pair (.int .i64) (.pair (.int .i64) (.int .i64))))))) (.pair .bool (.pair (.sl 3 (.int .i64)) (.sl 3 (.int .i64)))))),r⟩))]) = xs_l6Copy_0 y1 y2 y3 y4 y5 y6 y7 y8 r := fun r => by first | rfl | rcases r with r | r <;> rfl | rcases r with r | r | r <;> rfl | rcases r with r | r | r | r <;> rfl
  have h3 := (hx (valO (g_Ls_l6Copy_0 y1 y2 y3 y4 y5 y6 y7 y8 (y0,y9)))).symm.trans h2
  have e3 := congrArg Prod.fst h3
  have e4 := congrArg Prod.snd h3
  simp only at e3 e4
  rw [← e3,← e4]
  exact key
 ·exact .inl ⟨xt,h1,h2⟩)
noncomputable def g_As_l6Copy (a0:tL1) (a1:Int) (a2:tL0):Bool := g_As_l2Copy a0 a1&&okO (g_Ls_l6Copy_0 a0 a1 a2 (0:Int) [] [] a1 (g_Vs_l2Copy_0 a0 a1) ((0:Int),[]))
noncomputable def g_Vs_l6Copy_0 (a0:tL1) (a1:Int) (a2:tL0):tL0 := valO (g_Ls_l6Copy_0 a0 a1 a2 (0:Int) [] [] a1 (g_Vs_l2Copy_0 a0 a1) ((0:Int),[]))
noncomputable def Fs_l6Copy:FSem := fun ys => match ys with
 | [.val true [.sl .any 92 (.pair (.int .i64) (.pair (.int .i64) (.pair (.sl 9 .str) (.sl 155 (.pair .str (.pair .bool (.sl 3 (.int .i64)))))))) a0,.int .i64 a1,.sl .any 73 (.pair (.int .i64) (.pair (.pair (.int .i64) (.pair (.int .i64) (.pair (.int .i64) (.pair (.int .i64) (.pair (.int .i64) (.pair (.int .i64) (.int .i64))))))) (.pair .bool (.pair (.sl 3 (.int .i64)) (.sl 3 (.int .i64)))))) a2]] => some ((g_As_l6Copy a0 a1 a2),.val true [.own .any true 92 (.pair (.int .i64) (.pair (.int .i64) (.pair (.sl 9 .str) (.sl 155 (.pair .str (.pair .bool (.sl 3 (.int .i64)))))))) (g_Vs_l2Copy_0 a0 a1),.int .i64 a1,.own .any true 73 (.pair (.int .i64) (.pair (.pair (.int .i64) (.pair (.int .i64) (.pair (.int .i64) (.pair (.int .i64) (.pair (.int .i64) (.pair (.int .i64) (.int .i64))))))) (.pair .bool (.pair (.sl 3 (.int .i64)) (.sl 3 (.int .i64)))))) (g_Vs_l6Copy_0 a0 a1 a2)],[])
 | _ => none
theorem vs_l6Copy (a0:tL1) (a1:Int) (a2:tL0):collapseH .std Es_l6Copy Os_l6Copy_1 (execFn Es_l6Copy Tryz.f48 mss_l6Copy [.val true [.sl .any 92 (.pair (.int .i64) (.pair (.int .i64) (.pair (.sl 9 .str) (.sl 155 (.pair .str (.pair .bool (.sl 3 (.int .i64)))))))) a0,.int .i64 a1,.sl .any 73 (.pair (.int .i64) (.pair (.pair (.int .i64) (.pair (.int .i64) (.pair (.int .i64) (.pair (.int .i64) (.pair (.int .i64) (.pair (.int .i64) (.int .i64))))))) (.pair .bool (.pair (.sl 3 (.int .i64)) (.sl 3 (.int .i64)))))) a2]]) = some ((g_As_l6Copy a0 a1 a2),.val true [.own .any true 92 (.pair (.int .i64) (.pair (.int .i64) (.pair (.sl 9 .str) (.sl 155 (.pair .str (.pair .bool (.sl 3 (.int .i64)))))))) (g_Vs_l2Copy_0 a0 a1),.int .i64 a1,.own .any true 73 (.pair (.int .i64) (.pair (.pair (.int .i64) (.pair (.int .i64) (.pair (.int .i64) (.pair (.int .i64) (.pair (.int .i64) (.pair (.int .i64) (.int .i64))))))) (.pair .bool (.pair (.sl 3 (.int .i64)) (.sl 3 (.int .i64)))))) (g_Vs_l6Copy_0 a0 a1 a2)],[]) := by kernel_rfl
theorem ss_l6Copy:Sound Tryz.prog 48 mss_l6Copy Fs_l6Copy := by
 refine fn_gen goods_l6Copy (by kernel_rfl) .std (fn := Tryz.f48) (c := (Tryz.f48.body.getD .skip)) (o := Os_l6Copy_1) (k := 1) (by kernel_rfl) (by kernel_rfl) (by kernel_rfl) (by kernel_rfl) (by decide) ks_l6Copy_1 ?_
 intro ys r outs h
 unfold Fs_l6Copy at h
 split at h
 ·exact (vs_l6Copy _ _ _).trans h
 ·cases h
noncomputable def EZ72:Env where
 tt := mkTI Tryz.prog
 fn := fun f => match f with
  | 29 => some (mss_FroOk,FSem.wk mss_FroOk Fs_FroOk)
  | 48 => some (mss_l6Copy,FSem.wk mss_l6Copy Fs_l6Copy)
  | 55 => some (mss_l1In,FSem.wk mss_l1In Fs_l1In)
  | 56 => some (mss_OpOk,FSem.wk mss_OpOk Fs_OpOk)
  | 57 => some (mss_l6Begin,FSem.wk mss_l6Begin Fs_l6Begin)
  | _ => none
 bxf := fun _ => none
 mv := []
 keep := fun _ => []
 keepB := fun _ => []
 keepX := fun _ => []
 keepXB := fun _ => []
theorem goodFZ72:∀ f ms F,EZ72.fn f = some (ms,F) → Sound Tryz.prog f ms F := fun f ms F h => by
 unfold EZ72 at h
 dsimp only at h
 split at h
 ·exact gF ss_FroOk h
 ·exact gF ss_l6Copy h
 ·exact gF ss_l1In h
 ·exact gF ss_OpOk h
 ·exact gF ss_l6Begin h
 ·cases h
theorem goodZ72:Good Tryz.prog EZ72 := ⟨rfl,goodFZ72,fun f ms F h => by cases h⟩
noncomputable def OZ72_0:Orc := fun _ _ => none
noncomputable def msZ72:List PM := [.rd,.own,.own]
noncomputable def lsZ72:List (Nat×Code) := loopsAll 0 (Tryz.f19.body.getD .skip)
theorem kZ72_0:OrcOk EZ72 OZ72_0 lsZ72 0 := orcOk_none
noncomputable def g_AZ72 (a0:tL1) (a1:Int) (a2:tL0) (a3:Int) (a4:Int) (a5:Int) (a6:Int) (a7:Int) (a8:Int) (a9:Int) (a10:Int):Bool := g_As_FroOk a0 a1 a2&&(!g_Vs_FroOk_0 a0 a1 a2 || g_As_l1In a3 (0:Int) (29:Int)&&(!g_Vs_l1In_0 a3 (0:Int) (29:Int) || g_As_OpOk a4 a5 a6 a7 a8 a9 a10&&(!g_Vs_OpOk_0 a4 a5 a6 a7 a8 a9 a10 || g_As_l6Copy a0 a1 a2&&(g_As_l6Begin (g_Vs_l2Copy_0 a0 a1) a1 (g_Vs_l6Copy_0 a0 a1 a2) a3 a4 a5 a6 a7 a8 a9 a10&&g_As_l6Copy (g_Vs_l6Begin_0 (g_Vs_l2Copy_0 a0 a1) a1 (g_Vs_l6Copy_0 a0 a1 a2) a3 a4 a5 a6 a7 a8 a9 a10) (g_Vs_l6Begin_1 (g_Vs_l2Copy_0 a0 a1) a1 (g_Vs_l6Copy_0 a0 a1 a2) a3 a4 a5 a6 a7 a8 a9 a10) (g_Vs_l6Begin_2 (g_Vs_l2Copy_0 a0 a1) a1 (g_Vs_l6Copy_0 a0 a1 a2) a3 a4 a5 a6 a7 a8 a9 a10)))))
noncomputable def g_VZ72_0 (a0:tL1) (a1:Int) (a2:tL0) (a3:Int) (a4:Int) (a5:Int) (a6:Int) (a7:Int) (a8:Int) (a9:Int) (a10:Int):tL1 := bif !g_Vs_FroOk_0 a0 a1 a2 then [] else bif !g_Vs_l1In_0 a3 (0:Int) (29:Int) then [] else bif !g_Vs_OpOk_0 a4 a5 a6 a7 a8 a9 a10 then [] else g_Vs_l2Copy_0 (g_Vs_l6Begin_0 (g_Vs_l2Copy_0 a0 a1) a1 (g_Vs_l6Copy_0 a0 a1 a2) a3 a4 a5 a6 a7 a8 a9 a10) (g_Vs_l6Begin_1 (g_Vs_l2Copy_0 a0 a1) a1 (g_Vs_l6Copy_0 a0 a1 a2) a3 a4 a5 a6 a7 a8 a9 a10)
noncomputable def g_VZ72_1 (a0:tL1) (a1:Int) (a2:tL0) (a3:Int) (a4:Int) (a5:Int) (a6:Int) (a7:Int) (a8:Int) (a9:Int) (a10:Int):Int := bif !g_Vs_FroOk_0 a0 a1 a2 then (0:Int) else bif !g_Vs_l1In_0 a3 (0:Int) (29:Int) then (0:Int) else bif !g_Vs_OpOk_0 a4 a5 a6 a7 a8 a9 a10 then (0:Int) else g_Vs_l6Begin_1 (g_Vs_l2Copy_0 a0 a1) a1 (g_Vs_l6Copy_0 a0 a1 a2) a3 a4 a5 a6 a7 a8 a9 a10
noncomputable def g_VZ72_2 (a0:tL1) (a1:Int) (a2:tL0) (a3:Int) (a4:Int) (a5:Int) (a6:Int) (a7:Int) (a8:Int) (a9:Int) (a10:Int):tL0 := bif !g_Vs_FroOk_0 a0 a1 a2 then [] else bif !g_Vs_l1In_0 a3 (0:Int) (29:Int) then [] else bif !g_Vs_OpOk_0 a4 a5 a6 a7 a8 a9 a10 then [] else g_Vs_l6Copy_0 (g_Vs_l6Begin_0 (g_Vs_l2Copy_0 a0 a1) a1 (g_Vs_l6Copy_0 a0 a1 a2) a3 a4 a5 a6 a7 a8 a9 a10) (g_Vs_l6Begin_1 (g_Vs_l2Copy_0 a0 a1) a1 (g_Vs_l6Copy_0 a0 a1 a2) a3 a4 a5 a6 a7 a8 a9 a10) (g_Vs_l6Begin_2 (g_Vs_l2Copy_0 a0 a1) a1 (g_Vs_l6Copy_0 a0 a1 a2) a3 a4 a5 a6 a7 a8 a9 a10)
noncomputable def g_VZ72_3 (a0:tL1) (a1:Int) (a2:tL0) (a3:Int) (a4:Int) (a5:Int) (a6:Int) (a7:Int) (a8:Int) (a9:Int) (a10:Int):tL2 := bif !g_Vs_FroOk_0 a0 a1 a2 then [] else bif !g_Vs_l1In_0 a3 (0:Int) (29:Int) then [] else bif !g_Vs_OpOk_0 a4 a5 a6 a7 a8 a9 a10 then [] else g_Vs_l6Begin_3 (g_Vs_l2Copy_0 a0 a1) a1 (g_Vs_l6Copy_0 a0 a1 a2) a3 a4 a5 a6 a7 a8 a9 a10
noncomputable def g_VZ72_4 (a0:tL1) (a1:Int) (a2:tL0) (a3:Int) (a4:Int) (a5:Int) (a6:Int) (a7:Int) (a8:Int) (a9:Int) (a10:Int):Bool := bif !g_Vs_FroOk_0 a0 a1 a2 then false else bif !g_Vs_l1In_0 a3 (0:Int) (29:Int) then false else bif !g_Vs_OpOk_0 a4 a5 a6 a7 a8 a9 a10 then false else g_Vs_l6Begin_4 (g_Vs_l2Copy_0 a0 a1) a1 (g_Vs_l6Copy_0 a0 a1 a2) a3 a4 a5 a6 a7 a8 a9 a10
noncomputable def FZ72:FSem := fun ys => match ys with
 | [.val true [.sl .any 92 (.pair (.int .i64) (.pair (.int .i64) (.pair (.sl 9 .str) (.sl 155 (.pair .str (.pair .bool (.sl 3 (.int .i64)))))))) a0,.int .i64 a1,.sl .any 73 (.pair (.int .i64) (.pair (.pair (.int .i64) (.pair (.int .i64) (.pair (.int .i64) (.pair (.int .i64) (.pair (.int .i64) (.pair (.int .i64) (.int .i64))))))) (.pair .bool (.pair (.sl 3 (.int .i64)) (.sl 3 (.int .i64)))))) a2],.val false [.int .i64 a3],.val true [.int .i64 a4,.int .i64 a5,.int .i64 a6,.int .i64 a7,.int .i64 a8,.int .i64 a9,.int .i64 a10]] => some ((g_AZ72 a0 a1 a2 a3 a4 a5 a6 a7 a8 a9 a10),.tup [(true,[.own .any true 92 (.pair (.int .i64) (.pair (.int .i64) (.pair (.sl 9 .str) (.sl 155 (.pair .str (.pair .bool (.sl 3 (.int .i64)))))))) (g_VZ72_0 a0 a1 a2 a3 a4 a5 a6 a7 a8 a9 a10),.int .i64 (g_VZ72_1 a0 a1 a2 a3 a4 a5 a6 a7 a8 a9 a10),.own .any true 73 (.pair (.int .i64) (.pair (.pair (.int .i64) (.pair (.int .i64) (.pair (.int .i64) (.pair (.int .i64) (.pair (.int .i64) (.pair (.int .i64) (.int .i64))))))) (.pair .bool (.pair (.sl 3 (.int .i64)) (.sl 3 (.int .i64)))))) (g_VZ72_2 a0 a1 a2 a3 a4 a5 a6 a7 a8 a9 a10)]),(false,[.own .any true 83 (.pair (.int .i64) (.pair (.int .i64) (.pair (.int .i64) (.pair (.int .i64) (.pair (.int .i64) (.pair (.int .i64) (.pair (.int .i64) (.pair (.int .i64) (.pair (.int .i64) (.pair (.int .i64) (.int .i64))))))))))) (g_VZ72_3 a0 a1 a2 a3 a4 a5 a6 a7 a8 a9 a10)]),(false,[.bool (g_VZ72_4 a0 a1 a2 a3 a4 a5 a6 a7 a8 a9 a10)])],[])
 | _ => none
theorem vZ72 (a0:tL1) (a1:Int) (a2:tL0) (a3:Int) (a4:Int) (a5:Int) (a6:Int) (a7:Int) (a8:Int) (a9:Int) (a10:Int):collapseH .std EZ72 OZ72_0 (execFn EZ72 Tryz.f19 msZ72 [.val true [.sl .any 92 (.pair (.int .i64) (.pair (.int .i64) (.pair (.sl 9 .str) (.sl 155 (.pair .str (.pair .bool (.sl 3 (.int .i64)))))))) a0,.int .i64 a1,.sl .any 73 (.pair (.int .i64) (.pair (.pair (.int .i64) (.pair (.int .i64) (.pair (.int .i64) (.pair (.int .i64) (.pair (.int .i64) (.pair (.int .i64) (.int .i64))))))) (.pair .bool (.pair (.sl 3 (.int .i64)) (.sl 3 (.int .i64)))))) a2],.val false [.int .i64 a3],.val true [.int .i64 a4,.int .i64 a5,.int .i64 a6,.int .i64 a7,.int .i64 a8,.int .i64 a9,.int .i64 a10]]) = some ((g_AZ72 a0 a1 a2 a3 a4 a5 a6 a7 a8 a9 a10),.tup [(true,[.own .any true 92 (.pair (.int .i64) (.pair (.int .i64) (.pair (.sl 9 .str) (.sl 155 (.pair .str (.pair .bool (.sl 3 (.int .i64)))))))) (g_VZ72_0 a0 a1 a2 a3 a4 a5 a6 a7 a8 a9 a10),.int .i64 (g_VZ72_1 a0 a1 a2 a3 a4 a5 a6 a7 a8 a9 a10),.own .any true 73 (.pair (.int .i64) (.pair (.pair (.int .i64) (.pair (.int .i64) (.pair (.int .i64) (.pair (.int .i64) (.pair (.int .i64) (.pair (.int .i64) (.int .i64))))))) (.pair .bool (.pair (.sl 3 (.int .i64)) (.sl 3 (.int .i64)))))) (g_VZ72_2 a0 a1 a2 a3 a4 a5 a6 a7 a8 a9 a10)]),(false,[.own .any true 83 (.pair (.int .i64) (.pair (.int .i64) (.pair (.int .i64) (.pair (.int .i64) (.pair (.int .i64) (.pair (.int .i64) (.pair (.int .i64) (.pair (.int .i64) (.pair (.int .i64) (.pair (.int .i64) (.int .i64))))))))))) (g_VZ72_3 a0 a1 a2 a3 a4 a5 a6 a7 a8 a9 a10)]),(false,[.bool (g_VZ72_4 a0 a1 a2 a3 a4 a5 a6 a7 a8 a9 a10)])],[]) := by kernel_rfl
theorem sZ72:Sound Tryz.prog 19 msZ72 FZ72 := by
 refine fn_gen goodZ72 (by kernel_rfl) .std (fn := Tryz.f19) (c := (Tryz.f19.body.getD .skip)) (o := OZ72_0) (k := 0) (by kernel_rfl) (by kernel_rfl) (by kernel_rfl) (by kernel_rfl) (by decide) kZ72_0 ?_
 intro ys r outs h
 unfold FZ72 at h
 split at h
 ·exact (vZ72 _ _ _ _ _ _ _ _ _ _ _).trans h
 ·cases h
noncomputable def Ew_eqIntS:Env where
 tt := mkTI Tryz.prog
 fn := fun _ => none
 bxf := fun _ => none
 mv := []
 keep := fun b => match b with
  | 0 => [(0,false),(1,false),(5,false)]
  | _ => []
 keepB := fun b => match b with
  | 0 => []
  | _ => []
 keepX := fun b => match b with
  | 0 => [(4,false)]
  | _ => []
 keepXB := fun b => match b with
  | 0 => []
  | _ => []
theorem goodFw_eqIntS:∀ f ms F,Ew_eqIntS.fn f = some (ms,F) → Sound Tryz.prog f ms F := fun f ms F h => by cases h
theorem goodw_eqIntS:Good Tryz.prog Ew_eqIntS := ⟨rfl,goodFw_eqIntS,fun f ms F h => by cases h⟩
noncomputable def Ow_eqIntS_0:Orc := fun _ _ => none
noncomputable def msw_eqIntS:List PM := [.rd,.rd]
noncomputable def lsw_eqIntS:List (Nat×Code) := loopsAll 0 (Tryz.f142.body.getD .skip)
noncomputable def cw_eqIntS_0:Code := (loopOf 0 (Tryz.f142.body.getD .skip)).getD .skip
theorem lseqw_eqIntS:lsw_eqIntS = [(0,cw_eqIntS_0)] := by kernel_rfl
theorem mw_eqIntS_0:∀ p,p ∈ lsw_eqIntS → p.1 = 0 → p.2 = cw_eqIntS_0 := by
 intro p hp
 rw [lseqw_eqIntS] at hp
 simp only [List.mem_cons,List.not_mem_nil,or_false] at hp
 subst hp; simp
theorem kw_eqIntS_0:OrcOk Ew_eqIntS Ow_eqIntS_0 lsw_eqIntS 0 := orcOk_none
noncomputable def hw_eqIntS_0 (y0:List Int) (y1:List Int) (y2:Int):List (Pl×LV) := [(.T 0,.t (.val false [.sl .any 3 (.int .i64) y0])),(.T 1,.t (.val false [.sl .any 3 (.int .i64) y1])),(.T 5,.t (.val false [.int .i64 y2]))]
noncomputable def g_Sw_eqIntS_0 (y0:List Int) (y1:List Int):(Int) → RT (Int) ((Bool) ⊕ (Unit))
 | y2 => .br (true) (.br (decide (y2 < (y0.length:Int))) (.br (decide (0 ≤ y2 ∧ y2 < (y0.length:Int))) (.br (decide (0 ≤ y2 ∧ y2 < (y1.length:Int))) (.br (true) (.br (at_ (.int .i64) y0 (Int.toNat y2) != at_ (.int .i64) y1 (Int.toNat y2)) (.out (.inl false)) (.br (true) (.go (IntKind.i64.wrap (y2 + 1))) .bad)) .bad) .bad) .bad) (.out (.inr (())))) .bad
noncomputable def g_Lw_eqIntS_0 (y0:List Int) (y1:List Int) (x:Int):Option ((Bool) ⊕ (Unit)) := loopO (g_Sw_eqIntS_0 y0 y1) x
noncomputable def xw_eqIntS_0 (y0:List Int) (y1:List Int):((Bool) ⊕ (Unit)) → Ex×List (Pl×LV) := fun
 | .inl r => (.ret,[(.T 4,.t (.val false [.bool r]))])
 | .inr (r) => (.exit 0,[(.T 4,.t (.val false [.undef]))])
noncomputable def Ow_eqIntS_1:Orc := fun b h => match b,h with
 | 0,[(.T 0,.t (.val false [.sl .any 3 (.int .i64) y0])),(.T 1,.t (.val false [.sl .any 3 (.int .i64) y1])),(.T 5,.t (.val false [.int .i64 y2]))] => some (okO (g_Lw_eqIntS_0 y0 y1 y2),(.br (isL (valO (g_Lw_eqIntS_0 y0 y1 y2))) (.leaf .ret [(.T 4,.t (.val false [.bool (getL (valO (g_Lw_eqIntS_0 y0 y1 y2)))]))]) (.leaf (.exit 0) [(.T 4,.t (.val false [.undef]))])))
 | b,h => Ow_eqIntS_0 b h
theorem bw_eqIntS_0 (y0:List Int) (y1:List Int) (y2:Int):Tr.bt Ew_eqIntS Ow_eqIntS_0 (exec Ew_eqIntS 0 cw_eqIntS_0 (St.of (hw_eqIntS_0 y0 y1 y2)) (leafRd Ew_eqIntS 0)) = (g_Sw_eqIntS_0 y0 y1 y2).bt (fun (y2:Int) => (hw_eqIntS_0 y0 y1 y2)) (xw_eqIntS_0 y0 y1) := by kernel_rfl
theorem kw_eqIntS_1:OrcOk Ew_eqIntS Ow_eqIntS_1 lsw_eqIntS 1 := orc_add kw_eqIntS_0 (fun n p hp h ex h' ho => by
 obtain ⟨b,c⟩ := p
 obtain ⟨xt,h1,h2⟩ := ho
 have h1:Ow_eqIntS_1 b h = some (true,xt) := h1
 unfold Ow_eqIntS_1 at h1
 split at h1
 ·injection h1 with h1
  injection h1 with e1 e2
  subst e2
  have hc:c = cw_eqIntS_0 := mw_eqIntS_0 _ hp rfl
  subst hc
  right
  rename_i y0 y1 y2
  have key := LT_step kw_eqIntS_0 hp (fun q hq => loopsAll_in _ _ _ _ hp hq) (fun (y2:Int) => (hw_eqIntS_0 y0 y1 y2)) (xw_eqIntS_0 y0 y1) (g_Sw_eqIntS_0 y0 y1) (fun x => by first | exact bw_eqIntS_0 y0 y1 x) n (x := y2) (okO_some e1)
  have hx:∀ r,XT.sel (.br (isL r) (.leaf .ret [(.T 4,.t (.val false [.bool (getL r)]))]) (.leaf (.exit 0) [(.T 4,.t (.val false [.undef]))])) = xw_eqIntS_0 y0 y1 r := fun r => by first | rfl | rcases r with r | r <;> rfl | rcases r with r | r | r <;> rfl | rcases r with r | r | r | r <;> rfl
  have h3 := (hx (valO (g_Lw_eqIntS_0 y0 y1 y2))).symm.trans h2
  have e3 := congrArg Prod.fst h3
  have e4 := congrArg Prod.snd h3
  simp only at e3 e4
  rw [← e3,← e4]
  exact key
 ·exact .inl ⟨xt,h1,h2⟩)
noncomputable def g_Aw_eqIntS (a0:List Int) (a1:List Int):Bool := (a0.length:Int) != (a1.length:Int) || okO (g_Lw_eqIntS_0 a0 a1 (0:Int))
noncomputable def g_Vw_eqIntS_0 (a0:List Int) (a1:List Int):Bool := bif (a0.length:Int) != (a1.length:Int) then false else bif isL (valO (g_Lw_eqIntS_0 a0 a1 (0:Int))) then getL (valO (g_Lw_eqIntS_0 a0 a1 (0:Int))) else true
noncomputable def Fw_eqIntS:FSem := fun ys => match ys with
 | [.val false [.sl .any 3 (.int .i64) a0],.val false [.sl .any 3 (.int .i64) a1]] => some ((g_Aw_eqIntS a0 a1),.val false [.bool (g_Vw_eqIntS_0 a0 a1)],[])
 | _ => none
theorem vw_eqIntS (a0:List Int) (a1:List Int):collapseH .std Ew_eqIntS Ow_eqIntS_1 (execFn Ew_eqIntS Tryz.f142 msw_eqIntS [.val false [.sl .any 3 (.int .i64) a0],.val false [.sl .any 3 (.int .i64) a1]]) = some ((g_Aw_eqIntS a0 a1),.val false [.bool (g_Vw_eqIntS_0 a0 a1)],[]) := by kernel_rfl
theorem sw_eqIntS:Sound Tryz.prog 142 msw_eqIntS Fw_eqIntS := by
 refine fn_gen goodw_eqIntS (by kernel_rfl) .std (fn := Tryz.f142) (c := (Tryz.f142.body.getD .skip)) (o := Ow_eqIntS_1) (k := 1) (by kernel_rfl) (by kernel_rfl) (by kernel_rfl) (by kernel_rfl) (by decide) kw_eqIntS_1 ?_
 intro ys r outs h
 unfold Fw_eqIntS at h
 split at h
 ·exact (vw_eqIntS _ _).trans h
 ·cases h
noncomputable def Ew_eqOpOp:Env where
 tt := mkTI Tryz.prog
 fn := fun _ => none
 bxf := fun _ => none
 mv := []
 keep := fun _ => []
 keepB := fun _ => []
 keepX := fun _ => []
 keepXB := fun _ => []
theorem goodFw_eqOpOp:∀ f ms F,Ew_eqOpOp.fn f = some (ms,F) → Sound Tryz.prog f ms F := fun f ms F h => by cases h
theorem goodw_eqOpOp:Good Tryz.prog Ew_eqOpOp := ⟨rfl,goodFw_eqOpOp,fun f ms F h => by cases h⟩
noncomputable def Ow_eqOpOp_0:Orc := fun _ _ => none
noncomputable def msw_eqOpOp:List PM := [.own,.own]
noncomputable def lsw_eqOpOp:List (Nat×Code) := loopsAll 0 (Tryz.f102.body.getD .skip)
theorem kw_eqOpOp_0:OrcOk Ew_eqOpOp Ow_eqOpOp_0 lsw_eqOpOp 0 := orcOk_none
noncomputable def g_Aw_eqOpOp (a0:Int) (a1:Int) (a2:Int) (a3:Int) (a4:Int) (a5:Int) (a6:Int) (a7:Int) (a8:Int) (a9:Int) (a10:Int) (a11:Int) (a12:Int) (a13:Int):Bool := a0 != a7 || (a1 != a8 || (a2 != a9 || (a3 != a10 || (a4 != a11 || (a5 != a12 || true)))))
noncomputable def g_Vw_eqOpOp_0 (a0:Int) (a1:Int) (a2:Int) (a3:Int) (a4:Int) (a5:Int) (a6:Int) (a7:Int) (a8:Int) (a9:Int) (a10:Int) (a11:Int) (a12:Int) (a13:Int):Bool := bif a0 != a7 then false else bif a1 != a8 then false else bif a2 != a9 then false else bif a3 != a10 then false else bif a4 != a11 then false else bif a5 != a12 then false else bif a6 != a13 then false else true
noncomputable def Fw_eqOpOp:FSem := fun ys => match ys with
 | [.val true [.int .i64 a0,.int .i64 a1,.int .i64 a2,.int .i64 a3,.int .i64 a4,.int .i64 a5,.int .i64 a6],.val true [.int .i64 a7,.int .i64 a8,.int .i64 a9,.int .i64 a10,.int .i64 a11,.int .i64 a12,.int .i64 a13]] => some ((g_Aw_eqOpOp a0 a1 a2 a3 a4 a5 a6 a7 a8 a9 a10 a11 a12 a13),.val false [.bool (g_Vw_eqOpOp_0 a0 a1 a2 a3 a4 a5 a6 a7 a8 a9 a10 a11 a12 a13)],[])
 | _ => none
theorem vw_eqOpOp (a0:Int) (a1:Int) (a2:Int) (a3:Int) (a4:Int) (a5:Int) (a6:Int) (a7:Int) (a8:Int) (a9:Int) (a10:Int) (a11:Int) (a12:Int) (a13:Int):collapseH .std Ew_eqOpOp Ow_eqOpOp_0 (execFn Ew_eqOpOp Tryz.f102 msw_eqOpOp [.val true [.int .i64 a0,.int .i64 a1,.int .i64 a2,.int .i64 a3,.int .i64 a4,.int .i64 a5,.int .i64 a6],.val true [.int .i64 a7,.int .i64 a8,.int .i64 a9,.int .i64 a10,.int .i64 a11,.int .i64 a12,.int .i64 a13]]) = some ((g_Aw_eqOpOp a0 a1 a2 a3 a4 a5 a6 a7 a8 a9 a10 a11 a12 a13),.val false [.bool (g_Vw_eqOpOp_0 a0 a1 a2 a3 a4 a5 a6 a7 a8 a9 a10 a11 a12 a13)],[]) := by kernel_rfl
theorem sw_eqOpOp:Sound Tryz.prog 102 msw_eqOpOp Fw_eqOpOp := by
 refine fn_gen goodw_eqOpOp (by kernel_rfl) .std (fn := Tryz.f102) (c := (Tryz.f102.body.getD .skip)) (o := Ow_eqOpOp_0) (k := 0) (by kernel_rfl) (by kernel_rfl) (by kernel_rfl) (by kernel_rfl) (by decide) kw_eqOpOp_0 ?_
 intro ys r outs h
 unfold Fw_eqOpOp at h
 split at h
 ·exact (vw_eqOpOp _ _ _ _ _ _ _ _ _ _ _ _ _ _).trans h
 ·cases h
noncomputable def Ew_eqFroTx:Env where
 tt := mkTI Tryz.prog
 fn := fun f => match f with
  | 102 => some (msw_eqOpOp,FSem.wk msw_eqOpOp Fw_eqOpOp)
  | 142 => some (msw_eqIntS,FSem.wk msw_eqIntS Fw_eqIntS)
  | _ => none
 bxf := fun _ => none
 mv := []
 keep := fun _ => []
 keepB := fun _ => []
 keepX := fun _ => []
 keepXB := fun _ => []
theorem goodFw_eqFroTx:∀ f ms F,Ew_eqFroTx.fn f = some (ms,F) → Sound Tryz.prog f ms F := fun f ms F h => by
 unfold Ew_eqFroTx at h
 dsimp only at h
 split at h
 ·exact gF sw_eqOpOp h
 ·exact gF sw_eqIntS h
 ·cases h
theorem goodw_eqFroTx:Good Tryz.prog Ew_eqFroTx := ⟨rfl,goodFw_eqFroTx,fun f ms F h => by cases h⟩
noncomputable def Ow_eqFroTx_0:Orc := fun _ _ => none
noncomputable def msw_eqFroTx:List PM := [.rd,.rd]
noncomputable def lsw_eqFroTx:List (Nat×Code) := loopsAll 0 (Tryz.f104.body.getD .skip)
theorem kw_eqFroTx_0:OrcOk Ew_eqFroTx Ow_eqFroTx_0 lsw_eqFroTx 0 := orcOk_none
noncomputable def g_Aw_eqFroTx (a0:Int) (a1:Int) (a2:Int) (a3:Int) (a4:Int) (a5:Int) (a6:Int) (a7:Int) (a8:Bool) (a9:List Int) (a10:List Int) (a11:Int) (a12:Int) (a13:Int) (a14:Int) (a15:Int) (a16:Int) (a17:Int) (a18:Int) (a19:Bool) (a20:List Int) (a21:List Int):Bool := a0 != a11 || g_Aw_eqOpOp a1 a2 a3 a4 a5 a6 a7 a12 a13 a14 a15 a16 a17 a18&&(!g_Vw_eqOpOp_0 a1 a2 a3 a4 a5 a6 a7 a12 a13 a14 a15 a16 a17 a18 || (!a8 == a19 || g_Aw_eqIntS a9 a20&&(!g_Vw_eqIntS_0 a9 a20 || g_Aw_eqIntS a10 a21)))
noncomputable def g_Vw_eqFroTx_0 (a0:Int) (a1:Int) (a2:Int) (a3:Int) (a4:Int) (a5:Int) (a6:Int) (a7:Int) (a8:Bool) (a9:List Int) (a10:List Int) (a11:Int) (a12:Int) (a13:Int) (a14:Int) (a15:Int) (a16:Int) (a17:Int) (a18:Int) (a19:Bool) (a20:List Int) (a21:List Int):Bool := bif a0 != a11 then false else bif !g_Vw_eqOpOp_0 a1 a2 a3 a4 a5 a6 a7 a12 a13 a14 a15 a16 a17 a18 then false else bif !a8 == a19 then false else bif !g_Vw_eqIntS_0 a9 a20 then false else bif !g_Vw_eqIntS_0 a10 a21 then false else true
noncomputable def Fw_eqFroTx:FSem := fun ys => match ys with
 | [.val true [.int .i64 a0,.int .i64 a1,.int .i64 a2,.int .i64 a3,.int .i64 a4,.int .i64 a5,.int .i64 a6,.int .i64 a7,.bool a8,.sl .any 3 (.int .i64) a9,.sl .any 3 (.int .i64) a10],.val true [.int .i64 a11,.int .i64 a12,.int .i64 a13,.int .i64 a14,.int .i64 a15,.int .i64 a16,.int .i64 a17,.int .i64 a18,.bool a19,.sl .any 3 (.int .i64) a20,.sl .any 3 (.int .i64) a21]] => some ((g_Aw_eqFroTx a0 a1 a2 a3 a4 a5 a6 a7 a8 a9 a10 a11 a12 a13 a14 a15 a16 a17 a18 a19 a20 a21),.val false [.bool (g_Vw_eqFroTx_0 a0 a1 a2 a3 a4 a5 a6 a7 a8 a9 a10 a11 a12 a13 a14 a15 a16 a17 a18 a19 a20 a21)],[])
 | _ => none
theorem vw_eqFroTx (a0:Int) (a1:Int) (a2:Int) (a3:Int) (a4:Int) (a5:Int) (a6:Int) (a7:Int) (a8:Bool) (a9:List Int) (a10:List Int) (a11:Int) (a12:Int) (a13:Int) (a14:Int) (a15:Int) (a16:Int) (a17:Int) (a18:Int) (a19:Bool) (a20:List Int) (a21:List Int):collapseH .std Ew_eqFroTx Ow_eqFroTx_0 (execFn Ew_eqFroTx Tryz.f104 msw_eqFroTx [.val true [.int .i64 a0,.int .i64 a1,.int .i64 a2,.int .i64 a3,.int .i64 a4,.int .i64 a5,.int .i64 a6,.int .i64 a7,.bool a8,.sl .any 3 (.int .i64) a9,.sl .any 3 (.int .i64) a10],.val true [.int .i64 a11,.int .i64 a12,.int .i64 a13,.int .i64 a14,.int .i64 a15,.int .i64 a16,.int .i64 a17,.int .i64 a18,.bool a19,.sl .any 3 (.int .i64) a20,.sl .any 3 (.int .i64) a21]]) = some ((g_Aw_eqFroTx a0 a1 a2 a3 a4 a5 a6 a7 a8 a9 a10 a11 a12 a13 a14 a15 a16 a17 a18 a19 a20 a21),.val false [.bool (g_Vw_eqFroTx_0 a0 a1 a2 a3 a4 a5 a6 a7 a8 a9 a10 a11 a12 a13 a14 a15 a16 a17 a18 a19 a20 a21)],[]) := by kernel_rfl
theorem sw_eqFroTx:Sound Tryz.prog 104 msw_eqFroTx Fw_eqFroTx := by
 refine fn_gen goodw_eqFroTx (by kernel_rfl) .std (fn := Tryz.f104) (c := (Tryz.f104.body.getD .skip)) (o := Ow_eqFroTx_0) (k := 0) (by kernel_rfl) (by kernel_rfl) (by kernel_rfl) (by kernel_rfl) (by decide) kw_eqFroTx_0 ?_
 intro ys r outs h
 unfold Fw_eqFroTx at h
 split at h
 ·exact (vw_eqFroTx _ _ _ _ _ _ _ _ _ _ _ _ _ _ _ _ _ _ _ _ _ _).trans h
 ·cases h
noncomputable def EZ73:Env where
 tt := mkTI Tryz.prog
 fn := fun f => match f with
  | 104 => some (msw_eqFroTx,FSem.wk msw_eqFroTx Fw_eqFroTx)
  | _ => none
 bxf := fun _ => none
 mv := []
 keep := fun b => match b with
  | 0 => [(0,false),(1,false),(5,false)]
  | _ => []
 keepB := fun b => match b with
  | 0 => []
  | _ => []
 keepX := fun b => match b with
  | 0 => [(4,false)]
  | _ => []
 keepXB := fun b => match b with
  | 0 => []
  | _ => []
theorem goodFZ73:∀ f ms F,EZ73.fn f = some (ms,F) → Sound Tryz.prog f ms F := fun f ms F h => by
 unfold EZ73 at h
 dsimp only at h
 split at h
 ·exact gF sw_eqFroTx h
 ·cases h
theorem goodZ73:Good Tryz.prog EZ73 := ⟨rfl,goodFZ73,fun f ms F h => by cases h⟩
noncomputable def OZ73_0:Orc := fun _ _ => none
noncomputable def msZ73:List PM := [.rd,.rd]
noncomputable def lsZ73:List (Nat×Code) := loopsAll 0 (Tryz.f43.body.getD .skip)
noncomputable def cZ73_0:Code := (loopOf 0 (Tryz.f43.body.getD .skip)).getD .skip
theorem lseqZ73:lsZ73 = [(0,cZ73_0)] := by kernel_rfl
theorem mZ73_0:∀ p,p ∈ lsZ73 → p.1 = 0 → p.2 = cZ73_0 := by
 intro p hp
 rw [lseqZ73] at hp
 simp only [List.mem_cons,List.not_mem_nil,or_false] at hp
 subst hp; simp
theorem kZ73_0:OrcOk EZ73 OZ73_0 lsZ73 0 := orcOk_none
noncomputable def hZ73_0 (y0:tL0) (y1:tL0) (y2:Int):List (Pl×LV) := [(.T 0,.t (.val false [.sl .any 73 (.pair (.int .i64) (.pair (.pair (.int .i64) (.pair (.int .i64) (.pair (.int .i64) (.pair (.int .i64) (.pair (.int .i64) (.pair (.int .i64) (.int .i64))))))) (.pair .bool (.pair (.sl 3 (.int .i64)) (.sl 3 (.int .i64)))))) y0])),(.T 1,.t (.val false [.sl .any 73 (.pair (.int .i64) (.pair (.pair (.int .i64) (.pair (.int .i64) (.pair (.int .i64) (.pair (.int .i64) (.pair (.int .i64) (.pair (.int .i64) (.int .i64))))))) (.pair .bool (.pair (.sl 3 (.int .i64)) (.sl 3 (.int .i64)))))) y1])),(.T 5,.t (.val false [.int .i64 y2]))]
noncomputable def g_SZ73_0 (y0:tL0) (y1:tL0):(Int) → RT (Int) ((Bool) ⊕ (Unit))
 | y2 => .br (true) (.br (decide (y2 < (y0.length:Int))) (.br (decide (0 ≤ y2 ∧ y2 < (y0.length:Int))) (.br (decide (0 ≤ y2 ∧ y2 < (y1.length:Int))) (.br (g_Aw_eqFroTx (at_ yT0 y0 (Int.toNat y2)).1 (at_ yT0 y0 (Int.toNat y2)).2.1.1 (at_ yT0 y0 (Int.toNat y2)).2.1.2.1 (at_ yT0 y0 (Int.toNat y2)).2.1.2.2.1 (at_ yT0 y0 (Int.toNat y2)).2.1.2.2.2.1 (at_ yT0 y0 (Int.toNat y2)).2.1.2.2.2.2.1 (at_ yT0 y0 (Int.toNat y2)).2.1.2.2.2.2.2.1 (at_ yT0 y0 (Int.toNat y2)).2.1.2.2.2.2.2.2 (at_ yT0 y0 (Int.toNat y2)).2.2.1 (at_ yT0 y0 (Int.toNat y2)).2.2.2.1 (at_ yT0 y0 (Int.toNat y2)).2.2.2.2 (at_ yT0 y1 (Int.toNat y2)).1 (at_ yT0 y1 (Int.toNat y2)).2.1.1 (at_ yT0 y1 (Int.toNat y2)).2.1.2.1 (at_ yT0 y1 (Int.toNat y2)).2.1.2.2.1 (at_ yT0 y1 (Int.toNat y2)).2.1.2.2.2.1 (at_ yT0 y1 (Int.toNat y2)).2.1.2.2.2.2.1 (at_ yT0 y1 (Int.toNat y2)).2.1.2.2.2.2.2.1 (at_ yT0 y1 (Int.toNat y2)).2.1.2.2.2.2.2.2 (at_ yT0 y1 (Int.toNat y2)).2.2.1 (at_ yT0 y1 (Int.toNat y2)).2.2.2.1 (at_ yT0 y1 (Int.toNat y2)).2.2.2.2) (.br (!g_Vw_eqFroTx_0 (at_ yT0 y0 (Int.toNat y2)).1 (at_ yT0 y0 (Int.toNat y2)).2.1.1 (at_ yT0 y0 (Int.toNat y2)).2.1.2.1 (at_ yT0 y0 (Int.toNat y2)).2.1.2.2.1 (at_ yT0 y0 (Int.toNat y2)).2.1.2.2.2.1 (at_ yT0 y0 (Int.toNat y2)).2.1.2.2.2.2.1 (at_ yT0 y0 (Int.toNat y2)).2.1.2.2.2.2.2.1 (at_ yT0 y0 (Int.toNat y2)).2.1.2.2.2.2.2.2 (at_ yT0 y0 (Int.toNat y2)).2.2.1 (at_ yT0 y0 (Int.toNat y2)).2.2.2.1 (at_ yT0 y0 (Int.toNat y2)).2.2.2.2 (at_ yT0 y1 (Int.toNat y2)).1 (at_ yT0 y1 (Int.toNat y2)).2.1.1 (at_ yT0 y1 (Int.toNat y2)).2.1.2.1 (at_ yT0 y1 (Int.toNat y2)).2.1.2.2.1 (at_ yT0 y1 (Int.toNat y2)).2.1.2.2.2.1 (at_ yT0 y1 (Int.toNat y2)).2.1.2.2.2.2.1 (at_ yT0 y1 (Int.toNat y2)).2.1.2.2.2.2.2.1 (at_ yT0 y1 (Int.toNat y2)).2.1.2.2.2.2.2.2 (at_ yT0 y1 (Int.toNat y2)).2.2.1 (at_ yT0 y1 (Int.toNat y2)).2.2.2.1 (at_ yT0 y1 (Int.toNat y2)).2.2.2.2) (.out (.inl false)) (.br (true) (.go (IntKind.i64.wrap (y2 + 1))) .bad)) .bad) .bad) .bad) (.out (.inr (())))) .bad
noncomputable def g_LZ73_0 (y0:tL0) (y1:tL0) (x:Int):Option ((Bool) ⊕ (Unit)) := loopO (g_SZ73_0 y0 y1) x
noncomputable def xZ73_0 (y0:tL0) (y1:tL0):((Bool) ⊕ (Unit)) → Ex×List (Pl×LV) := fun
 | .inl r => (.ret,[(.T 4,.t (.val false [.bool r]))])
 | .inr (r) => (.exit 0,[(.T 4,.t (.val false [.undef]))])
noncomputable def OZ73_1:Orc := fun b h => match b,h with
 | 0,[(.T 0,.t (.val false [.sl .any 73 (.pair (.int .i64) (.pair (.pair (.int .i64) (.pair (.int .i64) (.pair (.int .i64) (.pair (.int .i64) (.pair (.int .i64) (.pair (.int .i64) (.int .i64))))))) (.pair .bool (.pair (.sl 3 (.int .i64)) (.sl 3 (.int .i64)))))) y0])),(.T 1,.t (.val false [.sl .any 73 (.pair (.int .i64) (.pair (.pair (.int .i64) (.pair (.int .i64) (.pair (.int .i64) (.pair (.int .i64) (.pair (.int .i64) (.pair (.int .i64) (.int .i64))))))) (.pair .bool (.pair (.sl 3 (.int .i64)) (.sl 3 (.int .i64)))))) y1])),(.T 5,.t (.val false [.int .i64 y2]))] => some (okO (g_LZ73_0 y0 y1 y2),(.br (isL (valO (g_LZ73_0 y0 y1 y2))) (.leaf .ret [(.T 4,.t (.val false [.bool (getL (valO (g_LZ73_0 y0 y1 y2)))]))]) (.leaf (.exit 0) [(.T 4,.t (.val false [.undef]))])))
 | b,h => OZ73_0 b h
theorem bZ73_0 (y0:tL0) (y1:tL0) (y2:Int):Tr.bt EZ73 OZ73_0 (exec EZ73 0 cZ73_0 (St.of (hZ73_0 y0 y1 y2)) (leafRd EZ73 0)) = (g_SZ73_0 y0 y1 y2).bt (fun (y2:Int) => (hZ73_0 y0 y1 y2)) (xZ73_0 y0 y1) := by kernel_rfl
theorem kZ73_1:OrcOk EZ73 OZ73_1 lsZ73 1 := orc_add kZ73_0 (fun n p hp h ex h' ho => by
 obtain ⟨b,c⟩ := p
 obtain ⟨xt,h1,h2⟩ := ho
 have h1:OZ73_1 b h = some (true,xt) := h1
 unfold OZ73_1 at h1
 split at h1
 ·injection h1 with h1
  injection h1 with e1 e2
  subst e2
  have hc:c = cZ73_0 := mZ73_0 _ hp rfl
  subst hc
  right
  rename_i y0 y1 y2
  have key := LT_step kZ73_0 hp (fun q hq => loopsAll_in _ _ _ _ hp hq) (fun (y2:Int) => (hZ73_0 y0 y1 y2)) (xZ73_0 y0 y1) (g_SZ73_0 y0 y1) (fun x => by first | exact bZ73_0 y0 y1 x) n (x := y2) (okO_some e1)
  have hx:∀ r,XT.sel (.br (isL r) (.leaf .ret [(.T 4,.t (.val false [.bool (getL r)]))]) (.leaf (.exit 0) [(.T 4,.t (.val false [.undef]))])) = xZ73_0 y0 y1 r := fun r => by first | rfl | rcases r with r | r <;> rfl | rcases r with r | r | r <;> rfl | rcases r with r | r | r | r <;> rfl
  have h3 := (hx (valO (g_LZ73_0 y0 y1 y2))).symm.trans h2
  have e3 := congrArg Prod.fst h3
  have e4 := congrArg Prod.snd h3
  simp only at e3 e4
  rw [← e3,← e4]
  exact key
 ·exact .inl ⟨xt,h1,h2⟩)
noncomputable def g_AZ73 (a0:tL0) (a1:tL0):Bool := (a0.length:Int) != (a1.length:Int) || okO (g_LZ73_0 a0 a1 (0:Int))
noncomputable def g_VZ73_0 (a0:tL0) (a1:tL0):Bool := bif (a0.length:Int) != (a1.length:Int) then false else bif isL (valO (g_LZ73_0 a0 a1 (0:Int))) then getL (valO (g_LZ73_0 a0 a1 (0:Int))) else true
noncomputable def FZ73:FSem := fun ys => match ys with
 | [.val false [.sl .any 73 (.pair (.int .i64) (.pair (.pair (.int .i64) (.pair (.int .i64) (.pair (.int .i64) (.pair (.int .i64) (.pair (.int .i64) (.pair (.int .i64) (.int .i64))))))) (.pair .bool (.pair (.sl 3 (.int .i64)) (.sl 3 (.int .i64)))))) a0],.val false [.sl .any 73 (.pair (.int .i64) (.pair (.pair (.int .i64) (.pair (.int .i64) (.pair (.int .i64) (.pair (.int .i64) (.pair (.int .i64) (.pair (.int .i64) (.int .i64))))))) (.pair .bool (.pair (.sl 3 (.int .i64)) (.sl 3 (.int .i64)))))) a1]] => some ((g_AZ73 a0 a1),.val false [.bool (g_VZ73_0 a0 a1)],[])
 | _ => none
theorem vZ73 (a0:tL0) (a1:tL0):collapseH .std EZ73 OZ73_1 (execFn EZ73 Tryz.f43 msZ73 [.val false [.sl .any 73 (.pair (.int .i64) (.pair (.pair (.int .i64) (.pair (.int .i64) (.pair (.int .i64) (.pair (.int .i64) (.pair (.int .i64) (.pair (.int .i64) (.int .i64))))))) (.pair .bool (.pair (.sl 3 (.int .i64)) (.sl 3 (.int .i64)))))) a0],.val false [.sl .any 73 (.pair (.int .i64) (.pair (.pair (.int .i64) (.pair (.int .i64) (.pair (.int .i64) (.pair (.int .i64) (.pair (.int .i64) (.pair (.int .i64) (.int .i64))))))) (.pair .bool (.pair (.sl 3 (.int .i64)) (.sl 3 (.int .i64)))))) a1]]) = some ((g_AZ73 a0 a1),.val false [.bool (g_VZ73_0 a0 a1)],[]) := by kernel_rfl
theorem sZ73:Sound Tryz.prog 43 msZ73 FZ73 := by
 refine fn_gen goodZ73 (by kernel_rfl) .std (fn := Tryz.f43) (c := (Tryz.f43.body.getD .skip)) (o := OZ73_1) (k := 1) (by kernel_rfl) (by kernel_rfl) (by kernel_rfl) (by kernel_rfl) (by decide) kZ73_1 ?_
 intro ys r outs h
 unfold FZ73 at h
 split at h
 ·exact (vZ73 _ _).trans h
 ·cases h
noncomputable def EZ42:Env where
 tt := mkTI Tryz.prog
 fn := fun f => match f with
  | 142 => some (msw_eqIntS,FSem.wk msw_eqIntS Fw_eqIntS)
  | _ => none
 bxf := fun _ => none
 mv := []
 keep := fun _ => []
 keepB := fun _ => []
 keepX := fun _ => []
 keepXB := fun _ => []
theorem goodFZ42:∀ f ms F,EZ42.fn f = some (ms,F) → Sound Tryz.prog f ms F := fun f ms F h => by
 unfold EZ42 at h
 dsimp only at h
 split at h
 ·exact gF sw_eqIntS h
 ·cases h
theorem goodZ42:Good Tryz.prog EZ42 := ⟨rfl,goodFZ42,fun f ms F h => by cases h⟩
noncomputable def OZ42_0:Orc := fun _ _ => none
noncomputable def msZ42:List PM := [.rd,.rd]
noncomputable def lsZ42:List (Nat×Code) := loopsAll 0 (Tryz.f180.body.getD .skip)
theorem kZ42_0:OrcOk EZ42 OZ42_0 lsZ42 0 := orcOk_none
noncomputable def g_AZ42 (a0:ByteArray) (a1:Bool) (a2:List Int) (a3:ByteArray) (a4:Bool) (a5:List Int):Bool := !ByteArray.toList a0 == ByteArray.toList a3 || (!a1 == a4 || g_Aw_eqIntS a2 a5)
noncomputable def g_VZ42_0 (a0:ByteArray) (a1:Bool) (a2:List Int) (a3:ByteArray) (a4:Bool) (a5:List Int):Bool := bif !ByteArray.toList a0 == ByteArray.toList a3 then false else bif !a1 == a4 then false else bif !g_Vw_eqIntS_0 a2 a5 then false else true
noncomputable def FZ42:FSem := fun ys => match ys with
 | [.val true [.str a0,.bool a1,.sl .any 3 (.int .i64) a2],.val true [.str a3,.bool a4,.sl .any 3 (.int .i64) a5]] => some ((g_AZ42 a0 a1 a2 a3 a4 a5),.val false [.bool (g_VZ42_0 a0 a1 a2 a3 a4 a5)],[])
 | _ => none
theorem vZ42 (a0:ByteArray) (a1:Bool) (a2:List Int) (a3:ByteArray) (a4:Bool) (a5:List Int):collapseH .std EZ42 OZ42_0 (execFn EZ42 Tryz.f180 msZ42 [.val true [.str a0,.bool a1,.sl .any 3 (.int .i64) a2],.val true [.str a3,.bool a4,.sl .any 3 (.int .i64) a5]]) = some ((g_AZ42 a0 a1 a2 a3 a4 a5),.val false [.bool (g_VZ42_0 a0 a1 a2 a3 a4 a5)],[]) := by kernel_rfl
theorem sZ42:Sound Tryz.prog 180 msZ42 FZ42 := by
 refine fn_gen goodZ42 (by kernel_rfl) .std (fn := Tryz.f180) (c := (Tryz.f180.body.getD .skip)) (o := OZ42_0) (k := 0) (by kernel_rfl) (by kernel_rfl) (by kernel_rfl) (by kernel_rfl) (by decide) kZ42_0 ?_
 intro ys r outs h
 unfold FZ42 at h
 split at h
 ·exact (vZ42 _ _ _ _ _ _).trans h
 ·cases h
noncomputable def EZ31:Env where
 tt := mkTI Tryz.prog
 fn := fun f => match f with
  | 180 => some (msZ42,FSem.wk msZ42 FZ42)
  | _ => none
 bxf := fun _ => none
 mv := []
 keep := fun b => match b with
  | 0 => [(0,false),(1,false),(5,false)]
  | _ => []
 keepB := fun b => match b with
  | 0 => []
  | _ => []
 keepX := fun b => match b with
  | 0 => [(4,false)]
  | _ => []
 keepXB := fun b => match b with
  | 0 => []
  | _ => []
theorem goodFZ31:∀ f ms F,EZ31.fn f = some (ms,F) → Sound Tryz.prog f ms F := fun f ms F h => by
 unfold EZ31 at h
 dsimp only at h
 split at h
 ·exact gF sZ42 h
 ·cases h
theorem goodZ31:Good Tryz.prog EZ31 := ⟨rfl,goodFZ31,fun f ms F h => by cases h⟩
noncomputable def OZ31_0:Orc := fun _ _ => none
noncomputable def msZ31:List PM := [.rd,.rd]
noncomputable def lsZ31:List (Nat×Code) := loopsAll 0 (Tryz.f167.body.getD .skip)
noncomputable def cZ31_0:Code := (loopOf 0 (Tryz.f167.body.getD .skip)).getD .skip
theorem lseqZ31:lsZ31 = [(0,cZ31_0)] := by kernel_rfl
theorem mZ31_0:∀ p,p ∈ lsZ31 → p.1 = 0 → p.2 = cZ31_0 := by
 intro p hp
 rw [lseqZ31] at hp
 simp only [List.mem_cons,List.not_mem_nil,or_false] at hp
 subst hp; simp
theorem kZ31_0:OrcOk EZ31 OZ31_0 lsZ31 0 := orcOk_none
noncomputable def hZ31_0 (y0:tL3) (y1:tL3) (y2:Int):List (Pl×LV) := [(.T 0,.t (.val false [.sl .any 155 (.pair .str (.pair .bool (.sl 3 (.int .i64)))) y0])),(.T 1,.t (.val false [.sl .any 155 (.pair .str (.pair .bool (.sl 3 (.int .i64)))) y1])),(.T 5,.t (.val false [.int .i64 y2]))]
noncomputable def g_SZ31_0 (y0:tL3) (y1:tL3):(Int) → RT (Int) ((Bool) ⊕ (Unit))
 | y2 => .br (true) (.br (decide (y2 < (y0.length:Int))) (.br (decide (0 ≤ y2 ∧ y2 < (y0.length:Int))) (.br (decide (0 ≤ y2 ∧ y2 < (y1.length:Int))) (.br (g_AZ42 (at_ yT3 y0 (Int.toNat y2)).1 (at_ yT3 y0 (Int.toNat y2)).2.1 (at_ yT3 y0 (Int.toNat y2)).2.2 (at_ yT3 y1 (Int.toNat y2)).1 (at_ yT3 y1 (Int.toNat y2)).2.1 (at_ yT3 y1 (Int.toNat y2)).2.2) (.br (!g_VZ42_0 (at_ yT3 y0 (Int.toNat y2)).1 (at_ yT3 y0 (Int.toNat y2)).2.1 (at_ yT3 y0 (Int.toNat y2)).2.2 (at_ yT3 y1 (Int.toNat y2)).1 (at_ yT3 y1 (Int.toNat y2)).2.1 (at_ yT3 y1 (Int.toNat y2)).2.2) (.out (.inl false)) (.br (true) (.go (IntKind.i64.wrap (y2 + 1))) .bad)) .bad) .bad) .bad) (.out (.inr (())))) .bad
noncomputable def g_LZ31_0 (y0:tL3) (y1:tL3) (x:Int):Option ((Bool) ⊕ (Unit)) := loopO (g_SZ31_0 y0 y1) x
noncomputable def xZ31_0 (y0:tL3) (y1:tL3):((Bool) ⊕ (Unit)) → Ex×List (Pl×LV) := fun
 | .inl r => (.ret,[(.T 4,.t (.val false [.bool r]))])
 | .inr (r) => (.exit 0,[(.T 4,.t (.val false [.undef]))])
noncomputable def OZ31_1:Orc := fun b h => match b,h with
 | 0,[(.T 0,.t (.val false [.sl .any 155 (.pair .str (.pair .bool (.sl 3 (.int .i64)))) y0])),(.T 1,.t (.val false [.sl .any 155 (.pair .str (.pair .bool (.sl 3 (.int .i64)))) y1])),(.T 5,.t (.val false [.int .i64 y2]))] => some (okO (g_LZ31_0 y0 y1 y2),(.br (isL (valO (g_LZ31_0 y0 y1 y2))) (.leaf .ret [(.T 4,.t (.val false [.bool (getL (valO (g_LZ31_0 y0 y1 y2)))]))]) (.leaf (.exit 0) [(.T 4,.t (.val false [.undef]))])))
 | b,h => OZ31_0 b h
theorem bZ31_0 (y0:tL3) (y1:tL3) (y2:Int):Tr.bt EZ31 OZ31_0 (exec EZ31 0 cZ31_0 (St.of (hZ31_0 y0 y1 y2)) (leafRd EZ31 0)) = (g_SZ31_0 y0 y1 y2).bt (fun (y2:Int) => (hZ31_0 y0 y1 y2)) (xZ31_0 y0 y1) := by kernel_rfl
theorem kZ31_1:OrcOk EZ31 OZ31_1 lsZ31 1 := orc_add kZ31_0 (fun n p hp h ex h' ho => by
 obtain ⟨b,c⟩ := p
 obtain ⟨xt,h1,h2⟩ := ho
 have h1:OZ31_1 b h = some (true,xt) := h1
 unfold OZ31_1 at h1
 split at h1
 ·injection h1 with h1
  injection h1 with e1 e2
  subst e2
  have hc:c = cZ31_0 := mZ31_0 _ hp rfl
  subst hc
  right
  rename_i y0 y1 y2
  have key := LT_step kZ31_0 hp (fun q hq => loopsAll_in _ _ _ _ hp hq) (fun (y2:Int) => (hZ31_0 y0 y1 y2)) (xZ31_0 y0 y1) (g_SZ31_0 y0 y1) (fun x => by first | exact bZ31_0 y0 y1 x) n (x := y2) (okO_some e1)
  have hx:∀ r,XT.sel (.br (isL r) (.leaf .ret [(.T 4,.t (.val false [.bool (getL r)]))]) (.leaf (.exit 0) [(.T 4,.t (.val false [.undef]))])) = xZ31_0 y0 y1 r := fun r => by first | rfl | rcases r with r | r <;> rfl | rcases r with r | r | r <;> rfl | rcases r with r | r | r | r <;> rfl
  have h3 := (hx (valO (g_LZ31_0 y0 y1 y2))).symm.trans h2
  have e3 := congrArg Prod.fst h3
  have e4 := congrArg Prod.snd h3
  simp only at e3 e4
  rw [← e3,← e4]
  exact key
 ·exact .inl ⟨xt,h1,h2⟩)
noncomputable def g_AZ31 (a0:tL3) (a1:tL3):Bool := (a0.length:Int) != (a1.length:Int) || okO (g_LZ31_0 a0 a1 (0:Int))
noncomputable def g_VZ31_0 (a0:tL3) (a1:tL3):Bool := bif (a0.length:Int) != (a1.length:Int) then false else bif isL (valO (g_LZ31_0 a0 a1 (0:Int))) then getL (valO (g_LZ31_0 a0 a1 (0:Int))) else true
noncomputable def FZ31:FSem := fun ys => match ys with
 | [.val false [.sl .any 155 (.pair .str (.pair .bool (.sl 3 (.int .i64)))) a0],.val false [.sl .any 155 (.pair .str (.pair .bool (.sl 3 (.int .i64)))) a1]] => some ((g_AZ31 a0 a1),.val false [.bool (g_VZ31_0 a0 a1)],[])
 | _ => none
theorem vZ31 (a0:tL3) (a1:tL3):collapseH .std EZ31 OZ31_1 (execFn EZ31 Tryz.f167 msZ31 [.val false [.sl .any 155 (.pair .str (.pair .bool (.sl 3 (.int .i64)))) a0],.val false [.sl .any 155 (.pair .str (.pair .bool (.sl 3 (.int .i64)))) a1]]) = some ((g_AZ31 a0 a1),.val false [.bool (g_VZ31_0 a0 a1)],[]) := by kernel_rfl
theorem sZ31:Sound Tryz.prog 167 msZ31 FZ31 := by
 refine fn_gen goodZ31 (by kernel_rfl) .std (fn := Tryz.f167) (c := (Tryz.f167.body.getD .skip)) (o := OZ31_1) (k := 1) (by kernel_rfl) (by kernel_rfl) (by kernel_rfl) (by kernel_rfl) (by decide) kZ31_1 ?_
 intro ys r outs h
 unfold FZ31 at h
 split at h
 ·exact (vZ31 _ _).trans h
 ·cases h
noncomputable def EZ54:Env where
 tt := mkTI Tryz.prog
 fn := fun _ => none
 bxf := fun _ => none
 mv := []
 keep := fun b => match b with
  | 0 => [(0,false),(1,false),(5,false)]
  | _ => []
 keepB := fun b => match b with
  | 0 => []
  | _ => []
 keepX := fun b => match b with
  | 0 => [(4,false)]
  | _ => []
 keepXB := fun b => match b with
  | 0 => []
  | _ => []
theorem goodFZ54:∀ f ms F,EZ54.fn f = some (ms,F) → Sound Tryz.prog f ms F := fun f ms F h => by cases h
theorem goodZ54:Good Tryz.prog EZ54 := ⟨rfl,goodFZ54,fun f ms F h => by cases h⟩
noncomputable def OZ54_0:Orc := fun _ _ => none
noncomputable def msZ54:List PM := [.rd,.rd]
noncomputable def lsZ54:List (Nat×Code) := loopsAll 0 (Tryz.f166.body.getD .skip)
noncomputable def cZ54_0:Code := (loopOf 0 (Tryz.f166.body.getD .skip)).getD .skip
theorem lseqZ54:lsZ54 = [(0,cZ54_0)] := by kernel_rfl
theorem mZ54_0:∀ p,p ∈ lsZ54 → p.1 = 0 → p.2 = cZ54_0 := by
 intro p hp
 rw [lseqZ54] at hp
 simp only [List.mem_cons,List.not_mem_nil,or_false] at hp
 subst hp; simp
theorem kZ54_0:OrcOk EZ54 OZ54_0 lsZ54 0 := orcOk_none
noncomputable def hZ54_0 (y0:List ByteArray) (y1:List ByteArray) (y2:Int):List (Pl×LV) := [(.T 0,.t (.val false [.sl .any 9 .str y0])),(.T 1,.t (.val false [.sl .any 9 .str y1])),(.T 5,.t (.val false [.int .i64 y2]))]
noncomputable def g_SZ54_0 (y0:List ByteArray) (y1:List ByteArray):(Int) → RT (Int) ((Bool) ⊕ (Unit))
 | y2 => .br (true) (.br (decide (y2 < (y0.length:Int))) (.br (decide (0 ≤ y2 ∧ y2 < (y0.length:Int))) (.br (decide (0 ≤ y2 ∧ y2 < (y1.length:Int))) (.br (true) (.br (!ByteArray.toList (at_ Ty.str y0 (Int.toNat y2)) == ByteArray.toList (at_ Ty.str y1 (Int.toNat y2))) (.out (.inl false)) (.br (true) (.go (IntKind.i64.wrap (y2 + 1))) .bad)) .bad) .bad) .bad) (.out (.inr (())))) .bad
noncomputable def g_LZ54_0 (y0:List ByteArray) (y1:List ByteArray) (x:Int):Option ((Bool) ⊕ (Unit)) := loopO (g_SZ54_0 y0 y1) x
noncomputable def xZ54_0 (y0:List ByteArray) (y1:List ByteArray):((Bool) ⊕ (Unit)) → Ex×List (Pl×LV) := fun
 | .inl r => (.ret,[(.T 4,.t (.val false [.bool r]))])
 | .inr (r) => (.exit 0,[(.T 4,.t (.val false [.undef]))])
noncomputable def OZ54_1:Orc := fun b h => match b,h with
 | 0,[(.T 0,.t (.val false [.sl .any 9 .str y0])),(.T 1,.t (.val false [.sl .any 9 .str y1])),(.T 5,.t (.val false [.int .i64 y2]))] => some (okO (g_LZ54_0 y0 y1 y2),(.br (isL (valO (g_LZ54_0 y0 y1 y2))) (.leaf .ret [(.T 4,.t (.val false [.bool (getL (valO (g_LZ54_0 y0 y1 y2)))]))]) (.leaf (.exit 0) [(.T 4,.t (.val false [.undef]))])))
 | b,h => OZ54_0 b h
theorem bZ54_0 (y0:List ByteArray) (y1:List ByteArray) (y2:Int):Tr.bt EZ54 OZ54_0 (exec EZ54 0 cZ54_0 (St.of (hZ54_0 y0 y1 y2)) (leafRd EZ54 0)) = (g_SZ54_0 y0 y1 y2).bt (fun (y2:Int) => (hZ54_0 y0 y1 y2)) (xZ54_0 y0 y1) := by kernel_rfl
theorem kZ54_1:OrcOk EZ54 OZ54_1 lsZ54 1 := orc_add kZ54_0 (fun n p hp h ex h' ho => by
 obtain ⟨b,c⟩ := p
 obtain ⟨xt,h1,h2⟩ := ho
 have h1:OZ54_1 b h = some (true,xt) := h1
 unfold OZ54_1 at h1
 split at h1
 ·injection h1 with h1
  injection h1 with e1 e2
  subst e2
  have hc:c = cZ54_0 := mZ54_0 _ hp rfl
  subst hc
  right
  rename_i y0 y1 y2
  have key := LT_step kZ54_0 hp (fun q hq => loopsAll_in _ _ _ _ hp hq) (fun (y2:Int) => (hZ54_0 y0 y1 y2)) (xZ54_0 y0 y1) (g_SZ54_0 y0 y1) (fun x => by first | exact bZ54_0 y0 y1 x) n (x := y2) (okO_some e1)
  have hx:∀ r,XT.sel (.br (isL r) (.leaf .ret [(.T 4,.t (.val false [.bool (getL r)]))]) (.leaf (.exit 0) [(.T 4,.t (.val false [.undef]))])) = xZ54_0 y0 y1 r := fun r => by first | rfl | rcases r with r | r <;> rfl | rcases r with r | r | r <;> rfl | rcases r with r | r | r | r <;> rfl
  have h3 := (hx (valO (g_LZ54_0 y0 y1 y2))).symm.trans h2
  have e3 := congrArg Prod.fst h3
  have e4 := congrArg Prod.snd h3
  simp only at e3 e4
  rw [← e3,← e4]
  exact key
 ·exact .inl ⟨xt,h1,h2⟩)
noncomputable def g_AZ54 (a0:List ByteArray) (a1:List ByteArray):Bool := (a0.length:Int) != (a1.length:Int) || okO (g_LZ54_0 a0 a1 (0:Int))
noncomputable def g_VZ54_0 (a0:List ByteArray) (a1:List ByteArray):Bool := bif (a0.length:Int) != (a1.length:Int) then false else bif isL (valO (g_LZ54_0 a0 a1 (0:Int))) then getL (valO (g_LZ54_0 a0 a1 (0:Int))) else true
noncomputable def FZ54:FSem := fun ys => match ys with
 | [.val false [.sl .any 9 .str a0],.val false [.sl .any 9 .str a1]] => some ((g_AZ54 a0 a1),.val false [.bool (g_VZ54_0 a0 a1)],[])
 | _ => none
theorem vZ54 (a0:List ByteArray) (a1:List ByteArray):collapseH .std EZ54 OZ54_1 (execFn EZ54 Tryz.f166 msZ54 [.val false [.sl .any 9 .str a0],.val false [.sl .any 9 .str a1]]) = some ((g_AZ54 a0 a1),.val false [.bool (g_VZ54_0 a0 a1)],[]) := by kernel_rfl
theorem sZ54:Sound Tryz.prog 166 msZ54 FZ54 := by
 refine fn_gen goodZ54 (by kernel_rfl) .std (fn := Tryz.f166) (c := (Tryz.f166.body.getD .skip)) (o := OZ54_1) (k := 1) (by kernel_rfl) (by kernel_rfl) (by kernel_rfl) (by kernel_rfl) (by decide) kZ54_1 ?_
 intro ys r outs h
 unfold FZ54 at h
 split at h
 ·exact (vZ54 _ _).trans h
 ·cases h
noncomputable def EZ55:Env where
 tt := mkTI Tryz.prog
 fn := fun f => match f with
  | 166 => some (msZ54,FSem.wk msZ54 FZ54)
  | 167 => some (msZ31,FSem.wk msZ31 FZ31)
  | _ => none
 bxf := fun _ => none
 mv := []
 keep := fun _ => []
 keepB := fun _ => []
 keepX := fun _ => []
 keepXB := fun _ => []
theorem goodFZ55:∀ f ms F,EZ55.fn f = some (ms,F) → Sound Tryz.prog f ms F := fun f ms F h => by
 unfold EZ55 at h
 dsimp only at h
 split at h
 ·exact gF sZ54 h
 ·exact gF sZ31 h
 ·cases h
theorem goodZ55:Good Tryz.prog EZ55 := ⟨rfl,goodFZ55,fun f ms F h => by cases h⟩
noncomputable def OZ55_0:Orc := fun _ _ => none
noncomputable def msZ55:List PM := [.rd,.rd]
noncomputable def lsZ55:List (Nat×Code) := loopsAll 0 (Tryz.f141.body.getD .skip)
theorem kZ55_0:OrcOk EZ55 OZ55_0 lsZ55 0 := orcOk_none
noncomputable def g_AZ55 (a0:Int) (a1:Int) (a2:List ByteArray) (a3:tL3) (a4:Int) (a5:Int) (a6:List ByteArray) (a7:tL3):Bool := a0 != a4 || (a1 != a5 || g_AZ54 a2 a6&&(!g_VZ54_0 a2 a6 || g_AZ31 a3 a7))
noncomputable def g_VZ55_0 (a0:Int) (a1:Int) (a2:List ByteArray) (a3:tL3) (a4:Int) (a5:Int) (a6:List ByteArray) (a7:tL3):Bool := bif a0 != a4 then false else bif a1 != a5 then false else bif !g_VZ54_0 a2 a6 then false else bif !g_VZ31_0 a3 a7 then false else true
noncomputable def FZ55:FSem := fun ys => match ys with
 | [.val true [.int .i64 a0,.int .i64 a1,.sl .any 9 .str a2,.sl .any 155 (.pair .str (.pair .bool (.sl 3 (.int .i64)))) a3],.val true [.int .i64 a4,.int .i64 a5,.sl .any 9 .str a6,.sl .any 155 (.pair .str (.pair .bool (.sl 3 (.int .i64)))) a7]] => some ((g_AZ55 a0 a1 a2 a3 a4 a5 a6 a7),.val false [.bool (g_VZ55_0 a0 a1 a2 a3 a4 a5 a6 a7)],[])
 | _ => none
theorem vZ55 (a0:Int) (a1:Int) (a2:List ByteArray) (a3:tL3) (a4:Int) (a5:Int) (a6:List ByteArray) (a7:tL3):collapseH .std EZ55 OZ55_0 (execFn EZ55 Tryz.f141 msZ55 [.val true [.int .i64 a0,.int .i64 a1,.sl .any 9 .str a2,.sl .any 155 (.pair .str (.pair .bool (.sl 3 (.int .i64)))) a3],.val true [.int .i64 a4,.int .i64 a5,.sl .any 9 .str a6,.sl .any 155 (.pair .str (.pair .bool (.sl 3 (.int .i64)))) a7]]) = some ((g_AZ55 a0 a1 a2 a3 a4 a5 a6 a7),.val false [.bool (g_VZ55_0 a0 a1 a2 a3 a4 a5 a6 a7)],[]) := by kernel_rfl
theorem sZ55:Sound Tryz.prog 141 msZ55 FZ55 := by
 refine fn_gen goodZ55 (by kernel_rfl) .std (fn := Tryz.f141) (c := (Tryz.f141.body.getD .skip)) (o := OZ55_0) (k := 0) (by kernel_rfl) (by kernel_rfl) (by kernel_rfl) (by kernel_rfl) (by decide) kZ55_0 ?_
 intro ys r outs h
 unfold FZ55 at h
 split at h
 ·exact (vZ55 _ _ _ _ _ _ _ _).trans h
 ·cases h
noncomputable def EZ43:Env where
 tt := mkTI Tryz.prog
 fn := fun f => match f with
  | 141 => some (msZ55,FSem.wk msZ55 FZ55)
  | _ => none
 bxf := fun _ => none
 mv := []
 keep := fun b => match b with
  | 0 => [(0,false),(1,false),(5,false)]
  | _ => []
 keepB := fun b => match b with
  | 0 => []
  | _ => []
 keepX := fun b => match b with
  | 0 => [(4,false)]
  | _ => []
 keepXB := fun b => match b with
  | 0 => []
  | _ => []
theorem goodFZ43:∀ f ms F,EZ43.fn f = some (ms,F) → Sound Tryz.prog f ms F := fun f ms F h => by
 unfold EZ43 at h
 dsimp only at h
 split at h
 ·exact gF sZ55 h
 ·cases h
theorem goodZ43:Good Tryz.prog EZ43 := ⟨rfl,goodFZ43,fun f ms F h => by cases h⟩
noncomputable def OZ43_0:Orc := fun _ _ => none
noncomputable def msZ43:List PM := [.rd,.rd]
noncomputable def lsZ43:List (Nat×Code) := loopsAll 0 (Tryz.f103.body.getD .skip)
noncomputable def cZ43_0:Code := (loopOf 0 (Tryz.f103.body.getD .skip)).getD .skip
theorem lseqZ43:lsZ43 = [(0,cZ43_0)] := by kernel_rfl
theorem mZ43_0:∀ p,p ∈ lsZ43 → p.1 = 0 → p.2 = cZ43_0 := by
 intro p hp
 rw [lseqZ43] at hp
 simp only [List.mem_cons,List.not_mem_nil,or_false] at hp
 subst hp; simp
theorem kZ43_0:OrcOk EZ43 OZ43_0 lsZ43 0 := orcOk_none
noncomputable def hZ43_0 (y0:tL1) (y1:tL1) (y2:Int):List (Pl×LV) := [(.T 0,.t (.val false [.sl .any 92 (.pair (.int .i64) (.pair (.int .i64) (.pair (.sl 9 .str) (.sl 155 (.pair .str (.pair .bool (.sl 3 (.int .i64)))))))) y0])),(.T 1,.t (.val false [.sl .any 92 (.pair (.int .i64) (.pair (.int .i64) (.pair (.sl 9 .str) (.sl 155 (.pair .str (.pair .bool (.sl 3 (.int .i64)))))))) y1])),(.T 5,.t (.val false [.int .i64 y2]))]
noncomputable def g_SZ43_0 (y0:tL1) (y1:tL1):(Int) → RT (Int) ((Bool) ⊕ (Unit))
 | y2 => .br (true) (.br (decide (y2 < (y0.length:Int))) (.br (decide (0 ≤ y2 ∧ y2 < (y0.length:Int))) (.br (decide (0 ≤ y2 ∧ y2 < (y1.length:Int))) (.br (g_AZ55 (at_ yT1 y0 (Int.toNat y2)).1 (at_ yT1 y0 (Int.toNat y2)).2.1 (at_ yT1 y0 (Int.toNat y2)).2.2.1 (at_ yT1 y0 (Int.toNat y2)).2.2.2 (at_ yT1 y1 (Int.toNat y2)).1 (at_ yT1 y1 (Int.toNat y2)).2.1 (at_ yT1 y1 (Int.toNat y2)).2.2.1 (at_ yT1 y1 (Int.toNat y2)).2.2.2) (.br (!g_VZ55_0 (at_ yT1 y0 (Int.toNat y2)).1 (at_ yT1 y0 (Int.toNat y2)).2.1 (at_ yT1 y0 (Int.toNat y2)).2.2.1 (at_ yT1 y0 (Int.toNat y2)).2.2.2 (at_ yT1 y1 (Int.toNat y2)).1 (at_ yT1 y1 (Int.toNat y2)).2.1 (at_ yT1 y1 (Int.toNat y2)).2.2.1 (at_ yT1 y1 (Int.toNat y2)).2.2.2) (.out (.inl false)) (.br (true) (.go (IntKind.i64.wrap (y2 + 1))) .bad)) .bad) .bad) .bad) (.out (.inr (())))) .bad
noncomputable def g_LZ43_0 (y0:tL1) (y1:tL1) (x:Int):Option ((Bool) ⊕ (Unit)) := loopO (g_SZ43_0 y0 y1) x
noncomputable def xZ43_0 (y0:tL1) (y1:tL1):((Bool) ⊕ (Unit)) → Ex×List (Pl×LV) := fun
 | .inl r => (.ret,[(.T 4,.t (.val false [.bool r]))])
 | .inr (r) => (.exit 0,[(.T 4,.t (.val false [.undef]))])
noncomputable def OZ43_1:Orc := fun b h => match b,h with
 | 0,[(.T 0,.t (.val false [.sl .any 92 (.pair (.int .i64) (.pair (.int .i64) (.pair (.sl 9 .str) (.sl 155 (.pair .str (.pair .bool (.sl 3 (.int .i64)))))))) y0])),(.T 1,.t (.val false [.sl .any 92 (.pair (.int .i64) (.pair (.int .i64) (.pair (.sl 9 .str) (.sl 155 (.pair .str (.pair .bool (.sl 3 (.int .i64)))))))) y1])),(.T 5,.t (.val false [.int .i64 y2]))] => some (okO (g_LZ43_0 y0 y1 y2),(.br (isL (valO (g_LZ43_0 y0 y1 y2))) (.leaf .ret [(.T 4,.t (.val false [.bool (getL (valO (g_LZ43_0 y0 y1 y2)))]))]) (.leaf (.exit 0) [(.T 4,.t (.val false [.undef]))])))
 | b,h => OZ43_0 b h
theorem bZ43_0 (y0:tL1) (y1:tL1) (y2:Int):Tr.bt EZ43 OZ43_0 (exec EZ43 0 cZ43_0 (St.of (hZ43_0 y0 y1 y2)) (leafRd EZ43 0)) = (g_SZ43_0 y0 y1 y2).bt (fun (y2:Int) => (hZ43_0 y0 y1 y2)) (xZ43_0 y0 y1) := by kernel_rfl
theorem kZ43_1:OrcOk EZ43 OZ43_1 lsZ43 1 := orc_add kZ43_0 (fun n p hp h ex h' ho => by
 obtain ⟨b,c⟩ := p
 obtain ⟨xt,h1,h2⟩ := ho
 have h1:OZ43_1 b h = some (true,xt) := h1
 unfold OZ43_1 at h1
 split at h1
 ·injection h1 with h1
  injection h1 with e1 e2
  subst e2
  have hc:c = cZ43_0 := mZ43_0 _ hp rfl
  subst hc
  right
  rename_i y0 y1 y2
  have key := LT_step kZ43_0 hp (fun q hq => loopsAll_in _ _ _ _ hp hq) (fun (y2:Int) => (hZ43_0 y0 y1 y2)) (xZ43_0 y0 y1) (g_SZ43_0 y0 y1) (fun x => by first | exact bZ43_0 y0 y1 x) n (x := y2) (okO_some e1)
  have hx:∀ r,XT.sel (.br (isL r) (.leaf .ret [(.T 4,.t (.val false [.bool (getL r)]))]) (.leaf (.exit 0) [(.T 4,.t (.val false [.undef]))])) = xZ43_0 y0 y1 r := fun r => by first | rfl | rcases r with r | r <;> rfl | rcases r with r | r | r <;> rfl | rcases r with r | r | r | r <;> rfl
  have h3 := (hx (valO (g_LZ43_0 y0 y1 y2))).symm.trans h2
  have e3 := congrArg Prod.fst h3
  have e4 := congrArg Prod.snd h3
  simp only at e3 e4
  rw [← e3,← e4]
  exact key
 ·exact .inl ⟨xt,h1,h2⟩)
noncomputable def g_AZ43 (a0:tL1) (a1:tL1):Bool := (a0.length:Int) != (a1.length:Int) || okO (g_LZ43_0 a0 a1 (0:Int))
noncomputable def g_VZ43_0 (a0:tL1) (a1:tL1):Bool := bif (a0.length:Int) != (a1.length:Int) then false else bif isL (valO (g_LZ43_0 a0 a1 (0:Int))) then getL (valO (g_LZ43_0 a0 a1 (0:Int))) else true
noncomputable def FZ43:FSem := fun ys => match ys with
 | [.val false [.sl .any 92 (.pair (.int .i64) (.pair (.int .i64) (.pair (.sl 9 .str) (.sl 155 (.pair .str (.pair .bool (.sl 3 (.int .i64)))))))) a0],.val false [.sl .any 92 (.pair (.int .i64) (.pair (.int .i64) (.pair (.sl 9 .str) (.sl 155 (.pair .str (.pair .bool (.sl 3 (.int .i64)))))))) a1]] => some ((g_AZ43 a0 a1),.val false [.bool (g_VZ43_0 a0 a1)],[])
 | _ => none
theorem vZ43 (a0:tL1) (a1:tL1):collapseH .std EZ43 OZ43_1 (execFn EZ43 Tryz.f103 msZ43 [.val false [.sl .any 92 (.pair (.int .i64) (.pair (.int .i64) (.pair (.sl 9 .str) (.sl 155 (.pair .str (.pair .bool (.sl 3 (.int .i64)))))))) a0],.val false [.sl .any 92 (.pair (.int .i64) (.pair (.int .i64) (.pair (.sl 9 .str) (.sl 155 (.pair .str (.pair .bool (.sl 3 (.int .i64)))))))) a1]]) = some ((g_AZ43 a0 a1),.val false [.bool (g_VZ43_0 a0 a1)],[]) := by kernel_rfl
theorem sZ43:Sound Tryz.prog 103 msZ43 FZ43 := by
 refine fn_gen goodZ43 (by kernel_rfl) .std (fn := Tryz.f103) (c := (Tryz.f103.body.getD .skip)) (o := OZ43_1) (k := 1) (by kernel_rfl) (by kernel_rfl) (by kernel_rfl) (by kernel_rfl) (by decide) kZ43_1 ?_
 intro ys r outs h
 unfold FZ43 at h
 split at h
 ·exact (vZ43 _ _).trans h
 ·cases h
noncomputable def EZ56:Env where
 tt := mkTI Tryz.prog
 fn := fun f => match f with
  | 103 => some (msZ43,FSem.wk msZ43 FZ43)
  | _ => none
 bxf := fun _ => none
 mv := []
 keep := fun _ => []
 keepB := fun _ => []
 keepX := fun _ => []
 keepXB := fun _ => []
theorem goodFZ56:∀ f ms F,EZ56.fn f = some (ms,F) → Sound Tryz.prog f ms F := fun f ms F h => by
 unfold EZ56 at h
 dsimp only at h
 split at h
 ·exact gF sZ43 h
 ·cases h
theorem goodZ56:Good Tryz.prog EZ56 := ⟨rfl,goodFZ56,fun f ms F h => by cases h⟩
noncomputable def OZ56_0:Orc := fun _ _ => none
noncomputable def msZ56:List PM := [.rd,.rd]
noncomputable def lsZ56:List (Nat×Code) := loopsAll 0 (Tryz.f42.body.getD .skip)
theorem kZ56_0:OrcOk EZ56 OZ56_0 lsZ56 0 := orcOk_none
noncomputable def g_AZ56 (a0:tL1) (a1:Int) (a2:tL1) (a3:Int):Bool := g_AZ43 a0 a2&&(!g_VZ43_0 a0 a2 || true)
noncomputable def g_VZ56_0 (a0:tL1) (a1:Int) (a2:tL1) (a3:Int):Bool := bif !g_VZ43_0 a0 a2 then false else bif a1 != a3 then false else true
noncomputable def FZ56:FSem := fun ys => match ys with
 | [.val true [.sl .any 92 (.pair (.int .i64) (.pair (.int .i64) (.pair (.sl 9 .str) (.sl 155 (.pair .str (.pair .bool (.sl 3 (.int .i64)))))))) a0,.int .i64 a1],.val true [.sl .any 92 (.pair (.int .i64) (.pair (.int .i64) (.pair (.sl 9 .str) (.sl 155 (.pair .str (.pair .bool (.sl 3 (.int .i64)))))))) a2,.int .i64 a3]] => some ((g_AZ56 a0 a1 a2 a3),.val false [.bool (g_VZ56_0 a0 a1 a2 a3)],[])
 | _ => none
theorem vZ56 (a0:tL1) (a1:Int) (a2:tL1) (a3:Int):collapseH .std EZ56 OZ56_0 (execFn EZ56 Tryz.f42 msZ56 [.val true [.sl .any 92 (.pair (.int .i64) (.pair (.int .i64) (.pair (.sl 9 .str) (.sl 155 (.pair .str (.pair .bool (.sl 3 (.int .i64)))))))) a0,.int .i64 a1],.val true [.sl .any 92 (.pair (.int .i64) (.pair (.int .i64) (.pair (.sl 9 .str) (.sl 155 (.pair .str (.pair .bool (.sl 3 (.int .i64)))))))) a2,.int .i64 a3]]) = some ((g_AZ56 a0 a1 a2 a3),.val false [.bool (g_VZ56_0 a0 a1 a2 a3)],[]) := by kernel_rfl
theorem sZ56:Sound Tryz.prog 42 msZ56 FZ56 := by
 refine fn_gen goodZ56 (by kernel_rfl) .std (fn := Tryz.f42) (c := (Tryz.f42.body.getD .skip)) (o := OZ56_0) (k := 0) (by kernel_rfl) (by kernel_rfl) (by kernel_rfl) (by kernel_rfl) (by decide) kZ56_0 ?_
 intro ys r outs h
 unfold FZ56 at h
 split at h
 ·exact (vZ56 _ _ _ _).trans h
 ·cases h
noncomputable def EZ44:Env where
 tt := mkTI Tryz.prog
 fn := fun f => match f with
  | 42 => some (msZ56,FSem.wk msZ56 FZ56)
  | 43 => some (msZ73,FSem.wk msZ73 FZ73)
  | _ => none
 bxf := fun _ => none
 mv := []
 keep := fun _ => []
 keepB := fun _ => []
 keepX := fun _ => []
 keepXB := fun _ => []
theorem goodFZ44:∀ f ms F,EZ44.fn f = some (ms,F) → Sound Tryz.prog f ms F := fun f ms F h => by
 unfold EZ44 at h
 dsimp only at h
 split at h
 ·exact gF sZ56 h
 ·exact gF sZ73 h
 ·cases h
theorem goodZ44:Good Tryz.prog EZ44 := ⟨rfl,goodFZ44,fun f ms F h => by cases h⟩
noncomputable def OZ44_0:Orc := fun _ _ => none
noncomputable def msZ44:List PM := [.rd,.rd]
noncomputable def lsZ44:List (Nat×Code) := loopsAll 0 (Tryz.f12.body.getD .skip)
theorem kZ44_0:OrcOk EZ44 OZ44_0 lsZ44 0 := orcOk_none
noncomputable def g_AZ44 (a0:tL1) (a1:Int) (a2:tL0) (a3:tL1) (a4:Int) (a5:tL0):Bool := g_AZ56 a0 a1 a3 a4&&(!g_VZ56_0 a0 a1 a3 a4 || g_AZ73 a2 a5)
noncomputable def g_VZ44_0 (a0:tL1) (a1:Int) (a2:tL0) (a3:tL1) (a4:Int) (a5:tL0):Bool := bif !g_VZ56_0 a0 a1 a3 a4 then false else bif !g_VZ73_0 a2 a5 then false else true
noncomputable def FZ44:FSem := fun ys => match ys with
 | [.val true [.sl .any 92 (.pair (.int .i64) (.pair (.int .i64) (.pair (.sl 9 .str) (.sl 155 (.pair .str (.pair .bool (.sl 3 (.int .i64)))))))) a0,.int .i64 a1,.sl .any 73 (.pair (.int .i64) (.pair (.pair (.int .i64) (.pair (.int .i64) (.pair (.int .i64) (.pair (.int .i64) (.pair (.int .i64) (.pair (.int .i64) (.int .i64))))))) (.pair .bool (.pair (.sl 3 (.int .i64)) (.sl 3 (.int .i64)))))) a2],.val true [.sl .any 92 (.pair (.int .i64) (.pair (.int .i64) (.pair (.sl 9 .str) (.sl 155 (.pair .str (.pair .bool (.sl 3 (.int .i64)))))))) a3,.int .i64 a4,.sl .any 73 (.pair (.int .i64) (.pair (.pair (.int .i64) (.pair (.int .i64) (.pair (.int .i64) (.pair (.int .i64) (.pair (.int .i64) (.pair (.int .i64) (.int .i64))))))) (.pair .bool (.pair (.sl 3 (.int .i64)) (.sl 3 (.int .i64)))))) a5]] => some ((g_AZ44 a0 a1 a2 a3 a4 a5),.val false [.bool (g_VZ44_0 a0 a1 a2 a3 a4 a5)],[])
 | _ => none
theorem vZ44 (a0:tL1) (a1:Int) (a2:tL0) (a3:tL1) (a4:Int) (a5:tL0):collapseH .std EZ44 OZ44_0 (execFn EZ44 Tryz.f12 msZ44 [.val true [.sl .any 92 (.pair (.int .i64) (.pair (.int .i64) (.pair (.sl 9 .str) (.sl 155 (.pair .str (.pair .bool (.sl 3 (.int .i64)))))))) a0,.int .i64 a1,.sl .any 73 (.pair (.int .i64) (.pair (.pair (.int .i64) (.pair (.int .i64) (.pair (.int .i64) (.pair (.int .i64) (.pair (.int .i64) (.pair (.int .i64) (.int .i64))))))) (.pair .bool (.pair (.sl 3 (.int .i64)) (.sl 3 (.int .i64)))))) a2],.val true [.sl .any 92 (.pair (.int .i64) (.pair (.int .i64) (.pair (.sl 9 .str) (.sl 155 (.pair .str (.pair .bool (.sl 3 (.int .i64)))))))) a3,.int .i64 a4,.sl .any 73 (.pair (.int .i64) (.pair (.pair (.int .i64) (.pair (.int .i64) (.pair (.int .i64) (.pair (.int .i64) (.pair (.int .i64) (.pair (.int .i64) (.int .i64))))))) (.pair .bool (.pair (.sl 3 (.int .i64)) (.sl 3 (.int .i64)))))) a5]]) = some ((g_AZ44 a0 a1 a2 a3 a4 a5),.val false [.bool (g_VZ44_0 a0 a1 a2 a3 a4 a5)],[]) := by kernel_rfl
theorem sZ44:Sound Tryz.prog 12 msZ44 FZ44 := by
 refine fn_gen goodZ44 (by kernel_rfl) .std (fn := Tryz.f12) (c := (Tryz.f12.body.getD .skip)) (o := OZ44_0) (k := 0) (by kernel_rfl) (by kernel_rfl) (by kernel_rfl) (by kernel_rfl) (by decide) kZ44_0 ?_
 intro ys r outs h
 unfold FZ44 at h
 split at h
 ·exact (vZ44 _ _ _ _ _ _).trans h
 ·cases h
noncomputable def EZ74:Env where
 tt := mkTI Tryz.prog
 fn := fun f => match f with
  | 102 => some (msw_eqOpOp,FSem.wk msw_eqOpOp Fw_eqOpOp)
  | _ => none
 bxf := fun _ => none
 mv := []
 keep := fun _ => []
 keepB := fun _ => []
 keepX := fun _ => []
 keepXB := fun _ => []
theorem goodFZ74:∀ f ms F,EZ74.fn f = some (ms,F) → Sound Tryz.prog f ms F := fun f ms F h => by
 unfold EZ74 at h
 dsimp only at h
 split at h
 ·exact gF sw_eqOpOp h
 ·cases h
theorem goodZ74:Good Tryz.prog EZ74 := ⟨rfl,goodFZ74,fun f ms F h => by cases h⟩
noncomputable def OZ74_0:Orc := fun _ _ => none
noncomputable def msZ74:List PM := [.own,.own]
noncomputable def lsZ74:List (Nat×Code) := loopsAll 0 (Tryz.f41.body.getD .skip)
theorem kZ74_0:OrcOk EZ74 OZ74_0 lsZ74 0 := orcOk_none
noncomputable def g_AZ74 (a0:Int) (a1:Int) (a2:Int) (a3:Int) (a4:Int) (a5:Int) (a6:Int) (a7:Int) (a8:Int) (a9:Int) (a10:Int) (a11:Int) (a12:Int) (a13:Int) (a14:Int) (a15:Int) (a16:Int) (a17:Int) (a18:Int) (a19:Int) (a20:Int) (a21:Int):Bool := a0 != a11 || (a1 != a12 || (a2 != a13 || (a3 != a14 || g_Aw_eqOpOp a4 a5 a6 a7 a8 a9 a10 a15 a16 a17 a18 a19 a20 a21)))
noncomputable def g_VZ74_0 (a0:Int) (a1:Int) (a2:Int) (a3:Int) (a4:Int) (a5:Int) (a6:Int) (a7:Int) (a8:Int) (a9:Int) (a10:Int) (a11:Int) (a12:Int) (a13:Int) (a14:Int) (a15:Int) (a16:Int) (a17:Int) (a18:Int) (a19:Int) (a20:Int) (a21:Int):Bool := bif a0 != a11 then false else bif a1 != a12 then false else bif a2 != a13 then false else bif a3 != a14 then false else bif !g_Vw_eqOpOp_0 a4 a5 a6 a7 a8 a9 a10 a15 a16 a17 a18 a19 a20 a21 then false else true
noncomputable def FZ74:FSem := fun ys => match ys with
 | [.val true [.int .i64 a0,.int .i64 a1,.int .i64 a2,.int .i64 a3,.int .i64 a4,.int .i64 a5,.int .i64 a6,.int .i64 a7,.int .i64 a8,.int .i64 a9,.int .i64 a10],.val true [.int .i64 a11,.int .i64 a12,.int .i64 a13,.int .i64 a14,.int .i64 a15,.int .i64 a16,.int .i64 a17,.int .i64 a18,.int .i64 a19,.int .i64 a20,.int .i64 a21]] => some ((g_AZ74 a0 a1 a2 a3 a4 a5 a6 a7 a8 a9 a10 a11 a12 a13 a14 a15 a16 a17 a18 a19 a20 a21),.val false [.bool (g_VZ74_0 a0 a1 a2 a3 a4 a5 a6 a7 a8 a9 a10 a11 a12 a13 a14 a15 a16 a17 a18 a19 a20 a21)],[])
 | _ => none
theorem vZ74 (a0:Int) (a1:Int) (a2:Int) (a3:Int) (a4:Int) (a5:Int) (a6:Int) (a7:Int) (a8:Int) (a9:Int) (a10:Int) (a11:Int) (a12:Int) (a13:Int) (a14:Int) (a15:Int) (a16:Int) (a17:Int) (a18:Int) (a19:Int) (a20:Int) (a21:Int):collapseH .std EZ74 OZ74_0 (execFn EZ74 Tryz.f41 msZ74 [.val true [.int .i64 a0,.int .i64 a1,.int .i64 a2,.int .i64 a3,.int .i64 a4,.int .i64 a5,.int .i64 a6,.int .i64 a7,.int .i64 a8,.int .i64 a9,.int .i64 a10],.val true [.int .i64 a11,.int .i64 a12,.int .i64 a13,.int .i64 a14,.int .i64 a15,.int .i64 a16,.int .i64 a17,.int .i64 a18,.int .i64 a19,.int .i64 a20,.int .i64 a21]]) = some ((g_AZ74 a0 a1 a2 a3 a4 a5 a6 a7 a8 a9 a10 a11 a12 a13 a14 a15 a16 a17 a18 a19 a20 a21),.val false [.bool (g_VZ74_0 a0 a1 a2 a3 a4 a5 a6 a7 a8 a9 a10 a11 a12 a13 a14 a15 a16 a17 a18 a19 a20 a21)],[]) := by kernel_rfl
theorem sZ74:Sound Tryz.prog 41 msZ74 FZ74 := by
 refine fn_gen goodZ74 (by kernel_rfl) .std (fn := Tryz.f41) (c := (Tryz.f41.body.getD .skip)) (o := OZ74_0) (k := 0) (by kernel_rfl) (by kernel_rfl) (by kernel_rfl) (by kernel_rfl) (by decide) kZ74_0 ?_
 intro ys r outs h
 unfold FZ74 at h
 split at h
 ·exact (vZ74 _ _ _ _ _ _ _ _ _ _ _ _ _ _ _ _ _ _ _ _ _ _).trans h
 ·cases h
noncomputable def EZ57:Env where
 tt := mkTI Tryz.prog
 fn := fun f => match f with
  | 41 => some (msZ74,FSem.wk msZ74 FZ74)
  | _ => none
 bxf := fun _ => none
 mv := []
 keep := fun b => match b with
  | 0 => [(0,false),(1,false),(5,false)]
  | _ => []
 keepB := fun b => match b with
  | 0 => []
  | _ => []
 keepX := fun b => match b with
  | 0 => [(4,false)]
  | _ => []
 keepXB := fun b => match b with
  | 0 => []
  | _ => []
theorem goodFZ57:∀ f ms F,EZ57.fn f = some (ms,F) → Sound Tryz.prog f ms F := fun f ms F h => by
 unfold EZ57 at h
 dsimp only at h
 split at h
 ·exact gF sZ74 h
 ·cases h
theorem goodZ57:Good Tryz.prog EZ57 := ⟨rfl,goodFZ57,fun f ms F h => by cases h⟩
noncomputable def OZ57_0:Orc := fun _ _ => none
noncomputable def msZ57:List PM := [.rd,.rd]
noncomputable def lsZ57:List (Nat×Code) := loopsAll 0 (Tryz.f11.body.getD .skip)
noncomputable def cZ57_0:Code := (loopOf 0 (Tryz.f11.body.getD .skip)).getD .skip
theorem lseqZ57:lsZ57 = [(0,cZ57_0)] := by kernel_rfl
theorem mZ57_0:∀ p,p ∈ lsZ57 → p.1 = 0 → p.2 = cZ57_0 := by
 intro p hp
 rw [lseqZ57] at hp
 simp only [List.mem_cons,List.not_mem_nil,or_false] at hp
 subst hp; simp
theorem kZ57_0:OrcOk EZ57 OZ57_0 lsZ57 0 := orcOk_none
noncomputable def hZ57_0 (y0:tL2) (y1:tL2) (y2:Int):List (Pl×LV) := [(.T 0,.t (.val false [.sl .any 83 (.pair (.int .i64) (.pair (.int .i64) (.pair (.int .i64) (.pair (.int .i64) (.pair (.int .i64) (.pair (.int .i64) (.pair (.int .i64) (.pair (.int .i64) (.pair (.int .i64) (.pair (.int .i64) (.int .i64))))))))))) y0])),(.T 1,.t (.val false [.sl .any 83 (.pair (.int .i64) (.pair (.int .i64) (.pair (.int .i64) (.pair (.int .i64) (.pair (.int .i64) (.pair (.int .i64) (.pair (.int .i64) (.pair (.int .i64) (.pair (.int .i64) (.pair (.int .i64) (.int .i64))))))))))) y1])),(.T 5,.t (.val false [.int .i64 y2]))]
noncomputable def g_SZ57_0 (y0:tL2) (y1:tL2):(Int) → RT (Int) ((Bool) ⊕ (Unit))
 | y2 => .br (true) (.br (decide (y2 < (y0.length:Int))) (.br (decide (0 ≤ y2 ∧ y2 < (y0.length:Int))) (.br (decide (0 ≤ y2 ∧ y2 < (y1.length:Int))) (.br (g_AZ74 (at_ yT2 y0 (Int.toNat y2)).1 (at_ yT2 y0 (Int.toNat y2)).2.1 (at_ yT2 y0 (Int.toNat y2)).2.2.1 (at_ yT2 y0 (Int.toNat y2)).2.2.2.1 (at_ yT2 y0 (Int.toNat y2)).2.2.2.2.1 (at_ yT2 y0 (Int.toNat y2)).2.2.2.2.2.1 (at_ yT2 y0 (Int.toNat y2)).2.2.2.2.2.2.1 (at_ yT2 y0 (Int.toNat y2)).2.2.2.2.2.2.2.1 (at_ yT2 y0 (Int.toNat y2)).2.2.2.2.2.2.2.2.1 (at_ yT2 y0 (Int.toNat y2)).2.2.2.2.2.2.2.2.2.1 (at_ yT2 y0 (Int.toNat y2)).2.2.2.2.2.2.2.2.2.2 (at_ yT2 y1 (Int.toNat y2)).1 (at_ yT2 y1 (Int.toNat y2)).2.1 (at_ yT2 y1 (Int.toNat y2)).2.2.1 (at_ yT2 y1 (Int.toNat y2)).2.2.2.1 (at_ yT2 y1 (Int.toNat y2)).2.2.2.2.1 (at_ yT2 y1 (Int.toNat y2)).2.2.2.2.2.1 (at_ yT2 y1 (Int.toNat y2)).2.2.2.2.2.2.1 (at_ yT2 y1 (Int.toNat y2)).2.2.2.2.2.2.2.1 (at_ yT2 y1 (Int.toNat y2)).2.2.2.2.2.2.2.2.1 (at_ yT2 y1 (Int.toNat y2)).2.2.2.2.2.2.2.2.2.1 (at_ yT2 y1 (Int.toNat y2)).2.2.2.2.2.2.2.2.2.2) (.br (!g_VZ74_0 (at_ yT2 y0 (Int.toNat y2)).1 (at_ yT2 y0 (Int.toNat y2)).2.1 (at_ yT2 y0 (Int.toNat y2)).2.2.1 (at_ yT2 y0 (Int.toNat y2)).2.2.2.1 (at_ yT2 y0 (Int.toNat y2)).2.2.2.2.1 (at_ yT2 y0 (Int.toNat y2)).2.2.2.2.2.1 (at_ yT2 y0 (Int.toNat y2)).2.2.2.2.2.2.1 (at_ yT2 y0 (Int.toNat y2)).2.2.2.2.2.2.2.1 (at_ yT2 y0 (Int.toNat y2)).2.2.2.2.2.2.2.2.1 (at_ yT2 y0 (Int.toNat y2)).2.2.2.2.2.2.2.2.2.1 (at_ yT2 y0 (Int.toNat y2)).2.2.2.2.2.2.2.2.2.2 (at_ yT2 y1 (Int.toNat y2)).1 (at_ yT2 y1 (Int.toNat y2)).2.1 (at_ yT2 y1 (Int.toNat y2)).2.2.1 (at_ yT2 y1 (Int.toNat y2)).2.2.2.1 (at_ yT2 y1 (Int.toNat y2)).2.2.2.2.1 (at_ yT2 y1 (Int.toNat y2)).2.2.2.2.2.1 (at_ yT2 y1 (Int.toNat y2)).2.2.2.2.2.2.1 (at_ yT2 y1 (Int.toNat y2)).2.2.2.2.2.2.2.1 (at_ yT2 y1 (Int.toNat y2)).2.2.2.2.2.2.2.2.1 (at_ yT2 y1 (Int.toNat y2)).2.2.2.2.2.2.2.2.2.1 (at_ yT2 y1 (Int.toNat y2)).2.2.2.2.2.2.2.2.2.2) (.out (.inl false)) (.br (true) (.go (IntKind.i64.wrap (y2 + 1))) .bad)) .bad) .bad) .bad) (.out (.inr (())))) .bad
noncomputable def g_LZ57_0 (y0:tL2) (y1:tL2) (x:Int):Option ((Bool) ⊕ (Unit)) := loopO (g_SZ57_0 y0 y1) x
noncomputable def xZ57_0 (y0:tL2) (y1:tL2):((Bool) ⊕ (Unit)) → Ex×List (Pl×LV) := fun
 | .inl r => (.ret,[(.T 4,.t (.val false [.bool r]))])
 | .inr (r) => (.exit 0,[(.T 4,.t (.val false [.undef]))])
noncomputable def OZ57_1:Orc := fun b h => match b,h with
 | 0,[(.T 0,.t (.val false [.sl .any 83 (.pair (.int .i64) (.pair (.int .i64) (.pair (.int .i64) (.pair (.int .i64) (.pair (.int .i64) (.pair (.int .i64) (.pair (.int .i64) (.pair (.int .i64) (.pair (.int .i64) (.pair (.int .i64) (.int .i64))))))))))) y0])),(.T 1,.t (.val false [.sl .any 83 (.pair (.int .i64) (.pair (.int .i64) (.pair (.int .i64) (.pair (.int .i64) (.pair (.int .i64) (.pair (.int .i64) (.pair (.int .i64) (.pair (.int .i64) (.pair (.int .i64) (.pair (.int .i64) (.int .i64))))))))))) y1])),(.T 5,.t (.val false [.int .i64 y2]))] => some (okO (g_LZ57_0 y0 y1 y2),(.br (isL (valO (g_LZ57_0 y0 y1 y2))) (.leaf .ret [(.T 4,.t (.val false [.bool (getL (valO (g_LZ57_0 y0 y1 y2)))]))]) (.leaf (.exit 0) [(.T 4,.t (.val false [.undef]))])))
 | b,h => OZ57_0 b h
theorem bZ57_0 (y0:tL2) (y1:tL2) (y2:Int):Tr.bt EZ57 OZ57_0 (exec EZ57 0 cZ57_0 (St.of (hZ57_0 y0 y1 y2)) (leafRd EZ57 0)) = (g_SZ57_0 y0 y1 y2).bt (fun (y2:Int) => (hZ57_0 y0 y1 y2)) (xZ57_0 y0 y1) := by kernel_rfl
theorem kZ57_1:OrcOk EZ57 OZ57_1 lsZ57 1 := orc_add kZ57_0 (fun n p hp h ex h' ho => by
 obtain ⟨b,c⟩ := p
 obtain ⟨xt,h1,h2⟩ := ho
 have h1:OZ57_1 b h = some (true,xt) := h1
 unfold OZ57_1 at h1
 split at h1
 ·injection h1 with h1
  injection h1 with e1 e2
  subst e2
  have hc:c = cZ57_0 := mZ57_0 _ hp rfl
  subst hc
  right
  rename_i y0 y1 y2
  have key := LT_step kZ57_0 hp (fun q hq => loopsAll_in _ _ _ _ hp hq) (fun (y2:Int) => (hZ57_0 y0 y1 y2)) (xZ57_0 y0 y1) (g_SZ57_0 y0 y1) (fun x => by first | exact bZ57_0 y0 y1 x) n (x := y2) (okO_some e1)
  have hx:∀ r,XT.sel (.br (isL r) (.leaf .ret [(.T 4,.t (.val false [.bool (getL r)]))]) (.leaf (.exit 0) [(.T 4,.t (.val false [.undef]))])) = xZ57_0 y0 y1 r := fun r => by first | rfl | rcases r with r | r <;> rfl | rcases r with r | r | r <;> rfl | rcases r with r | r | r | r <;> rfl
  have h3 := (hx (valO (g_LZ57_0 y0 y1 y2))).symm.trans h2
  have e3 := congrArg Prod.fst h3
  have e4 := congrArg Prod.snd h3
  simp only at e3 e4
  rw [← e3,← e4]
  exact key
 ·exact .inl ⟨xt,h1,h2⟩)
noncomputable def g_AZ57 (a0:tL2) (a1:tL2):Bool := (a0.length:Int) != (a1.length:Int) || okO (g_LZ57_0 a0 a1 (0:Int))
noncomputable def g_VZ57_0 (a0:tL2) (a1:tL2):Bool := bif (a0.length:Int) != (a1.length:Int) then false else bif isL (valO (g_LZ57_0 a0 a1 (0:Int))) then getL (valO (g_LZ57_0 a0 a1 (0:Int))) else true
noncomputable def FZ57:FSem := fun ys => match ys with
 | [.val false [.sl .any 83 (.pair (.int .i64) (.pair (.int .i64) (.pair (.int .i64) (.pair (.int .i64) (.pair (.int .i64) (.pair (.int .i64) (.pair (.int .i64) (.pair (.int .i64) (.pair (.int .i64) (.pair (.int .i64) (.int .i64))))))))))) a0],.val false [.sl .any 83 (.pair (.int .i64) (.pair (.int .i64) (.pair (.int .i64) (.pair (.int .i64) (.pair (.int .i64) (.pair (.int .i64) (.pair (.int .i64) (.pair (.int .i64) (.pair (.int .i64) (.pair (.int .i64) (.int .i64))))))))))) a1]] => some ((g_AZ57 a0 a1),.val false [.bool (g_VZ57_0 a0 a1)],[])
 | _ => none
theorem vZ57 (a0:tL2) (a1:tL2):collapseH .std EZ57 OZ57_1 (execFn EZ57 Tryz.f11 msZ57 [.val false [.sl .any 83 (.pair (.int .i64) (.pair (.int .i64) (.pair (.int .i64) (.pair (.int .i64) (.pair (.int .i64) (.pair (.int .i64) (.pair (.int .i64) (.pair (.int .i64) (.pair (.int .i64) (.pair (.int .i64) (.int .i64))))))))))) a0],.val false [.sl .any 83 (.pair (.int .i64) (.pair (.int .i64) (.pair (.int .i64) (.pair (.int .i64) (.pair (.int .i64) (.pair (.int .i64) (.pair (.int .i64) (.pair (.int .i64) (.pair (.int .i64) (.pair (.int .i64) (.int .i64))))))))))) a1]]) = some ((g_AZ57 a0 a1),.val false [.bool (g_VZ57_0 a0 a1)],[]) := by kernel_rfl
theorem sZ57:Sound Tryz.prog 11 msZ57 FZ57 := by
 refine fn_gen goodZ57 (by kernel_rfl) .std (fn := Tryz.f11) (c := (Tryz.f11.body.getD .skip)) (o := OZ57_1) (k := 1) (by kernel_rfl) (by kernel_rfl) (by kernel_rfl) (by kernel_rfl) (by decide) kZ57_1 ?_
 intro ys r outs h
 unfold FZ57 at h
 split at h
 ·exact (vZ57 _ _).trans h
 ·cases h
noncomputable def EZ75:Env where
 tt := mkTI Tryz.prog
 fn := fun _ => none
 bxf := fun _ => none
 mv := []
 keep := fun b => match b with
  | 0 => [(0,false),(1,false),(5,false)]
  | _ => []
 keepB := fun b => match b with
  | 0 => []
  | _ => []
 keepX := fun b => match b with
  | 0 => [(1,false),(4,false)]
  | _ => []
 keepXB := fun b => match b with
  | 0 => []
  | _ => []
theorem goodFZ75:∀ f ms F,EZ75.fn f = some (ms,F) → Sound Tryz.prog f ms F := fun f ms F h => by cases h
theorem goodZ75:Good Tryz.prog EZ75 := ⟨rfl,goodFZ75,fun f ms F h => by cases h⟩
noncomputable def OZ75_0:Orc := fun _ _ => none
noncomputable def msZ75:List PM := [.rd,.own]
noncomputable def lsZ75:List (Nat×Code) := loopsAll 0 (Tryz.f113.body.getD .skip)
noncomputable def cZ75_0:Code := (loopOf 0 (Tryz.f113.body.getD .skip)).getD .skip
theorem lseqZ75:lsZ75 = [(0,cZ75_0)] := by kernel_rfl
theorem mZ75_0:∀ p,p ∈ lsZ75 → p.1 = 0 → p.2 = cZ75_0 := by
 intro p hp
 rw [lseqZ75] at hp
 simp only [List.mem_cons,List.not_mem_nil,or_false] at hp
 subst hp; simp
theorem kZ75_0:OrcOk EZ75 OZ75_0 lsZ75 0 := orcOk_none
noncomputable def hZ75_0 (y0:List Int) (y1:Int) (y2:Int):List (Pl×LV) := [(.T 0,.t (.val false [.sl .any 3 (.int .i64) y0])),(.T 1,.t (.val false [.int .i64 y1])),(.T 5,.t (.val false [.int .i64 y2]))]
noncomputable def g_SZ75_0 (y0:List Int):(Int×Int) → RT (Int×Int) ((Int×Int) ⊕ (Int))
 | (y1,y2) => .br (true) (.br (decide (y2 < (y0.length:Int))) (.br (decide (0 ≤ y2 ∧ y2 < (y0.length:Int))) (.br (true) (.br (at_ (.int .i64) y0 (Int.toNat y2) != y1) (.out (.inl ((y1,(-1:Int))))) (.br (true) (.br (true) (.go ((IntKind.i64.wrap (y1 + 1),IntKind.i64.wrap (y2 + 1)))) .bad) .bad)) .bad) .bad) (.out (.inr (y1)))) .bad
noncomputable def g_LZ75_0 (y0:List Int) (x:Int×Int):Option ((Int×Int) ⊕ (Int)) := loopO (g_SZ75_0 y0) x
noncomputable def xZ75_0 (y0:List Int):((Int×Int) ⊕ (Int)) → Ex×List (Pl×LV) := fun
 | .inl r => (.ret,[(.T 1,.t (.val false [.int .i64 r.1])),(.T 4,.t (.val false [.int .i64 r.2]))])
 | .inr (r) => (.exit 0,[(.T 1,.t (.val false [.int .i64 r])),(.T 4,.t (.val false [.undef]))])
noncomputable def OZ75_1:Orc := fun b h => match b,h with
 | 0,[(.T 0,.t (.val false [.sl .any 3 (.int .i64) y0])),(.T 1,.t (.val false [.int .i64 y1])),(.T 5,.t (.val false [.int .i64 y2]))] => some (okO (g_LZ75_0 y0 (y1,y2)),(.br (isL (valO (g_LZ75_0 y0 (y1,y2)))) (.leaf .ret [(.T 1,.t (.val false [.int .i64 (getL (valO (g_LZ75_0 y0 (y1,y2)))).1])),(.T 4,.t (.val false [.int .i64 (getL (valO (g_LZ75_0 y0 (y1,y2)))).2]))]) (.leaf (.exit 0) [(.T 1,.t (.val false [.int .i64 (getR (valO (g_LZ75_0 y0 (y1,y2))))])),(.T 4,.t (.val false [.undef]))])))
 | b,h => OZ75_0 b h
theorem bZ75_0 (y0:List Int) (y1:Int) (y2:Int):Tr.bt EZ75 OZ75_0 (exec EZ75 0 cZ75_0 (St.of (hZ75_0 y0 y1 y2)) (leafRd EZ75 0)) = (g_SZ75_0 y0 (y1,y2)).bt (fun ((y1,y2):Int×Int) => (hZ75_0 y0 y1 y2)) (xZ75_0 y0) := by kernel_rfl
theorem kZ75_1:OrcOk EZ75 OZ75_1 lsZ75 1 := orc_add kZ75_0 (fun n p hp h ex h' ho => by
 obtain ⟨b,c⟩ := p
 obtain ⟨xt,h1,h2⟩ := ho
 have h1:OZ75_1 b h = some (true,xt) := h1
 unfold OZ75_1 at h1
 split at h1
 ·injection h1 with h1
  injection h1 with e1 e2
  subst e2
  have hc:c = cZ75_0 := mZ75_0 _ hp rfl
  subst hc
  right
  rename_i y0 y1 y2
  have key := LT_step kZ75_0 hp (fun q hq => loopsAll_in _ _ _ _ hp hq) (fun ((y1,y2):Int×Int) => (hZ75_0 y0 y1 y2)) (xZ75_0 y0) (g_SZ75_0 y0) (fun x => by first | exact bZ75_0 y0 x.1 x.2) n (x := (y1,y2)) (okO_some e1)
  have hx:∀ r,XT.sel (.br (isL r) (.leaf .ret [(.T 1,.t (.val false [.int .i64 (getL r).1])),(.T 4,.t (.val false [.int .i64 (getL r).2]))]) (.leaf (.exit 0) [(.T 1,.t (.val false [.int .i64 (getR r)])),(.T 4,.t (.val false [.undef]))])) = xZ75_0 y0 r := fun r => by first | rfl | rcases r with r | r <;> rfl | rcases r with r | r | r <;> rfl | rcases r with r | r | r | r <;> rfl
  have h3 := (hx (valO (g_LZ75_0 y0 (y1,y2)))).symm.trans h2
  have e3 := congrArg Prod.fst h3
  have e4 := congrArg Prod.snd h3
  simp only at e3 e4
  rw [← e3,← e4]
  exact key
 ·exact .inl ⟨xt,h1,h2⟩)
noncomputable def g_AZ75 (a0:List Int) (a1:Int):Bool := okO (g_LZ75_0 a0 (a1,(0:Int)))
noncomputable def g_VZ75_0 (a0:List Int) (a1:Int):Int := bif isL (valO (g_LZ75_0 a0 (a1,(0:Int)))) then (getL (valO (g_LZ75_0 a0 (a1,(0:Int))))).2 else getR (valO (g_LZ75_0 a0 (a1,(0:Int))))
noncomputable def FZ75:FSem := fun ys => match ys with
 | [.val false [.sl .any 3 (.int .i64) a0],.val false [.int .i64 a1]] => some ((g_AZ75 a0 a1),.val false [.int .i64 (g_VZ75_0 a0 a1)],[])
 | _ => none
theorem vZ75 (a0:List Int) (a1:Int):collapseH .std EZ75 OZ75_1 (execFn EZ75 Tryz.f113 msZ75 [.val false [.sl .any 3 (.int .i64) a0],.val false [.int .i64 a1]]) = some ((g_AZ75 a0 a1),.val false [.int .i64 (g_VZ75_0 a0 a1)],[]) := by kernel_rfl
theorem sZ75:Sound Tryz.prog 113 msZ75 FZ75 := by
 refine fn_gen goodZ75 (by kernel_rfl) .std (fn := Tryz.f113) (c := (Tryz.f113.body.getD .skip)) (o := OZ75_1) (k := 1) (by kernel_rfl) (by kernel_rfl) (by kernel_rfl) (by kernel_rfl) (by decide) kZ75_1 ?_
 intro ys r outs h
 unfold FZ75 at h
 split at h
 ·exact (vZ75 _ _).trans h
 ·cases h
noncomputable def EZ45:Env where
 tt := mkTI Tryz.prog
 fn := fun f => match f with
  | 113 => some (msZ75,FSem.wk msZ75 FZ75)
  | _ => none
 bxf := fun _ => none
 mv := []
 keep := fun b => match b with
  | 0 => [(0,false),(1,false),(5,false)]
  | _ => []
 keepB := fun b => match b with
  | 0 => []
  | _ => []
 keepX := fun b => match b with
  | 0 => [(1,false),(4,false)]
  | _ => []
 keepXB := fun b => match b with
  | 0 => []
  | _ => []
theorem goodFZ45:∀ f ms F,EZ45.fn f = some (ms,F) → Sound Tryz.prog f ms F := fun f ms F h => by
 unfold EZ45 at h
 dsimp only at h
 split at h
 ·exact gF sZ75 h
 ·cases h
theorem goodZ45:Good Tryz.prog EZ45 := ⟨rfl,goodFZ45,fun f ms F h => by cases h⟩
noncomputable def OZ45_0:Orc := fun _ _ => none
noncomputable def msZ45:List PM := [.rd,.own]
noncomputable def lsZ45:List (Nat×Code) := loopsAll 0 (Tryz.f54.body.getD .skip)
noncomputable def cZ45_0:Code := (loopOf 0 (Tryz.f54.body.getD .skip)).getD .skip
theorem lseqZ45:lsZ45 = [(0,cZ45_0)] := by kernel_rfl
theorem mZ45_0:∀ p,p ∈ lsZ45 → p.1 = 0 → p.2 = cZ45_0 := by
 intro p hp
 rw [lseqZ45] at hp
 simp only [List.mem_cons,List.not_mem_nil,or_false] at hp
 subst hp; simp
theorem kZ45_0:OrcOk EZ45 OZ45_0 lsZ45 0 := orcOk_none
noncomputable def hZ45_0 (y0:tL0) (y1:Int) (y2:Int):List (Pl×LV) := [(.T 0,.t (.val false [.sl .any 73 (.pair (.int .i64) (.pair (.pair (.int .i64) (.pair (.int .i64) (.pair (.int .i64) (.pair (.int .i64) (.pair (.int .i64) (.pair (.int .i64) (.int .i64))))))) (.pair .bool (.pair (.sl 3 (.int .i64)) (.sl 3 (.int .i64)))))) y0])),(.T 1,.t (.val false [.int .i64 y1])),(.T 5,.t (.val false [.int .i64 y2]))]
noncomputable def g_SZ45_0 (y0:tL0):(Int×Int) → RT (Int×Int) ((Int×Int) ⊕ (Int))
 | (y1,y2) => .br (true) (.br (decide (y2 < (y0.length:Int))) (.br (decide (0 ≤ y2 ∧ y2 < (y0.length:Int))) (.br (true) (.br ((at_ yT0 y0 (Int.toNat y2)).1 != y1) (.out (.inl ((y1,(-1:Int))))) (.br (true) (.br (decide (0 ≤ y2 ∧ y2 < (y0.length:Int))) (.br (true) (.br ((at_ yT0 y0 (Int.toNat y2)).2.1.1 != IntKind.i64.wrap (y1 + 1)) (.out (.inl ((IntKind.i64.wrap (y1 + 1),(-1:Int))))) (.br (true) (.br (decide (0 ≤ y2 ∧ y2 < (y0.length:Int))) (.br (true) (.br ((at_ yT0 y0 (Int.toNat y2)).2.1.2.1 != IntKind.i64.wrap (IntKind.i64.wrap (y1 + 1) + 1)) (.out (.inl ((IntKind.i64.wrap (IntKind.i64.wrap (y1 + 1) + 1),(-1:Int))))) (.br (true) (.br (decide (0 ≤ y2 ∧ y2 < (y0.length:Int))) (.br (true) (.br ((at_ yT0 y0 (Int.toNat y2)).2.1.2.2.1 != IntKind.i64.wrap (IntKind.i64.wrap (IntKind.i64.wrap (y1 + 1) + 1) + 1)) (.out (.inl ((IntKind.i64.wrap (IntKind.i64.wrap (IntKind.i64.wrap (y1 + 1) + 1) + 1),(-1:Int))))) (.br (true) (.br (decide (0 ≤ y2 ∧ y2 < (y0.length:Int))) (.br (true) (.br ((at_ yT0 y0 (Int.toNat y2)).2.1.2.2.2.1 != IntKind.i64.wrap (IntKind.i64.wrap (IntKind.i64.wrap (IntKind.i64.wrap (y1 + 1) + 1) + 1) + 1)) (.out (.inl ((IntKind.i64.wrap (IntKind.i64.wrap (IntKind.i64.wrap (IntKind.i64.wrap (y1 + 1) + 1) + 1) + 1),(-1:Int))))) (.br (true) (.br (decide (0 ≤ y2 ∧ y2 < (y0.length:Int))) (.br (true) (.br ((at_ yT0 y0 (Int.toNat y2)).2.1.2.2.2.2.1 != IntKind.i64.wrap (IntKind.i64.wrap (IntKind.i64.wrap (IntKind.i64.wrap (IntKind.i64.wrap (y1 + 1) + 1) + 1) + 1) + 1)) (.out (.inl ((IntKind.i64.wrap (IntKind.i64.wrap (IntKind.i64.wrap (IntKind.i64.wrap (IntKind.i64.wrap (y1 + 1) + 1) + 1) + 1) + 1),(-1:Int))))) (.br (true) (.br (decide (0 ≤ y2 ∧ y2 < (y0.length:Int))) (.br (true) (.br ((at_ yT0 y0 (Int.toNat y2)).2.1.2.2.2.2.2.1 != IntKind.i64.wrap (IntKind.i64.wrap (IntKind.i64.wrap (IntKind.i64.wrap (IntKind.i64.wrap (IntKind.i64.wrap (y1 + 1) + 1) + 1) + 1) + 1) + 1)) (.out (.inl ((IntKind.i64.wrap (IntKind.i64.wrap (IntKind.i64.wrap (IntKind.i64.wrap (IntKind.i64.wrap (IntKind.i64.wrap (y1 + 1) + 1) + 1) + 1) + 1) + 1),(-1:Int))))) (.br (true) (.br (decide (0 ≤ y2 ∧ y2 < (y0.length:Int))) (.br (true) (.br ((at_ yT0 y0 (Int.toNat y2)).2.1.2.2.2.2.2.2 != IntKind.i64.wrap (IntKind.i64.wrap (IntKind.i64.wrap (IntKind.i64.wrap (IntKind.i64.wrap (IntKind.i64.wrap (IntKind.i64.wrap (y1 + 1) + 1) + 1) + 1) + 1) + 1) + 1)) (.out (.inl ((IntKind.i64.wrap (IntKind.i64.wrap (IntKind.i64.wrap (IntKind.i64.wrap (IntKind.i64.wrap (IntKind.i64.wrap (IntKind.i64.wrap (y1 + 1) + 1) + 1) + 1) + 1) + 1) + 1),(-1:Int))))) (.br (true) (.br (decide (0 ≤ y2 ∧ y2 < (y0.length:Int))) (.br (true) (.br (true) (.br (!(at_ yT0 y0 (Int.toNat y2)).2.2.1 == (Int.tmod (IntKind.i64.wrap (IntKind.i64.wrap (IntKind.i64.wrap (IntKind.i64.wrap (IntKind.i64.wrap (IntKind.i64.wrap (IntKind.i64.wrap (IntKind.i64.wrap (y1 + 1) + 1) + 1) + 1) + 1) + 1) + 1) + 1)) (3:Int) == (0:Int))) (.out (.inl ((IntKind.i64.wrap (IntKind.i64.wrap (IntKind.i64.wrap (IntKind.i64.wrap (IntKind.i64.wrap (IntKind.i64.wrap (IntKind.i64.wrap (IntKind.i64.wrap (y1 + 1) + 1) + 1) + 1) + 1) + 1) + 1) + 1),(-1:Int))))) (.br (true) (.br (decide (0 ≤ y2 ∧ y2 < (y0.length:Int))) (.br (g_AZ75 (at_ yT0 y0 (Int.toNat y2)).2.2.2.1 (IntKind.i64.wrap (IntKind.i64.wrap (IntKind.i64.wrap (IntKind.i64.wrap (IntKind.i64.wrap (IntKind.i64.wrap (IntKind.i64.wrap (IntKind.i64.wrap (IntKind.i64.wrap (y1 + 1) + 1) + 1) + 1) + 1) + 1) + 1) + 1) + 1))) (.br (true) (.br (decide (g_VZ75_0 (at_ yT0 y0 (Int.toNat y2)).2.2.2.1 (IntKind.i64.wrap (IntKind.i64.wrap (IntKind.i64.wrap (IntKind.i64.wrap (IntKind.i64.wrap (IntKind.i64.wrap (IntKind.i64.wrap (IntKind.i64.wrap (IntKind.i64.wrap (y1 + 1) + 1) + 1) + 1) + 1) + 1) + 1) + 1) + 1)) < 0)) (.out (.inl ((g_VZ75_0 (at_ yT0 y0 (Int.toNat y2)).2.2.2.1 (IntKind.i64.wrap (IntKind.i64.wrap (IntKind.i64.wrap (IntKind.i64.wrap (IntKind.i64.wrap (IntKind.i64.wrap (IntKind.i64.wrap (IntKind.i64.wrap (IntKind.i64.wrap (y1 + 1) + 1) + 1) + 1) + 1) + 1) + 1) + 1) + 1)),(-1:Int))))) (.br (decide (0 ≤ y2 ∧ y2 < (y0.length:Int))) (.br (g_AZ75 (at_ yT0 y0 (Int.toNat y2)).2.2.2.2 (g_VZ75_0 (at_ yT0 y0 (Int.toNat y2)).2.2.2.1 (IntKind.i64.wrap (IntKind.i64.wrap (IntKind.i64.wrap (IntKind.i64.wrap (IntKind.i64.wrap (IntKind.i64.wrap (IntKind.i64.wrap (IntKind.i64.wrap (IntKind.i64.wrap (y1 + 1) + 1) + 1) + 1) + 1) + 1) + 1) + 1) + 1)))) (.br (true) (.br (decide (g_VZ75_0 (at_ yT0 y0 (Int.toNat y2)).2.2.2.2 (g_VZ75_0 (at_ yT0 y0 (Int.toNat y2)).2.2.2.1 (IntKind.i64.wrap (IntKind.i64.wrap (IntKind.i64.wrap (IntKind.i64.wrap (IntKind.i64.wrap (IntKind.i64.wrap (IntKind.i64.wrap (IntKind.i64.wrap (IntKind.i64.wrap (y1 + 1) + 1) + 1) + 1) + 1) + 1) + 1) + 1) + 1))) < 0)) (.out (.inl ((g_VZ75_0 (at_ yT0 y0 (Int.toNat y2)).2.2.2.2 (g_VZ75_0 (at_ yT0 y0 (Int.toNat y2)).2.2.2.1 (IntKind.i64.wrap (IntKind.i64.wrap (IntKind.i64.wrap (IntKind.i64.wrap (IntKind.i64.wrap (IntKind.i64.wrap (IntKind.i64.wrap (IntKind.i64.wrap (IntKind.i64.wrap (y1 + 1) + 1) + 1) + 1) + 1) + 1) + 1) + 1) + 1))),(-1:Int))))) (.br (true) (.go ((g_VZ75_0 (at_ yT0 y0 (Int.toNat y2)).2.2.2.2 (g_VZ75_0 (at_ yT0 y0 (Int.toNat y2)).2.2.2.1 (IntKind.i64.wrap (IntKind.i64.wrap (IntKind.i64.wrap (IntKind.i64.wrap (IntKind.i64.wrap (IntKind.i64.wrap (IntKind.i64.wrap (IntKind.i64.wrap (IntKind.i64.wrap (y1 + 1) + 1) + 1) + 1) + 1) + 1) + 1) + 1) + 1))),IntKind.i64.wrap (y2 + 1)))) .bad)) .bad) .bad) .bad)) .bad) .bad) .bad) .bad)) .bad) .bad) .bad) .bad)) .bad) .bad) .bad)) .bad) .bad) .bad)) .bad) .bad) .bad)) .bad) .bad) .bad)) .bad) .bad) .bad)) .bad) .bad) .bad)) .bad) .bad) .bad)) .bad) .bad) (.out (.inr (y1)))) .bad
noncomputable def g_LZ45_0 (y0:tL0) (x:Int×Int):Option ((Int×Int) ⊕ (Int)) := loopO (g_SZ45_0 y0) x
noncomputable def xZ45_0 (y0:tL0):((Int×Int) ⊕ (Int)) → Ex×List (Pl×LV) := fun
 | .inl r => (.ret,[(.T 1,.t (.val false [.int .i64 r.1])),(.T 4,.t (.val false [.int .i64 r.2]))])
 | .inr (r) => (.exit 0,[(.T 1,.t (.val false [.int .i64 r])),(.T 4,.t (.val false [.undef]))])
noncomputable def OZ45_1:Orc := fun b h => match b,h with
 | 0,[(.T 0,.t (.val false [.sl .any 73 (.pair (.int .i64) (.pair (.pair (.int .i64) (.pair (.int .i64) (.pair (.int .i64) (.pair (.int .i64) (.pair (.int .i64) (.pair (.int .i64) (.int .i64))))))) (.pair .bool (.pair (.sl 3 (.int .i64)) (.sl 3 (.int .i64)))))) y0])),(.T 1,.t (.val false [.int .i64 y1])),(.T 5,.t (.val false [.int .i64 y2]))] => some (okO (g_LZ45_0 y0 (y1,y2)),(.br (isL (valO (g_LZ45_0 y0 (y1,y2)))) (.leaf .ret [(.T 1,.t (.val false [.int .i64 (getL (valO (g_LZ45_0 y0 (y1,y2)))).1])),(.T 4,.t (.val false [.int .i64 (getL (valO (g_LZ45_0 y0 (y1,y2)))).2]))]) (.leaf (.exit 0) [(.T 1,.t (.val false [.int .i64 (getR (valO (g_LZ45_0 y0 (y1,y2))))])),(.T 4,.t (.val false [.undef]))])))
 | b,h => OZ45_0 b h
theorem bZ45_0 (y0:tL0) (y1:Int) (y2:Int):Tr.bt EZ45 OZ45_0 (exec EZ45 0 cZ45_0 (St.of (hZ45_0 y0 y1 y2)) (leafRd EZ45 0)) = (g_SZ45_0 y0 (y1,y2)).bt (fun ((y1,y2):Int×Int) => (hZ45_0 y0 y1 y2)) (xZ45_0 y0) := by kernel_rfl
theorem kZ45_1:OrcOk EZ45 OZ45_1 lsZ45 1 := orc_add kZ45_0 (fun n p hp h ex h' ho => by
 obtain ⟨b,c⟩ := p
 obtain ⟨xt,h1,h2⟩ := ho
 have h1:OZ45_1 b h = some (true,xt) := h1
 unfold OZ45_1 at h1
 split at h1
 ·injection h1 with h1
  injection h1 with e1 e2
  subst e2
  have hc:c = cZ45_0 := mZ45_0 _ hp rfl
  subst hc
  right
  rename_i y0 y1 y2
  have key := LT_step kZ45_0 hp (fun q hq => loopsAll_in _ _ _ _ hp hq) (fun ((y1,y2):Int×Int) => (hZ45_0 y0 y1 y2)) (xZ45_0 y0) (g_SZ45_0 y0) (fun x => by first | exact bZ45_0 y0 x.1 x.2) n (x := (y1,y2)) (okO_some e1)
  have hx:∀ r,XT.sel (.br (isL r) (.leaf .ret [(.T 1,.t (.val false [.int .i64 (getL r).1])),(.T 4,.t (.val false [.int .i64 (getL r).2]))]) (.leaf (.exit 0) [(.T 1,.t (.val false [.int .i64 (getR r)])),(.T 4,.t (.val false [.undef]))])) = xZ45_0 y0 r := fun r => by first | rfl | rcases r with r | r <;> rfl | rcases r with r | r | r <;> rfl | rcases r with r | r | r | r <;> rfl
  have h3 := (hx (valO (g_LZ45_0 y0 (y1,y2)))).symm.trans h2
  have e3 := congrArg Prod.fst h3
  have e4 := congrArg Prod.snd h3
  simp only at e3 e4
  rw [← e3,← e4]
  exact key
 ·exact .inl ⟨xt,h1,h2⟩)
noncomputable def g_AZ45 (a0:tL0) (a1:Int):Bool := okO (g_LZ45_0 a0 (a1,(0:Int)))
noncomputable def g_VZ45_0 (a0:tL0) (a1:Int):Int := bif isL (valO (g_LZ45_0 a0 (a1,(0:Int)))) then (getL (valO (g_LZ45_0 a0 (a1,(0:Int))))).2 else getR (valO (g_LZ45_0 a0 (a1,(0:Int))))
noncomputable def FZ45:FSem := fun ys => match ys with
 | [.val false [.sl .any 73 (.pair (.int .i64) (.pair (.pair (.int .i64) (.pair (.int .i64) (.pair (.int .i64) (.pair (.int .i64) (.pair (.int .i64) (.pair (.int .i64) (.int .i64))))))) (.pair .bool (.pair (.sl 3 (.int .i64)) (.sl 3 (.int .i64)))))) a0],.val false [.int .i64 a1]] => some ((g_AZ45 a0 a1),.val false [.int .i64 (g_VZ45_0 a0 a1)],[])
 | _ => none
theorem vZ45 (a0:tL0) (a1:Int):collapseH .std EZ45 OZ45_1 (execFn EZ45 Tryz.f54 msZ45 [.val false [.sl .any 73 (.pair (.int .i64) (.pair (.pair (.int .i64) (.pair (.int .i64) (.pair (.int .i64) (.pair (.int .i64) (.pair (.int .i64) (.pair (.int .i64) (.int .i64))))))) (.pair .bool (.pair (.sl 3 (.int .i64)) (.sl 3 (.int .i64)))))) a0],.val false [.int .i64 a1]]) = some ((g_AZ45 a0 a1),.val false [.int .i64 (g_VZ45_0 a0 a1)],[]) := by kernel_rfl
theorem sZ45:Sound Tryz.prog 54 msZ45 FZ45 := by
 refine fn_gen goodZ45 (by kernel_rfl) .std (fn := Tryz.f54) (c := (Tryz.f54.body.getD .skip)) (o := OZ45_1) (k := 1) (by kernel_rfl) (by kernel_rfl) (by kernel_rfl) (by kernel_rfl) (by decide) kZ45_1 ?_
 intro ys r outs h
 unfold FZ45 at h
 split at h
 ·exact (vZ45 _ _).trans h
 ·cases h
noncomputable def EZ76:Env where
 tt := mkTI Tryz.prog
 fn := fun _ => none
 bxf := fun _ => none
 mv := []
 keep := fun b => match b with
  | 0 => [(0,false),(3,false)]
  | _ => []
 keepB := fun b => match b with
  | 0 => []
  | _ => []
 keepX := fun b => match b with
  | 0 => [(3,false)]
  | _ => []
 keepXB := fun b => match b with
  | 0 => []
  | _ => []
theorem goodFZ76:∀ f ms F,EZ76.fn f = some (ms,F) → Sound Tryz.prog f ms F := fun f ms F h => by cases h
theorem goodZ76:Good Tryz.prog EZ76 := ⟨rfl,goodFZ76,fun f ms F h => by cases h⟩
noncomputable def OZ76_0:Orc := fun _ _ => none
noncomputable def msZ76:List PM := [.own]
noncomputable def lsZ76:List (Nat×Code) := loopsAll 0 (Tryz.f168.body.getD .skip)
noncomputable def cZ76_0:Code := (loopOf 0 (Tryz.f168.body.getD .skip)).getD .skip
theorem lseqZ76:lsZ76 = [(0,cZ76_0)] := by kernel_rfl
theorem mZ76_0:∀ p,p ∈ lsZ76 → p.1 = 0 → p.2 = cZ76_0 := by
 intro p hp
 rw [lseqZ76] at hp
 simp only [List.mem_cons,List.not_mem_nil,or_false] at hp
 subst hp; simp
theorem kZ76_0:OrcOk EZ76 OZ76_0 lsZ76 0 := orcOk_none
noncomputable def hZ76_0 (y0:Int) (y1:ByteArray):List (Pl×LV) := [(.T 0,.t (.val false [.int .i64 y0])),(.T 3,.t (.val false [.str y1]))]
noncomputable def g_SZ76_0:(Int×ByteArray) → RT (Int×ByteArray) ((ByteArray))
 | (y0,y1) => .br (true) (.br (decide (y0 > 0)) (.br (true) (.br (true) (.br (decide (ByteArray.size { data := List.toArray (List.map (fun n => UInt8.ofNat (Int.toNat n)) [IntKind.wrap IntKind.u8 (IntKind.i64.wrap (48 + Int.tmod y0 (10:Int)))]) } + ByteArray.size y1 ≤ nat_lit 9223372036854775807)) (.br (true) (.go ((IntKind.i64.wrap (Int.tdiv y0 (10:Int)),{ data := List.toArray (List.map (fun n => UInt8.ofNat (Int.toNat n)) [IntKind.wrap IntKind.u8 (IntKind.i64.wrap (48 + Int.tmod y0 (10:Int)))]) } ++ y1))) .bad) .bad) .bad) .bad) (.out (y1))) .bad
noncomputable def g_LZ76_0 (x:Int×ByteArray):Option ((ByteArray)) := loopO (g_SZ76_0) x
noncomputable def xZ76_0:((ByteArray)) → Ex×List (Pl×LV) := fun r => (.exit 0,[(.T 3,.t (.val false [.str r]))])
noncomputable def OZ76_1:Orc := fun b h => match b,h with
 | 0,[(.T 0,.t (.val false [.int .i64 y0])),(.T 3,.t (.val false [.str y1]))] => some (okO (g_LZ76_0 (y0,y1)),(.leaf (.exit 0) [(.T 3,.t (.val false [.str (valO (g_LZ76_0 (y0,y1)))]))]))
 | b,h => OZ76_0 b h
theorem bZ76_0 (y0:Int) (y1:ByteArray):Tr.bt EZ76 OZ76_0 (exec EZ76 0 cZ76_0 (St.of (hZ76_0 y0 y1)) (leafRd EZ76 0)) = (g_SZ76_0 (y0,y1)).bt (fun ((y0,y1):Int×ByteArray) => (hZ76_0 y0 y1)) (xZ76_0) := by kernel_rfl
theorem kZ76_1:OrcOk EZ76 OZ76_1 lsZ76 1 := orc_add kZ76_0 (fun n p hp h ex h' ho => by
 obtain ⟨b,c⟩ := p
 obtain ⟨xt,h1,h2⟩ := ho
 have h1:OZ76_1 b h = some (true,xt) := h1
 unfold OZ76_1 at h1
 split at h1
 ·injection h1 with h1
  injection h1 with e1 e2
  subst e2
  have hc:c = cZ76_0 := mZ76_0 _ hp rfl
  subst hc
  right
  rename_i y0 y1
  have key := LT_step kZ76_0 hp (fun q hq => loopsAll_in _ _ _ _ hp hq) (fun ((y0,y1):Int×ByteArray) => (hZ76_0 y0 y1)) (xZ76_0) (g_SZ76_0) (fun x => by first | exact bZ76_0 x.1 x.2) n (x := (y0,y1)) (okO_some e1)
  have hx:∀ r,XT.sel (.leaf (.exit 0) [(.T 3,.t (.val false [.str r]))]) = xZ76_0 r := fun r => by first | rfl | rcases r with r | r <;> rfl | rcases r with r | r | r <;> rfl | rcases r with r | r | r | r <;> rfl
  have h3 := (hx (valO (g_LZ76_0 (y0,y1)))).symm.trans h2
  have e3 := congrArg Prod.fst h3
  have e4 := congrArg Prod.snd h3
  simp only at e3 e4
  rw [← e3,← e4]
  exact key
 ·exact .inl ⟨xt,h1,h2⟩)
noncomputable def g_AZ76 (a0:Int):Bool := decide (a0 ≤ 0) || okO (g_LZ76_0 (a0,lit []))&&decide (nat_lit 1 + ByteArray.size (valO (g_LZ76_0 (a0,lit []))) ≤ nat_lit 9223372036854775807)
noncomputable def g_VZ76_0 (a0:Int):ByteArray := bif decide (a0 ≤ 0) then lit [(109:Nat),(48:Nat)] else lit [(109:Nat)] ++ valO (g_LZ76_0 (a0,lit []))
noncomputable def FZ76:FSem := fun ys => match ys with
 | [.val false [.int .i64 a0]] => some ((g_AZ76 a0),.val false [.str (g_VZ76_0 a0)],[])
 | _ => none
theorem vZ76 (a0:Int):collapseH .std EZ76 OZ76_1 (execFn EZ76 Tryz.f168 msZ76 [.val false [.int .i64 a0]]) = some ((g_AZ76 a0),.val false [.str (g_VZ76_0 a0)],[]) := by kernel_rfl
theorem sZ76:Sound Tryz.prog 168 msZ76 FZ76 := by
 refine fn_gen goodZ76 (by kernel_rfl) .std (fn := Tryz.f168) (c := (Tryz.f168.body.getD .skip)) (o := OZ76_1) (k := 1) (by kernel_rfl) (by kernel_rfl) (by kernel_rfl) (by kernel_rfl) (by decide) kZ76_1 ?_
 intro ys r outs h
 unfold FZ76 at h
 split at h
 ·exact (vZ76 _).trans h
 ·cases h
noncomputable def EZ25:Env where
 tt := mkTI Tryz.prog
 fn := fun f => match f with
  | 113 => some (msZ75,FSem.wk msZ75 FZ75)
  | 168 => some (msZ76,FSem.wk msZ76 FZ76)
  | _ => none
 bxf := fun _ => none
 mv := []
 keep := fun b => match b with
  | 0 => [(0,false),(1,false),(5,false)]
  | _ => []
 keepB := fun b => match b with
  | 0 => []
  | _ => []
 keepX := fun b => match b with
  | 0 => [(1,false),(4,false)]
  | _ => []
 keepXB := fun b => match b with
  | 0 => []
  | _ => []
theorem goodFZ25:∀ f ms F,EZ25.fn f = some (ms,F) → Sound Tryz.prog f ms F := fun f ms F h => by
 unfold EZ25 at h
 dsimp only at h
 split at h
 ·exact gF sZ75 h
 ·exact gF sZ76 h
 ·cases h
theorem goodZ25:Good Tryz.prog EZ25 := ⟨rfl,goodFZ25,fun f ms F h => by cases h⟩
noncomputable def OZ25_0:Orc := fun _ _ => none
noncomputable def msZ25:List PM := [.rd,.own]
noncomputable def lsZ25:List (Nat×Code) := loopsAll 0 (Tryz.f149.body.getD .skip)
noncomputable def cZ25_0:Code := (loopOf 0 (Tryz.f149.body.getD .skip)).getD .skip
theorem lseqZ25:lsZ25 = [(0,cZ25_0)] := by kernel_rfl
theorem mZ25_0:∀ p,p ∈ lsZ25 → p.1 = 0 → p.2 = cZ25_0 := by
 intro p hp
 rw [lseqZ25] at hp
 simp only [List.mem_cons,List.not_mem_nil,or_false] at hp
 subst hp; simp
theorem kZ25_0:OrcOk EZ25 OZ25_0 lsZ25 0 := orcOk_none
noncomputable def hZ25_0 (y0:tL3) (y1:Int) (y2:Int):List (Pl×LV) := [(.T 0,.t (.val false [.sl .any 155 (.pair .str (.pair .bool (.sl 3 (.int .i64)))) y0])),(.T 1,.t (.val false [.int .i64 y1])),(.T 5,.t (.val false [.int .i64 y2]))]
noncomputable def g_SZ25_0 (y0:tL3):(Int×Int) → RT (Int×Int) ((Int×Int) ⊕ (Int))
 | (y1,y2) => .br (true) (.br (decide (y2 < (y0.length:Int))) (.br (decide (0 ≤ y2 ∧ y2 < (y0.length:Int))) (.br (g_AZ76 y1) (.br (true) (.br (!ByteArray.toList (at_ yT3 y0 (Int.toNat y2)).1 == ByteArray.toList (g_VZ76_0 y1)) (.out (.inl ((y1,(-1:Int))))) (.br (true) (.br (decide (0 ≤ y2 ∧ y2 < (y0.length:Int))) (.br (true) (.br (true) (.br (!(at_ yT3 y0 (Int.toNat y2)).2.1 == (Int.tmod (IntKind.i64.wrap (y1 + 1)) (3:Int) == (0:Int))) (.out (.inl ((IntKind.i64.wrap (y1 + 1),(-1:Int))))) (.br (true) (.br (decide (0 ≤ y2 ∧ y2 < (y0.length:Int))) (.br (g_AZ75 (at_ yT3 y0 (Int.toNat y2)).2.2 (IntKind.i64.wrap (IntKind.i64.wrap (y1 + 1) + 1))) (.br (true) (.br (decide (g_VZ75_0 (at_ yT3 y0 (Int.toNat y2)).2.2 (IntKind.i64.wrap (IntKind.i64.wrap (y1 + 1) + 1)) < 0)) (.out (.inl ((g_VZ75_0 (at_ yT3 y0 (Int.toNat y2)).2.2 (IntKind.i64.wrap (IntKind.i64.wrap (y1 + 1) + 1)),(-1:Int))))) (.br (true) (.go ((g_VZ75_0 (at_ yT3 y0 (Int.toNat y2)).2.2 (IntKind.i64.wrap (IntKind.i64.wrap (y1 + 1) + 1)),IntKind.i64.wrap (y2 + 1)))) .bad)) .bad) .bad) .bad) .bad)) .bad) .bad) .bad) .bad)) .bad) .bad) .bad) (.out (.inr (y1)))) .bad
noncomputable def g_LZ25_0 (y0:tL3) (x:Int×Int):Option ((Int×Int) ⊕ (Int)) := loopO (g_SZ25_0 y0) x
noncomputable def xZ25_0 (y0:tL3):((Int×Int) ⊕ (Int)) → Ex×List (Pl×LV) := fun
 | .inl r => (.ret,[(.T 1,.t (.val false [.int .i64 r.1])),(.T 4,.t (.val false [.int .i64 r.2]))])
 | .inr (r) => (.exit 0,[(.T 1,.t (.val false [.int .i64 r])),(.T 4,.t (.val false [.undef]))])
noncomputable def OZ25_1:Orc := fun b h => match b,h with
 | 0,[(.T 0,.t (.val false [.sl .any 155 (.pair .str (.pair .bool (.sl 3 (.int .i64)))) y0])),(.T 1,.t (.val false [.int .i64 y1])),(.T 5,.t (.val false [.int .i64 y2]))] => some (okO (g_LZ25_0 y0 (y1,y2)),(.br (isL (valO (g_LZ25_0 y0 (y1,y2)))) (.leaf .ret [(.T 1,.t (.val false [.int .i64 (getL (valO (g_LZ25_0 y0 (y1,y2)))).1])),(.T 4,.t (.val false [.int .i64 (getL (valO (g_LZ25_0 y0 (y1,y2)))).2]))]) (.leaf (.exit 0) [(.T 1,.t (.val false [.int .i64 (getR (valO (g_LZ25_0 y0 (y1,y2))))])),(.T 4,.t (.val false [.undef]))])))
 | b,h => OZ25_0 b h
theorem bZ25_0 (y0:tL3) (y1:Int) (y2:Int):Tr.bt EZ25 OZ25_0 (exec EZ25 0 cZ25_0 (St.of (hZ25_0 y0 y1 y2)) (leafRd EZ25 0)) = (g_SZ25_0 y0 (y1,y2)).bt (fun ((y1,y2):Int×Int) => (hZ25_0 y0 y1 y2)) (xZ25_0 y0) := by kernel_rfl
theorem kZ25_1:OrcOk EZ25 OZ25_1 lsZ25 1 := orc_add kZ25_0 (fun n p hp h ex h' ho => by
 obtain ⟨b,c⟩ := p
 obtain ⟨xt,h1,h2⟩ := ho
 have h1:OZ25_1 b h = some (true,xt) := h1
 unfold OZ25_1 at h1
 split at h1
 ·injection h1 with h1
  injection h1 with e1 e2
  subst e2
  have hc:c = cZ25_0 := mZ25_0 _ hp rfl
  subst hc
  right
  rename_i y0 y1 y2
  have key := LT_step kZ25_0 hp (fun q hq => loopsAll_in _ _ _ _ hp hq) (fun ((y1,y2):Int×Int) => (hZ25_0 y0 y1 y2)) (xZ25_0 y0) (g_SZ25_0 y0) (fun x => by first | exact bZ25_0 y0 x.1 x.2) n (x := (y1,y2)) (okO_some e1)
  have hx:∀ r,XT.sel (.br (isL r) (.leaf .ret [(.T 1,.t (.val false [.int .i64 (getL r).1])),(.T 4,.t (.val false [.int .i64 (getL r).2]))]) (.leaf (.exit 0) [(.T 1,.t (.val false [.int .i64 (getR r)])),(.T 4,.t (.val false [.undef]))])) = xZ25_0 y0 r := fun r => by first | rfl | rcases r with r | r <;> rfl | rcases r with r | r | r <;> rfl | rcases r with r | r | r | r <;> rfl
  have h3 := (hx (valO (g_LZ25_0 y0 (y1,y2)))).symm.trans h2
  have e3 := congrArg Prod.fst h3
  have e4 := congrArg Prod.snd h3
  simp only at e3 e4
  rw [← e3,← e4]
  exact key
 ·exact .inl ⟨xt,h1,h2⟩)
noncomputable def g_AZ25 (a0:tL3) (a1:Int):Bool := okO (g_LZ25_0 a0 (a1,(0:Int)))
noncomputable def g_VZ25_0 (a0:tL3) (a1:Int):Int := bif isL (valO (g_LZ25_0 a0 (a1,(0:Int)))) then (getL (valO (g_LZ25_0 a0 (a1,(0:Int))))).2 else getR (valO (g_LZ25_0 a0 (a1,(0:Int))))
noncomputable def FZ25:FSem := fun ys => match ys with
 | [.val false [.sl .any 155 (.pair .str (.pair .bool (.sl 3 (.int .i64)))) a0],.val false [.int .i64 a1]] => some ((g_AZ25 a0 a1),.val false [.int .i64 (g_VZ25_0 a0 a1)],[])
 | _ => none
theorem vZ25 (a0:tL3) (a1:Int):collapseH .std EZ25 OZ25_1 (execFn EZ25 Tryz.f149 msZ25 [.val false [.sl .any 155 (.pair .str (.pair .bool (.sl 3 (.int .i64)))) a0],.val false [.int .i64 a1]]) = some ((g_AZ25 a0 a1),.val false [.int .i64 (g_VZ25_0 a0 a1)],[]) := by kernel_rfl
theorem sZ25:Sound Tryz.prog 149 msZ25 FZ25 := by
 refine fn_gen goodZ25 (by kernel_rfl) .std (fn := Tryz.f149) (c := (Tryz.f149.body.getD .skip)) (o := OZ25_1) (k := 1) (by kernel_rfl) (by kernel_rfl) (by kernel_rfl) (by kernel_rfl) (by decide) kZ25_1 ?_
 intro ys r outs h
 unfold FZ25 at h
 split at h
 ·exact (vZ25 _ _).trans h
 ·cases h
noncomputable def EZ32:Env where
 tt := mkTI Tryz.prog
 fn := fun f => match f with
  | 168 => some (msZ76,FSem.wk msZ76 FZ76)
  | _ => none
 bxf := fun _ => none
 mv := []
 keep := fun b => match b with
  | 0 => [(0,false),(1,false),(5,false)]
  | _ => []
 keepB := fun b => match b with
  | 0 => []
  | _ => []
 keepX := fun b => match b with
  | 0 => [(1,false),(4,false)]
  | _ => []
 keepXB := fun b => match b with
  | 0 => []
  | _ => []
theorem goodFZ32:∀ f ms F,EZ32.fn f = some (ms,F) → Sound Tryz.prog f ms F := fun f ms F h => by
 unfold EZ32 at h
 dsimp only at h
 split at h
 ·exact gF sZ76 h
 ·cases h
theorem goodZ32:Good Tryz.prog EZ32 := ⟨rfl,goodFZ32,fun f ms F h => by cases h⟩
noncomputable def OZ32_0:Orc := fun _ _ => none
noncomputable def msZ32:List PM := [.rd,.own]
noncomputable def lsZ32:List (Nat×Code) := loopsAll 0 (Tryz.f148.body.getD .skip)
noncomputable def cZ32_0:Code := (loopOf 0 (Tryz.f148.body.getD .skip)).getD .skip
theorem lseqZ32:lsZ32 = [(0,cZ32_0)] := by kernel_rfl
theorem mZ32_0:∀ p,p ∈ lsZ32 → p.1 = 0 → p.2 = cZ32_0 := by
 intro p hp
 rw [lseqZ32] at hp
 simp only [List.mem_cons,List.not_mem_nil,or_false] at hp
 subst hp; simp
theorem kZ32_0:OrcOk EZ32 OZ32_0 lsZ32 0 := orcOk_none
noncomputable def hZ32_0 (y0:List ByteArray) (y1:Int) (y2:Int):List (Pl×LV) := [(.T 0,.t (.val false [.sl .any 9 .str y0])),(.T 1,.t (.val false [.int .i64 y1])),(.T 5,.t (.val false [.int .i64 y2]))]
noncomputable def g_SZ32_0 (y0:List ByteArray):(Int×Int) → RT (Int×Int) ((Int×Int) ⊕ (Int))
 | (y1,y2) => .br (true) (.br (decide (y2 < (y0.length:Int))) (.br (decide (0 ≤ y2 ∧ y2 < (y0.length:Int))) (.br (g_AZ76 y1) (.br (true) (.br (!ByteArray.toList (at_ Ty.str y0 (Int.toNat y2)) == ByteArray.toList (g_VZ76_0 y1)) (.out (.inl ((y1,(-1:Int))))) (.br (true) (.br (true) (.go ((IntKind.i64.wrap (y1 + 1),IntKind.i64.wrap (y2 + 1)))) .bad) .bad)) .bad) .bad) .bad) (.out (.inr (y1)))) .bad
noncomputable def g_LZ32_0 (y0:List ByteArray) (x:Int×Int):Option ((Int×Int) ⊕ (Int)) := loopO (g_SZ32_0 y0) x
noncomputable def xZ32_0 (y0:List ByteArray):((Int×Int) ⊕ (Int)) → Ex×List (Pl×LV) := fun
 | .inl r => (.ret,[(.T 1,.t (.val false [.int .i64 r.1])),(.T 4,.t (.val false [.int .i64 r.2]))])
 | .inr (r) => (.exit 0,[(.T 1,.t (.val false [.int .i64 r])),(.T 4,.t (.val false [.undef]))])
noncomputable def OZ32_1:Orc := fun b h => match b,h with
 | 0,[(.T 0,.t (.val false [.sl .any 9 .str y0])),(.T 1,.t (.val false [.int .i64 y1])),(.T 5,.t (.val false [.int .i64 y2]))] => some (okO (g_LZ32_0 y0 (y1,y2)),(.br (isL (valO (g_LZ32_0 y0 (y1,y2)))) (.leaf .ret [(.T 1,.t (.val false [.int .i64 (getL (valO (g_LZ32_0 y0 (y1,y2)))).1])),(.T 4,.t (.val false [.int .i64 (getL (valO (g_LZ32_0 y0 (y1,y2)))).2]))]) (.leaf (.exit 0) [(.T 1,.t (.val false [.int .i64 (getR (valO (g_LZ32_0 y0 (y1,y2))))])),(.T 4,.t (.val false [.undef]))])))
 | b,h => OZ32_0 b h
theorem bZ32_0 (y0:List ByteArray) (y1:Int) (y2:Int):Tr.bt EZ32 OZ32_0 (exec EZ32 0 cZ32_0 (St.of (hZ32_0 y0 y1 y2)) (leafRd EZ32 0)) = (g_SZ32_0 y0 (y1,y2)).bt (fun ((y1,y2):Int×Int) => (hZ32_0 y0 y1 y2)) (xZ32_0 y0) := by kernel_rfl
theorem kZ32_1:OrcOk EZ32 OZ32_1 lsZ32 1 := orc_add kZ32_0 (fun n p hp h ex h' ho => by
 obtain ⟨b,c⟩ := p
 obtain ⟨xt,h1,h2⟩ := ho
 have h1:OZ32_1 b h = some (true,xt) := h1
 unfold OZ32_1 at h1
 split at h1
 ·injection h1 with h1
  injection h1 with e1 e2
  subst e2
  have hc:c = cZ32_0 := mZ32_0 _ hp rfl
  subst hc
  right
  rename_i y0 y1 y2
  have key := LT_step kZ32_0 hp (fun q hq => loopsAll_in _ _ _ _ hp hq) (fun ((y1,y2):Int×Int) => (hZ32_0 y0 y1 y2)) (xZ32_0 y0) (g_SZ32_0 y0) (fun x => by first | exact bZ32_0 y0 x.1 x.2) n (x := (y1,y2)) (okO_some e1)
  have hx:∀ r,XT.sel (.br (isL r) (.leaf .ret [(.T 1,.t (.val false [.int .i64 (getL r).1])),(.T 4,.t (.val false [.int .i64 (getL r).2]))]) (.leaf (.exit 0) [(.T 1,.t (.val false [.int .i64 (getR r)])),(.T 4,.t (.val false [.undef]))])) = xZ32_0 y0 r := fun r => by first | rfl | rcases r with r | r <;> rfl | rcases r with r | r | r <;> rfl | rcases r with r | r | r | r <;> rfl
  have h3 := (hx (valO (g_LZ32_0 y0 (y1,y2)))).symm.trans h2
  have e3 := congrArg Prod.fst h3
  have e4 := congrArg Prod.snd h3
  simp only at e3 e4
  rw [← e3,← e4]
  exact key
 ·exact .inl ⟨xt,h1,h2⟩)
noncomputable def g_AZ32 (a0:List ByteArray) (a1:Int):Bool := okO (g_LZ32_0 a0 (a1,(0:Int)))
noncomputable def g_VZ32_0 (a0:List ByteArray) (a1:Int):Int := bif isL (valO (g_LZ32_0 a0 (a1,(0:Int)))) then (getL (valO (g_LZ32_0 a0 (a1,(0:Int))))).2 else getR (valO (g_LZ32_0 a0 (a1,(0:Int))))
noncomputable def FZ32:FSem := fun ys => match ys with
 | [.val false [.sl .any 9 .str a0],.val false [.int .i64 a1]] => some ((g_AZ32 a0 a1),.val false [.int .i64 (g_VZ32_0 a0 a1)],[])
 | _ => none
theorem vZ32 (a0:List ByteArray) (a1:Int):collapseH .std EZ32 OZ32_1 (execFn EZ32 Tryz.f148 msZ32 [.val false [.sl .any 9 .str a0],.val false [.int .i64 a1]]) = some ((g_AZ32 a0 a1),.val false [.int .i64 (g_VZ32_0 a0 a1)],[]) := by kernel_rfl
theorem sZ32:Sound Tryz.prog 148 msZ32 FZ32 := by
 refine fn_gen goodZ32 (by kernel_rfl) .std (fn := Tryz.f148) (c := (Tryz.f148.body.getD .skip)) (o := OZ32_1) (k := 1) (by kernel_rfl) (by kernel_rfl) (by kernel_rfl) (by kernel_rfl) (by decide) kZ32_1 ?_
 intro ys r outs h
 unfold FZ32 at h
 split at h
 ·exact (vZ32 _ _).trans h
 ·cases h
noncomputable def EZ27:Env where
 tt := mkTI Tryz.prog
 fn := fun f => match f with
  | 148 => some (msZ32,FSem.wk msZ32 FZ32)
  | 149 => some (msZ25,FSem.wk msZ25 FZ25)
  | _ => none
 bxf := fun _ => none
 mv := []
 keep := fun b => match b with
  | 0 => [(0,false),(1,false),(5,false)]
  | _ => []
 keepB := fun b => match b with
  | 0 => []
  | _ => []
 keepX := fun b => match b with
  | 0 => [(1,false),(4,false)]
  | _ => []
 keepXB := fun b => match b with
  | 0 => []
  | _ => []
theorem goodFZ27:∀ f ms F,EZ27.fn f = some (ms,F) → Sound Tryz.prog f ms F := fun f ms F h => by
 unfold EZ27 at h
 dsimp only at h
 split at h
 ·exact gF sZ32 h
 ·exact gF sZ25 h
 ·cases h
theorem goodZ27:Good Tryz.prog EZ27 := ⟨rfl,goodFZ27,fun f ms F h => by cases h⟩
noncomputable def OZ27_0:Orc := fun _ _ => none
noncomputable def msZ27:List PM := [.rd,.own]
noncomputable def lsZ27:List (Nat×Code) := loopsAll 0 (Tryz.f112.body.getD .skip)
noncomputable def cZ27_0:Code := (loopOf 0 (Tryz.f112.body.getD .skip)).getD .skip
theorem lseqZ27:lsZ27 = [(0,cZ27_0)] := by kernel_rfl
theorem mZ27_0:∀ p,p ∈ lsZ27 → p.1 = 0 → p.2 = cZ27_0 := by
 intro p hp
 rw [lseqZ27] at hp
 simp only [List.mem_cons,List.not_mem_nil,or_false] at hp
 subst hp; simp
theorem kZ27_0:OrcOk EZ27 OZ27_0 lsZ27 0 := orcOk_none
noncomputable def hZ27_0 (y0:tL1) (y1:Int) (y2:Int):List (Pl×LV) := [(.T 0,.t (.val false [.sl .any 92 (.pair (.int .i64) (.pair (.int .i64) (.pair (.sl 9 .str) (.sl 155 (.pair .str (.pair .bool (.sl 3 (.int .i64)))))))) y0])),(.T 1,.t (.val false [.int .i64 y1])),(.T 5,.t (.val false [.int .i64 y2]))]
noncomputable def g_SZ27_0 (y0:tL1):(Int×Int) → RT (Int×Int) ((Int×Int) ⊕ (Int))
 | (y1,y2) => .br (true) (.br (decide (y2 < (y0.length:Int))) (.br (decide (0 ≤ y2 ∧ y2 < (y0.length:Int))) (.br (true) (.br ((at_ yT1 y0 (Int.toNat y2)).1 != y1) (.out (.inl ((y1,(-1:Int))))) (.br (true) (.br (decide (0 ≤ y2 ∧ y2 < (y0.length:Int))) (.br (true) (.br ((at_ yT1 y0 (Int.toNat y2)).2.1 != IntKind.i64.wrap (y1 + 1)) (.out (.inl ((IntKind.i64.wrap (y1 + 1),(-1:Int))))) (.br (true) (.br (decide (0 ≤ y2 ∧ y2 < (y0.length:Int))) (.br (g_AZ32 (at_ yT1 y0 (Int.toNat y2)).2.2.1 (IntKind.i64.wrap (IntKind.i64.wrap (y1 + 1) + 1))) (.br (true) (.br (decide (g_VZ32_0 (at_ yT1 y0 (Int.toNat y2)).2.2.1 (IntKind.i64.wrap (IntKind.i64.wrap (y1 + 1) + 1)) < 0)) (.out (.inl ((g_VZ32_0 (at_ yT1 y0 (Int.toNat y2)).2.2.1 (IntKind.i64.wrap (IntKind.i64.wrap (y1 + 1) + 1)),(-1:Int))))) (.br (decide (0 ≤ y2 ∧ y2 < (y0.length:Int))) (.br (g_AZ25 (at_ yT1 y0 (Int.toNat y2)).2.2.2 (g_VZ32_0 (at_ yT1 y0 (Int.toNat y2)).2.2.1 (IntKind.i64.wrap (IntKind.i64.wrap (y1 + 1) + 1)))) (.br (true) (.br (decide (g_VZ25_0 (at_ yT1 y0 (Int.toNat y2)).2.2.2 (g_VZ32_0 (at_ yT1 y0 (Int.toNat y2)).2.2.1 (IntKind.i64.wrap (IntKind.i64.wrap (y1 + 1) + 1))) < 0)) (.out (.inl ((g_VZ25_0 (at_ yT1 y0 (Int.toNat y2)).2.2.2 (g_VZ32_0 (at_ yT1 y0 (Int.toNat y2)).2.2.1 (IntKind.i64.wrap (IntKind.i64.wrap (y1 + 1) + 1))),(-1:Int))))) (.br (true) (.go ((g_VZ25_0 (at_ yT1 y0 (Int.toNat y2)).2.2.2 (g_VZ32_0 (at_ yT1 y0 (Int.toNat y2)).2.2.1 (IntKind.i64.wrap (IntKind.i64.wrap (y1 + 1) + 1))),IntKind.i64.wrap (y2 + 1)))) .bad)) .bad) .bad) .bad)) .bad) .bad) .bad) .bad)) .bad) .bad) .bad)) .bad) .bad) (.out (.inr (y1)))) .bad
noncomputable def g_LZ27_0 (y0:tL1) (x:Int×Int):Option ((Int×Int) ⊕ (Int)) := loopO (g_SZ27_0 y0) x
noncomputable def xZ27_0 (y0:tL1):((Int×Int) ⊕ (Int)) → Ex×List (Pl×LV) := fun
 | .inl r => (.ret,[(.T 1,.t (.val false [.int .i64 r.1])),(.T 4,.t (.val false [.int .i64 r.2]))])
 | .inr (r) => (.exit 0,[(.T 1,.t (.val false [.int .i64 r])),(.T 4,.t (.val false [.undef]))])
noncomputable def OZ27_1:Orc := fun b h => match b,h with
 | 0,[(.T 0,.t (.val false [.sl .any 92 (.pair (.int .i64) (.pair (.int .i64) (.pair (.sl 9 .str) (.sl 155 (.pair .str (.pair .bool (.sl 3 (.int .i64)))))))) y0])),(.T 1,.t (.val false [.int .i64 y1])),(.T 5,.t (.val false [.int .i64 y2]))] => some (okO (g_LZ27_0 y0 (y1,y2)),(.br (isL (valO (g_LZ27_0 y0 (y1,y2)))) (.leaf .ret [(.T 1,.t (.val false [.int .i64 (getL (valO (g_LZ27_0 y0 (y1,y2)))).1])),(.T 4,.t (.val false [.int .i64 (getL (valO (g_LZ27_0 y0 (y1,y2)))).2]))]) (.leaf (.exit 0) [(.T 1,.t (.val false [.int .i64 (getR (valO (g_LZ27_0 y0 (y1,y2))))])),(.T 4,.t (.val false [.undef]))])))
 | b,h => OZ27_0 b h
theorem bZ27_0 (y0:tL1) (y1:Int) (y2:Int):Tr.bt EZ27 OZ27_0 (exec EZ27 0 cZ27_0 (St.of (hZ27_0 y0 y1 y2)) (leafRd EZ27 0)) = (g_SZ27_0 y0 (y1,y2)).bt (fun ((y1,y2):Int×Int) => (hZ27_0 y0 y1 y2)) (xZ27_0 y0) := by kernel_rfl
theorem kZ27_1:OrcOk EZ27 OZ27_1 lsZ27 1 := orc_add kZ27_0 (fun n p hp h ex h' ho => by
 obtain ⟨b,c⟩ := p
 obtain ⟨xt,h1,h2⟩ := ho
 have h1:OZ27_1 b h = some (true,xt) := h1
 unfold OZ27_1 at h1
 split at h1
 ·injection h1 with h1
  injection h1 with e1 e2
  subst e2
  have hc:c = cZ27_0 := mZ27_0 _ hp rfl
  subst hc
  right
  rename_i y0 y1 y2
  have key := LT_step kZ27_0 hp (fun q hq => loopsAll_in _ _ _ _ hp hq) (fun ((y1,y2):Int×Int) => (hZ27_0 y0 y1 y2)) (xZ27_0 y0) (g_SZ27_0 y0) (fun x => by first | exact bZ27_0 y0 x.1 x.2) n (x := (y1,y2)) (okO_some e1)
  have hx:∀ r,XT.sel (.br (isL r) (.leaf .ret [(.T 1,.t (.val false [.int .i64 (getL r).1])),(.T 4,.t (.val false [.int .i64 (getL r).2]))]) (.leaf (.exit 0) [(.T 1,.t (.val false [.int .i64 (getR r)])),(.T 4,.t (.val false [.undef]))])) = xZ27_0 y0 r := fun r => by first | rfl | rcases r with r | r <;> rfl | rcases r with r | r | r <;> rfl | rcases r with r | r | r | r <;> rfl
  have h3 := (hx (valO (g_LZ27_0 y0 (y1,y2)))).symm.trans h2
  have e3 := congrArg Prod.fst h3
  have e4 := congrArg Prod.snd h3
  simp only at e3 e4
  rw [← e3,← e4]
  exact key
 ·exact .inl ⟨xt,h1,h2⟩)
noncomputable def g_AZ27 (a0:tL1) (a1:Int):Bool := okO (g_LZ27_0 a0 (a1,(0:Int)))
noncomputable def g_VZ27_0 (a0:tL1) (a1:Int):Int := bif isL (valO (g_LZ27_0 a0 (a1,(0:Int)))) then (getL (valO (g_LZ27_0 a0 (a1,(0:Int))))).2 else getR (valO (g_LZ27_0 a0 (a1,(0:Int))))
noncomputable def FZ27:FSem := fun ys => match ys with
 | [.val false [.sl .any 92 (.pair (.int .i64) (.pair (.int .i64) (.pair (.sl 9 .str) (.sl 155 (.pair .str (.pair .bool (.sl 3 (.int .i64)))))))) a0],.val false [.int .i64 a1]] => some ((g_AZ27 a0 a1),.val false [.int .i64 (g_VZ27_0 a0 a1)],[])
 | _ => none
theorem vZ27 (a0:tL1) (a1:Int):collapseH .std EZ27 OZ27_1 (execFn EZ27 Tryz.f112 msZ27 [.val false [.sl .any 92 (.pair (.int .i64) (.pair (.int .i64) (.pair (.sl 9 .str) (.sl 155 (.pair .str (.pair .bool (.sl 3 (.int .i64)))))))) a0],.val false [.int .i64 a1]]) = some ((g_AZ27 a0 a1),.val false [.int .i64 (g_VZ27_0 a0 a1)],[]) := by kernel_rfl
theorem sZ27:Sound Tryz.prog 112 msZ27 FZ27 := by
 refine fn_gen goodZ27 (by kernel_rfl) .std (fn := Tryz.f112) (c := (Tryz.f112.body.getD .skip)) (o := OZ27_1) (k := 1) (by kernel_rfl) (by kernel_rfl) (by kernel_rfl) (by kernel_rfl) (by decide) kZ27_1 ?_
 intro ys r outs h
 unfold FZ27 at h
 split at h
 ·exact (vZ27 _ _).trans h
 ·cases h
noncomputable def EZ33:Env where
 tt := mkTI Tryz.prog
 fn := fun f => match f with
  | 112 => some (msZ27,FSem.wk msZ27 FZ27)
  | _ => none
 bxf := fun _ => none
 mv := []
 keep := fun _ => []
 keepB := fun _ => []
 keepX := fun _ => []
 keepXB := fun _ => []
theorem goodFZ33:∀ f ms F,EZ33.fn f = some (ms,F) → Sound Tryz.prog f ms F := fun f ms F h => by
 unfold EZ33 at h
 dsimp only at h
 split at h
 ·exact gF sZ27 h
 ·cases h
theorem goodZ33:Good Tryz.prog EZ33 := ⟨rfl,goodFZ33,fun f ms F h => by cases h⟩
noncomputable def OZ33_0:Orc := fun _ _ => none
noncomputable def msZ33:List PM := [.rd,.own]
noncomputable def lsZ33:List (Nat×Code) := loopsAll 0 (Tryz.f53.body.getD .skip)
theorem kZ33_0:OrcOk EZ33 OZ33_0 lsZ33 0 := orcOk_none
noncomputable def g_AZ33 (a0:tL1) (a1:Int) (a2:Int):Bool := g_AZ27 a0 a2&&true
noncomputable def g_VZ33_0 (a0:tL1) (a1:Int) (a2:Int):Int := bif decide (g_VZ27_0 a0 a2 < 0) then (-1:Int) else g_VZ27_0 a0 a2
noncomputable def FZ33:FSem := fun ys => match ys with
 | [.val true [.sl .any 92 (.pair (.int .i64) (.pair (.int .i64) (.pair (.sl 9 .str) (.sl 155 (.pair .str (.pair .bool (.sl 3 (.int .i64)))))))) a0,.int .i64 a1],.val false [.int .i64 a2]] => some ((g_AZ33 a0 a1 a2),.val false [.int .i64 (g_VZ33_0 a0 a1 a2)],[])
 | _ => none
theorem vZ33 (a0:tL1) (a1:Int) (a2:Int):collapseH .std EZ33 OZ33_0 (execFn EZ33 Tryz.f53 msZ33 [.val true [.sl .any 92 (.pair (.int .i64) (.pair (.int .i64) (.pair (.sl 9 .str) (.sl 155 (.pair .str (.pair .bool (.sl 3 (.int .i64)))))))) a0,.int .i64 a1],.val false [.int .i64 a2]]) = some ((g_AZ33 a0 a1 a2),.val false [.int .i64 (g_VZ33_0 a0 a1 a2)],[]) := by kernel_rfl
theorem sZ33:Sound Tryz.prog 53 msZ33 FZ33 := by
 refine fn_gen goodZ33 (by kernel_rfl) .std (fn := Tryz.f53) (c := (Tryz.f53.body.getD .skip)) (o := OZ33_0) (k := 0) (by kernel_rfl) (by kernel_rfl) (by kernel_rfl) (by kernel_rfl) (by decide) kZ33_0 ?_
 intro ys r outs h
 unfold FZ33 at h
 split at h
 ·exact (vZ33 _ _ _).trans h
 ·cases h
noncomputable def EZ28:Env where
 tt := mkTI Tryz.prog
 fn := fun f => match f with
  | 53 => some (msZ33,FSem.wk msZ33 FZ33)
  | 54 => some (msZ45,FSem.wk msZ45 FZ45)
  | _ => none
 bxf := fun _ => none
 mv := []
 keep := fun _ => []
 keepB := fun _ => []
 keepX := fun _ => []
 keepXB := fun _ => []
theorem goodFZ28:∀ f ms F,EZ28.fn f = some (ms,F) → Sound Tryz.prog f ms F := fun f ms F h => by
 unfold EZ28 at h
 dsimp only at h
 split at h
 ·exact gF sZ33 h
 ·exact gF sZ45 h
 ·cases h
theorem goodZ28:Good Tryz.prog EZ28 := ⟨rfl,goodFZ28,fun f ms F h => by cases h⟩
noncomputable def OZ28_0:Orc := fun _ _ => none
noncomputable def msZ28:List PM := [.rd,.own]
noncomputable def lsZ28:List (Nat×Code) := loopsAll 0 (Tryz.f18.body.getD .skip)
theorem kZ28_0:OrcOk EZ28 OZ28_0 lsZ28 0 := orcOk_none
noncomputable def g_AZ28 (a0:tL1) (a1:Int) (a2:tL0) (a3:Int):Bool := g_AZ33 a0 a1 a3&&(decide (g_VZ33_0 a0 a1 a3 < 0) || g_AZ45 a2 (g_VZ33_0 a0 a1 a3)&&true)
noncomputable def g_VZ28_0 (a0:tL1) (a1:Int) (a2:tL0) (a3:Int):Int := bif decide (g_VZ33_0 a0 a1 a3 < 0) then (-1:Int) else bif decide (g_VZ45_0 a2 (g_VZ33_0 a0 a1 a3) < 0) then (-1:Int) else g_VZ45_0 a2 (g_VZ33_0 a0 a1 a3)
noncomputable def FZ28:FSem := fun ys => match ys with
 | [.val true [.sl .any 92 (.pair (.int .i64) (.pair (.int .i64) (.pair (.sl 9 .str) (.sl 155 (.pair .str (.pair .bool (.sl 3 (.int .i64)))))))) a0,.int .i64 a1,.sl .any 73 (.pair (.int .i64) (.pair (.pair (.int .i64) (.pair (.int .i64) (.pair (.int .i64) (.pair (.int .i64) (.pair (.int .i64) (.pair (.int .i64) (.int .i64))))))) (.pair .bool (.pair (.sl 3 (.int .i64)) (.sl 3 (.int .i64)))))) a2],.val false [.int .i64 a3]] => some ((g_AZ28 a0 a1 a2 a3),.val false [.int .i64 (g_VZ28_0 a0 a1 a2 a3)],[])
 | _ => none
theorem vZ28 (a0:tL1) (a1:Int) (a2:tL0) (a3:Int):collapseH .std EZ28 OZ28_0 (execFn EZ28 Tryz.f18 msZ28 [.val true [.sl .any 92 (.pair (.int .i64) (.pair (.int .i64) (.pair (.sl 9 .str) (.sl 155 (.pair .str (.pair .bool (.sl 3 (.int .i64)))))))) a0,.int .i64 a1,.sl .any 73 (.pair (.int .i64) (.pair (.pair (.int .i64) (.pair (.int .i64) (.pair (.int .i64) (.pair (.int .i64) (.pair (.int .i64) (.pair (.int .i64) (.int .i64))))))) (.pair .bool (.pair (.sl 3 (.int .i64)) (.sl 3 (.int .i64)))))) a2],.val false [.int .i64 a3]]) = some ((g_AZ28 a0 a1 a2 a3),.val false [.int .i64 (g_VZ28_0 a0 a1 a2 a3)],[]) := by kernel_rfl
theorem sZ28:Sound Tryz.prog 18 msZ28 FZ28 := by
 refine fn_gen goodZ28 (by kernel_rfl) .std (fn := Tryz.f18) (c := (Tryz.f18.body.getD .skip)) (o := OZ28_0) (k := 0) (by kernel_rfl) (by kernel_rfl) (by kernel_rfl) (by kernel_rfl) (by decide) kZ28_0 ?_
 intro ys r outs h
 unfold FZ28 at h
 split at h
 ·exact (vZ28 _ _ _ _).trans h
 ·cases h
noncomputable def EZ34:Env where
 tt := mkTI Tryz.prog
 fn := fun _ => none
 bxf := fun _ => none
 mv := []
 keep := fun b => match b with
  | 0 => [(0,false),(1,false),(5,false)]
  | _ => []
 keepB := fun b => match b with
  | 0 => []
  | _ => []
 keepX := fun b => match b with
  | 0 => [(1,false),(4,false)]
  | _ => []
 keepXB := fun b => match b with
  | 0 => []
  | _ => []
theorem goodFZ34:∀ f ms F,EZ34.fn f = some (ms,F) → Sound Tryz.prog f ms F := fun f ms F h => by cases h
theorem goodZ34:Good Tryz.prog EZ34 := ⟨rfl,goodFZ34,fun f ms F h => by cases h⟩
noncomputable def OZ34_0:Orc := fun _ _ => none
noncomputable def msZ34:List PM := [.rd,.own]
noncomputable def lsZ34:List (Nat×Code) := loopsAll 0 (Tryz.f15.body.getD .skip)
noncomputable def cZ34_0:Code := (loopOf 0 (Tryz.f15.body.getD .skip)).getD .skip
theorem lseqZ34:lsZ34 = [(0,cZ34_0)] := by kernel_rfl
theorem mZ34_0:∀ p,p ∈ lsZ34 → p.1 = 0 → p.2 = cZ34_0 := by
 intro p hp
 rw [lseqZ34] at hp
 simp only [List.mem_cons,List.not_mem_nil,or_false] at hp
 subst hp; simp
theorem kZ34_0:OrcOk EZ34 OZ34_0 lsZ34 0 := orcOk_none
noncomputable def hZ34_0 (y0:tL2) (y1:Int) (y2:Int):List (Pl×LV) := [(.T 0,.t (.val false [.sl .any 83 (.pair (.int .i64) (.pair (.int .i64) (.pair (.int .i64) (.pair (.int .i64) (.pair (.int .i64) (.pair (.int .i64) (.pair (.int .i64) (.pair (.int .i64) (.pair (.int .i64) (.pair (.int .i64) (.int .i64))))))))))) y0])),(.T 1,.t (.val false [.int .i64 y1])),(.T 5,.t (.val false [.int .i64 y2]))]
noncomputable def g_SZ34_0 (y0:tL2):(Int×Int) → RT (Int×Int) ((Int×Int) ⊕ (Int))
 | (y1,y2) => .br (true) (.br (decide (y2 < (y0.length:Int))) (.br (decide (0 ≤ y2 ∧ y2 < (y0.length:Int))) (.br (true) (.br ((at_ yT2 y0 (Int.toNat y2)).1 != y1) (.out (.inl ((y1,(-1:Int))))) (.br (true) (.br (decide (0 ≤ y2 ∧ y2 < (y0.length:Int))) (.br (true) (.br ((at_ yT2 y0 (Int.toNat y2)).2.1 != IntKind.i64.wrap (y1 + 1)) (.out (.inl ((IntKind.i64.wrap (y1 + 1),(-1:Int))))) (.br (true) (.br (decide (0 ≤ y2 ∧ y2 < (y0.length:Int))) (.br (true) (.br ((at_ yT2 y0 (Int.toNat y2)).2.2.1 != IntKind.i64.wrap (IntKind.i64.wrap (y1 + 1) + 1)) (.out (.inl ((IntKind.i64.wrap (IntKind.i64.wrap (y1 + 1) + 1),(-1:Int))))) (.br (true) (.br (decide (0 ≤ y2 ∧ y2 < (y0.length:Int))) (.br (true) (.br ((at_ yT2 y0 (Int.toNat y2)).2.2.2.1 != IntKind.i64.wrap (IntKind.i64.wrap (IntKind.i64.wrap (y1 + 1) + 1) + 1)) (.out (.inl ((IntKind.i64.wrap (IntKind.i64.wrap (IntKind.i64.wrap (y1 + 1) + 1) + 1),(-1:Int))))) (.br (true) (.br (decide (0 ≤ y2 ∧ y2 < (y0.length:Int))) (.br (true) (.br ((at_ yT2 y0 (Int.toNat y2)).2.2.2.2.1 != IntKind.i64.wrap (IntKind.i64.wrap (IntKind.i64.wrap (IntKind.i64.wrap (y1 + 1) + 1) + 1) + 1)) (.out (.inl ((IntKind.i64.wrap (IntKind.i64.wrap (IntKind.i64.wrap (IntKind.i64.wrap (y1 + 1) + 1) + 1) + 1),(-1:Int))))) (.br (true) (.br (decide (0 ≤ y2 ∧ y2 < (y0.length:Int))) (.br (true) (.br ((at_ yT2 y0 (Int.toNat y2)).2.2.2.2.2.1 != IntKind.i64.wrap (IntKind.i64.wrap (IntKind.i64.wrap (IntKind.i64.wrap (IntKind.i64.wrap (y1 + 1) + 1) + 1) + 1) + 1)) (.out (.inl ((IntKind.i64.wrap (IntKind.i64.wrap (IntKind.i64.wrap (IntKind.i64.wrap (IntKind.i64.wrap (y1 + 1) + 1) + 1) + 1) + 1),(-1:Int))))) (.br (true) (.br (decide (0 ≤ y2 ∧ y2 < (y0.length:Int))) (.br (true) (.br ((at_ yT2 y0 (Int.toNat y2)).2.2.2.2.2.2.1 != IntKind.i64.wrap (IntKind.i64.wrap (IntKind.i64.wrap (IntKind.i64.wrap (IntKind.i64.wrap (IntKind.i64.wrap (y1 + 1) + 1) + 1) + 1) + 1) + 1)) (.out (.inl ((IntKind.i64.wrap (IntKind.i64.wrap (IntKind.i64.wrap (IntKind.i64.wrap (IntKind.i64.wrap (IntKind.i64.wrap (y1 + 1) + 1) + 1) + 1) + 1) + 1),(-1:Int))))) (.br (true) (.br (decide (0 ≤ y2 ∧ y2 < (y0.length:Int))) (.br (true) (.br ((at_ yT2 y0 (Int.toNat y2)).2.2.2.2.2.2.2.1 != IntKind.i64.wrap (IntKind.i64.wrap (IntKind.i64.wrap (IntKind.i64.wrap (IntKind.i64.wrap (IntKind.i64.wrap (IntKind.i64.wrap (y1 + 1) + 1) + 1) + 1) + 1) + 1) + 1)) (.out (.inl ((IntKind.i64.wrap (IntKind.i64.wrap (IntKind.i64.wrap (IntKind.i64.wrap (IntKind.i64.wrap (IntKind.i64.wrap (IntKind.i64.wrap (y1 + 1) + 1) + 1) + 1) + 1) + 1) + 1),(-1:Int))))) (.br (true) (.br (decide (0 ≤ y2 ∧ y2 < (y0.length:Int))) (.br (true) (.br ((at_ yT2 y0 (Int.toNat y2)).2.2.2.2.2.2.2.2.1 != IntKind.i64.wrap (IntKind.i64.wrap (IntKind.i64.wrap (IntKind.i64.wrap (IntKind.i64.wrap (IntKind.i64.wrap (IntKind.i64.wrap (IntKind.i64.wrap (y1 + 1) + 1) + 1) + 1) + 1) + 1) + 1) + 1)) (.out (.inl ((IntKind.i64.wrap (IntKind.i64.wrap (IntKind.i64.wrap (IntKind.i64.wrap (IntKind.i64.wrap (IntKind.i64.wrap (IntKind.i64.wrap (IntKind.i64.wrap (y1 + 1) + 1) + 1) + 1) + 1) + 1) + 1) + 1),(-1:Int))))) (.br (true) (.br (decide (0 ≤ y2 ∧ y2 < (y0.length:Int))) (.br (true) (.br ((at_ yT2 y0 (Int.toNat y2)).2.2.2.2.2.2.2.2.2.1 != IntKind.i64.wrap (IntKind.i64.wrap (IntKind.i64.wrap (IntKind.i64.wrap (IntKind.i64.wrap (IntKind.i64.wrap (IntKind.i64.wrap (IntKind.i64.wrap (IntKind.i64.wrap (y1 + 1) + 1) + 1) + 1) + 1) + 1) + 1) + 1) + 1)) (.out (.inl ((IntKind.i64.wrap (IntKind.i64.wrap (IntKind.i64.wrap (IntKind.i64.wrap (IntKind.i64.wrap (IntKind.i64.wrap (IntKind.i64.wrap (IntKind.i64.wrap (IntKind.i64.wrap (y1 + 1) + 1) + 1) + 1) + 1) + 1) + 1) + 1) + 1),(-1:Int))))) (.br (true) (.br (decide (0 ≤ y2 ∧ y2 < (y0.length:Int))) (.br (true) (.br ((at_ yT2 y0 (Int.toNat y2)).2.2.2.2.2.2.2.2.2.2 != IntKind.i64.wrap (IntKind.i64.wrap (IntKind.i64.wrap (IntKind.i64.wrap (IntKind.i64.wrap (IntKind.i64.wrap (IntKind.i64.wrap (IntKind.i64.wrap (IntKind.i64.wrap (IntKind.i64.wrap (y1 + 1) + 1) + 1) + 1) + 1) + 1) + 1) + 1) + 1) + 1)) (.out (.inl ((IntKind.i64.wrap (IntKind.i64.wrap (IntKind.i64.wrap (IntKind.i64.wrap (IntKind.i64.wrap (IntKind.i64.wrap (IntKind.i64.wrap (IntKind.i64.wrap (IntKind.i64.wrap (IntKind.i64.wrap (y1 + 1) + 1) + 1) + 1) + 1) + 1) + 1) + 1) + 1) + 1),(-1:Int))))) (.br (true) (.br (true) (.go ((IntKind.i64.wrap (IntKind.i64.wrap (IntKind.i64.wrap (IntKind.i64.wrap (IntKind.i64.wrap (IntKind.i64.wrap (IntKind.i64.wrap (IntKind.i64.wrap (IntKind.i64.wrap (IntKind.i64.wrap (IntKind.i64.wrap (y1 + 1) + 1) + 1) + 1) + 1) + 1) + 1) + 1) + 1) + 1) + 1),IntKind.i64.wrap (y2 + 1)))) .bad) .bad)) .bad) .bad) .bad)) .bad) .bad) .bad)) .bad) .bad) .bad)) .bad) .bad) .bad)) .bad) .bad) .bad)) .bad) .bad) .bad)) .bad) .bad) .bad)) .bad) .bad) .bad)) .bad) .bad) .bad)) .bad) .bad) .bad)) .bad) .bad) (.out (.inr (y1)))) .bad
noncomputable def g_LZ34_0 (y0:tL2) (x:Int×Int):Option ((Int×Int) ⊕ (Int)) := loopO (g_SZ34_0 y0) x
noncomputable def xZ34_0 (y0:tL2):((Int×Int) ⊕ (Int)) → Ex×List (Pl×LV) := fun
 | .inl r => (.ret,[(.T 1,.t (.val false [.int .i64 r.1])),(.T 4,.t (.val false [.int .i64 r.2]))])
 | .inr (r) => (.exit 0,[(.T 1,.t (.val false [.int .i64 r])),(.T 4,.t (.val false [.undef]))])
noncomputable def OZ34_1:Orc := fun b h => match b,h with
 | 0,[(.T 0,.t (.val false [.sl .any 83 (.pair (.int .i64) (.pair (.int .i64) (.pair (.int .i64) (.pair (.int .i64) (.pair (.int .i64) (.pair (.int .i64) (.pair (.int .i64) (.pair (.int .i64) (.pair (.int .i64) (.pair (.int .i64) (.int .i64))))))))))) y0])),(.T 1,.t (.val false [.int .i64 y1])),(.T 5,.t (.val false [.int .i64 y2]))] => some (okO (g_LZ34_0 y0 (y1,y2)),(.br (isL (valO (g_LZ34_0 y0 (y1,y2)))) (.leaf .ret [(.T 1,.t (.val false [.int .i64 (getL (valO (g_LZ34_0 y0 (y1,y2)))).1])),(.T 4,.t (.val false [.int .i64 (getL (valO (g_LZ34_0 y0 (y1,y2)))).2]))]) (.leaf (.exit 0) [(.T 1,.t (.val false [.int .i64 (getR (valO (g_LZ34_0 y0 (y1,y2))))])),(.T 4,.t (.val false [.undef]))])))
 | b,h => OZ34_0 b h
theorem bZ34_0 (y0:tL2) (y1:Int) (y2:Int):Tr.bt EZ34 OZ34_0 (exec EZ34 0 cZ34_0 (St.of (hZ34_0 y0 y1 y2)) (leafRd EZ34 0)) = (g_SZ34_0 y0 (y1,y2)).bt (fun ((y1,y2):Int×Int) => (hZ34_0 y0 y1 y2)) (xZ34_0 y0) := by kernel_rfl
theorem kZ34_1:OrcOk EZ34 OZ34_1 lsZ34 1 := orc_add kZ34_0 (fun n p hp h ex h' ho => by
 obtain ⟨b,c⟩ := p
 obtain ⟨xt,h1,h2⟩ := ho
 have h1:OZ34_1 b h = some (true,xt) := h1
 unfold OZ34_1 at h1
 split at h1
 ·injection h1 with h1
  injection h1 with e1 e2
  subst e2
  have hc:c = cZ34_0 := mZ34_0 _ hp rfl
  subst hc
  right
  rename_i y0 y1 y2
  have key := LT_step kZ34_0 hp (fun q hq => loopsAll_in _ _ _ _ hp hq) (fun ((y1,y2):Int×Int) => (hZ34_0 y0 y1 y2)) (xZ34_0 y0) (g_SZ34_0 y0) (fun x => by first | exact bZ34_0 y0 x.1 x.2) n (x := (y1,y2)) (okO_some e1)
  have hx:∀ r,XT.sel (.br (isL r) (.leaf .ret [(.T 1,.t (.val false [.int .i64 (getL r).1])),(.T 4,.t (.val false [.int .i64 (getL r).2]))]) (.leaf (.exit 0) [(.T 1,.t (.val false [.int .i64 (getR r)])),(.T 4,.t (.val false [.undef]))])) = xZ34_0 y0 r := fun r => by first | rfl | rcases r with r | r <;> rfl | rcases r with r | r | r <;> rfl | rcases r with r | r | r | r <;> rfl
  have h3 := (hx (valO (g_LZ34_0 y0 (y1,y2)))).symm.trans h2
  have e3 := congrArg Prod.fst h3
  have e4 := congrArg Prod.snd h3
  simp only at e3 e4
  rw [← e3,← e4]
  exact key
 ·exact .inl ⟨xt,h1,h2⟩)
noncomputable def g_AZ34 (a0:tL2) (a1:Int):Bool := okO (g_LZ34_0 a0 (a1,(0:Int)))
noncomputable def g_VZ34_0 (a0:tL2) (a1:Int):Int := bif isL (valO (g_LZ34_0 a0 (a1,(0:Int)))) then (getL (valO (g_LZ34_0 a0 (a1,(0:Int))))).2 else getR (valO (g_LZ34_0 a0 (a1,(0:Int))))
noncomputable def FZ34:FSem := fun ys => match ys with
 | [.val false [.sl .any 83 (.pair (.int .i64) (.pair (.int .i64) (.pair (.int .i64) (.pair (.int .i64) (.pair (.int .i64) (.pair (.int .i64) (.pair (.int .i64) (.pair (.int .i64) (.pair (.int .i64) (.pair (.int .i64) (.int .i64))))))))))) a0],.val false [.int .i64 a1]] => some ((g_AZ34 a0 a1),.val false [.int .i64 (g_VZ34_0 a0 a1)],[])
 | _ => none
theorem vZ34 (a0:tL2) (a1:Int):collapseH .std EZ34 OZ34_1 (execFn EZ34 Tryz.f15 msZ34 [.val false [.sl .any 83 (.pair (.int .i64) (.pair (.int .i64) (.pair (.int .i64) (.pair (.int .i64) (.pair (.int .i64) (.pair (.int .i64) (.pair (.int .i64) (.pair (.int .i64) (.pair (.int .i64) (.pair (.int .i64) (.int .i64))))))))))) a0],.val false [.int .i64 a1]]) = some ((g_AZ34 a0 a1),.val false [.int .i64 (g_VZ34_0 a0 a1)],[]) := by kernel_rfl
theorem sZ34:Sound Tryz.prog 15 msZ34 FZ34 := by
 refine fn_gen goodZ34 (by kernel_rfl) .std (fn := Tryz.f15) (c := (Tryz.f15.body.getD .skip)) (o := OZ34_1) (k := 1) (by kernel_rfl) (by kernel_rfl) (by kernel_rfl) (by kernel_rfl) (by decide) kZ34_1 ?_
 intro ys r outs h
 unfold FZ34 at h
 split at h
 ·exact (vZ34 _ _).trans h
 ·cases h
noncomputable def EZ77:Env where
 tt := mkTI Tryz.prog
 fn := fun _ => none
 bxf := fun _ => none
 mv := []
 keep := fun b => match b with
  | 0 => [(0,false),(1,false),(5,false)]
  | _ => []
 keepB := fun b => match b with
  | 0 => []
  | _ => []
 keepX := fun b => match b with
  | 0 => [(0,false),(1,false)]
  | _ => []
 keepXB := fun b => match b with
  | 0 => []
  | _ => []
theorem goodFZ77:∀ f ms F,EZ77.fn f = some (ms,F) → Sound Tryz.prog f ms F := fun f ms F h => by cases h
theorem goodZ77:Good Tryz.prog EZ77 := ⟨rfl,goodFZ77,fun f ms F h => by cases h⟩
noncomputable def OZ77_0:Orc := fun _ _ => none
noncomputable def msZ77:List PM := [.«mut»,.own]
noncomputable def lsZ77:List (Nat×Code) := loopsAll 0 (Tryz.f106.body.getD .skip)
noncomputable def cZ77_0:Code := (loopOf 0 (Tryz.f106.body.getD .skip)).getD .skip
theorem lseqZ77:lsZ77 = [(0,cZ77_0)] := by kernel_rfl
theorem mZ77_0:∀ p,p ∈ lsZ77 → p.1 = 0 → p.2 = cZ77_0 := by
 intro p hp
 rw [lseqZ77] at hp
 simp only [List.mem_cons,List.not_mem_nil,or_false] at hp
 subst hp; simp
theorem kZ77_0:OrcOk EZ77 OZ77_0 lsZ77 0 := orcOk_none
noncomputable def hZ77_0 (y0:List Int) (y1:Int) (y2:Int):List (Pl×LV) := [(.T 0,.t (.val false [.row 0 0 0])),(.R 0 0,.r 0 (some ⟨false,.any,true,3,(.int .i64),y0⟩)),(.T 1,.t (.val false [.int .i64 y1])),(.T 5,.t (.val false [.int .i64 y2]))]
noncomputable def g_SZ77_0:((List Int)×Int×Int) → RT ((List Int)×Int×Int) (((List Int)×Int))
 | (y0,y1,y2) => .br (true) (.br (decide (y2 < (y0.length:Int))) (.br (decide (0 ≤ y2 ∧ y2 < (y0.length:Int))) (.br (decide (Int.toNat y2 < List.length y0)) (.br (true) (.br (true) (.go ((List.set y0 (Int.toNat y2) y1,IntKind.i64.wrap (y1 + 1),IntKind.i64.wrap (y2 + 1)))) .bad) .bad) .bad) .bad) (.out ((y0,y1)))) .bad
noncomputable def g_LZ77_0 (x:(List Int)×Int×Int):Option (((List Int)×Int)) := loopO (g_SZ77_0) x
noncomputable def xZ77_0:(((List Int)×Int)) → Ex×List (Pl×LV) := fun r => (.exit 0,[(.T 0,.t (.val false [.row 0 0 0])),(.R 0 0,.r 0 (some ⟨false,.any,true,3,(.int .i64),r.1⟩)),(.T 1,.t (.val false [.int .i64 r.2]))])
noncomputable def OZ77_1:Orc := fun b h => match b,h with
 | 0,[(.T 0,.t (.val false [.row 0 0 0])),(.R 0 0,.r 0 (some ⟨false,.any,true,3,(.int .i64),y0⟩)),(.T 1,.t (.val false [.int .i64 y1])),(.T 5,.t (.val false [.int .i64 y2]))] => some (okO (g_LZ77_0 (y0,y1,y2)),(.leaf (.exit 0) [(.T 0,.t (.val false [.row 0 0 0])),(.R 0 0,.r 0 (some ⟨false,.any,true,3,(.int .i64),(valO (g_LZ77_0 (y0,y1,y2))).1⟩)),(.T 1,.t (.val false [.int .i64 (valO (g_LZ77_0 (y0,y1,y2))).2]))]))
 | b,h => OZ77_0 b h
theorem bZ77_0 (y0:List Int) (y1:Int) (y2:Int):Tr.bt EZ77 OZ77_0 (exec EZ77 0 cZ77_0 (St.of (hZ77_0 y0 y1 y2)) (leafRd EZ77 0)) = (g_SZ77_0 (y0,y1,y2)).bt (fun ((y0,y1,y2):(List Int)×Int×Int) => (hZ77_0 y0 y1 y2)) (xZ77_0) := by kernel_rfl
theorem kZ77_1:OrcOk EZ77 OZ77_1 lsZ77 1 := orc_add kZ77_0 (fun n p hp h ex h' ho => by
 obtain ⟨b,c⟩ := p
 obtain ⟨xt,h1,h2⟩ := ho
 have h1:OZ77_1 b h = some (true,xt) := h1
 unfold OZ77_1 at h1
 split at h1
 ·injection h1 with h1
  injection h1 with e1 e2
  subst e2
  have hc:c = cZ77_0 := mZ77_0 _ hp rfl
  subst hc
  right
  rename_i y0 y1 y2
  have key := LT_step kZ77_0 hp (fun q hq => loopsAll_in _ _ _ _ hp hq) (fun ((y0,y1,y2):(List Int)×Int×Int) => (hZ77_0 y0 y1 y2)) (xZ77_0) (g_SZ77_0) (fun x => by first | exact bZ77_0 x.1 x.2.1 x.2.2) n (x := (y0,y1,y2)) (okO_some e1)
  have hx:∀ r,XT.sel (.leaf (.exit 0) [(.T 0,.t (.val false [.row 0 0 0])),(.R 0 0,.r 0 (some ⟨false,.any,true,3,(.int .i64),r.1⟩)),(.T 1,.t (.val false [.int .i64 r.2]))]) = xZ77_0 r := fun r => by first | rfl | rcases r with r | r <;> rfl | rcases r with r | r | r <;> rfl | rcases r with r | r | r | r <;> rfl
  have h3 := (hx (valO (g_LZ77_0 (y0,y1,y2)))).symm.trans h2
  have e3 := congrArg Prod.fst h3
  have e4 := congrArg Prod.snd h3
  simp only at e3 e4
  rw [← e3,← e4]
  exact key
 ·exact .inl ⟨xt,h1,h2⟩)
noncomputable def g_AZ77 (a0:List Int) (a1:Int):Bool := okO (g_LZ77_0 (a0,a1,(0:Int)))
noncomputable def g_VZ77_0 (a0:List Int) (a1:Int):Int := (valO (g_LZ77_0 (a0,a1,(0:Int)))).2
noncomputable def g_VZ77_1 (a0:List Int) (a1:Int):List Int := (valO (g_LZ77_0 (a0,a1,(0:Int)))).1
noncomputable def FZ77:FSem := fun ys => match ys with
 | [.val false [.own .any true 3 (.int .i64) a0],.val false [.int .i64 a1]] => some ((g_AZ77 a0 a1),.val false [.int .i64 (g_VZ77_0 a0 a1)],[[.own .any true 3 (.int .i64) (g_VZ77_1 a0 a1)]])
 | _ => none
theorem vZ77 (a0:List Int) (a1:Int):collapseH .std EZ77 OZ77_1 (execFn EZ77 Tryz.f106 msZ77 [.val false [.own .any true 3 (.int .i64) a0],.val false [.int .i64 a1]]) = some ((g_AZ77 a0 a1),.val false [.int .i64 (g_VZ77_0 a0 a1)],[[.own .any true 3 (.int .i64) (g_VZ77_1 a0 a1)]]) := by kernel_rfl
theorem sZ77:Sound Tryz.prog 106 msZ77 FZ77 := by
 refine fn_gen goodZ77 (by kernel_rfl) .std (fn := Tryz.f106) (c := (Tryz.f106.body.getD .skip)) (o := OZ77_1) (k := 1) (by kernel_rfl) (by kernel_rfl) (by kernel_rfl) (by kernel_rfl) (by decide) kZ77_1 ?_
 intro ys r outs h
 unfold FZ77 at h
 split at h
 ·exact (vZ77 _ _).trans h
 ·cases h
noncomputable def EZ46:Env where
 tt := mkTI Tryz.prog
 fn := fun f => match f with
  | 106 => some (msZ77,FSem.wk msZ77 FZ77)
  | _ => none
 bxf := fun _ => none
 mv := []
 keep := fun b => match b with
  | 0 => [(0,false),(1,false),(5,false)]
  | _ => []
 keepB := fun b => match b with
  | 0 => []
  | _ => []
 keepX := fun b => match b with
  | 0 => [(0,false),(1,false)]
  | _ => []
 keepXB := fun b => match b with
  | 0 => []
  | _ => []
 nest := [88,95]
theorem goodFZ46:∀ f ms F,EZ46.fn f = some (ms,F) → Sound Tryz.prog f ms F := fun f ms F h => by
 unfold EZ46 at h
 dsimp only at h
 split at h
 ·exact gF sZ77 h
 ·cases h
theorem goodZ46:Good Tryz.prog EZ46 := ⟨rfl,goodFZ46,fun f ms F h => by cases h⟩
noncomputable def OZ46_0:Orc := fun _ _ => none
noncomputable def msZ46:List PM := [.«mut»,.own]
noncomputable def lsZ46:List (Nat×Code) := loopsAll 0 (Tryz.f45.body.getD .skip)
noncomputable def cZ46_0:Code := (loopOf 0 (Tryz.f45.body.getD .skip)).getD .skip
theorem lseqZ46:lsZ46 = [(0,cZ46_0)] := by kernel_rfl
theorem mZ46_0:∀ p,p ∈ lsZ46 → p.1 = 0 → p.2 = cZ46_0 := by
 intro p hp
 rw [lseqZ46] at hp
 simp only [List.mem_cons,List.not_mem_nil,or_false] at hp
 subst hp; simp
theorem kZ46_0:OrcOk EZ46 OZ46_0 lsZ46 0 := orcOk_none
noncomputable def hZ46_0 (y0:tL0) (y1:Int) (y2:Int):List (Pl×LV) := [(.T 0,.t (.val false [.row 0 0 0])),(.R 0 0,.r 0 (some ⟨false,.any,true,73,(.pair (.int .i64) (.pair (.pair (.int .i64) (.pair (.int .i64) (.pair (.int .i64) (.pair (.int .i64) (.pair (.int .i64) (.pair (.int .i64) (.int .i64))))))) (.pair .bool (.pair (.sl 3 (.int .i64)) (.sl 3 (.int .i64)))))),y0⟩)),(.T 1,.t (.val false [.int .i64 y1])),(.T 5,.t (.val false [.int .i64 y2]))]
noncomputable abbrev uq1330 (y0:tL0) (y1 y2:Int):tL0 := updE yT0 y0 (Int.toNat y2) fun x => (y1,(x.2.1.1,x.2.1.2.1,x.2.1.2.2.1,x.2.1.2.2.2.1,x.2.1.2.2.2.2.1,x.2.1.2.2.2.2.2.1,x.2.1.2.2.2.2.2.2),x.2.2.1,x.2.2.2.1,x.2.2.2.2)
noncomputable abbrev uq1331 (y0:tL0) (y1 y2:Int):tL0 := updE yT0 (uq1330 y0 y1 y2) (Int.toNat y2) fun x => (x.1,(IntKind.i64.wrap (y1 + 1),x.2.1.2.1,x.2.1.2.2.1,x.2.1.2.2.2.1,x.2.1.2.2.2.2.1,x.2.1.2.2.2.2.2.1,x.2.1.2.2.2.2.2.2),x.2.2.1,x.2.2.2.1,x.2.2.2.2)
noncomputable abbrev uq1332 (y0:tL0) (y1 y2:Int):tL0 := updE yT0 (uq1331 y0 y1 y2) (Int.toNat y2) fun x => (x.1,(x.2.1.1,IntKind.i64.wrap (IntKind.i64.wrap (y1 + 1) + 1),x.2.1.2.2.1,x.2.1.2.2.2.1,x.2.1.2.2.2.2.1,x.2.1.2.2.2.2.2.1,x.2.1.2.2.2.2.2.2),x.2.2.1,x.2.2.2.1,x.2.2.2.2)
noncomputable abbrev uq1333 (y0:tL0) (y1 y2:Int):tL0 := updE yT0 (uq1332 y0 y1 y2) (Int.toNat y2) fun x => (x.1,(x.2.1.1,x.2.1.2.1,IntKind.i64.wrap (IntKind.i64.wrap (IntKind.i64.wrap (y1 + 1) + 1) + 1),x.2.1.2.2.2.1,x.2.1.2.2.2.2.1,x.2.1.2.2.2.2.2.1,x.2.1.2.2.2.2.2.2),x.2.2.1,x.2.2.2.1,x.2.2.2.2)
noncomputable abbrev uq1334 (y0:tL0) (y1 y2:Int):tL0 := updE yT0 (uq1333 y0 y1 y2) (Int.toNat y2) fun x => (x.1,(x.2.1.1,x.2.1.2.1,x.2.1.2.2.1,IntKind.i64.wrap (IntKind.i64.wrap (IntKind.i64.wrap (IntKind.i64.wrap (y1 + 1) + 1) + 1) + 1),x.2.1.2.2.2.2.1,x.2.1.2.2.2.2.2.1,x.2.1.2.2.2.2.2.2),x.2.2.1,x.2.2.2.1,x.2.2.2.2)
noncomputable abbrev uq1335 (y0:tL0) (y1 y2:Int):tL0 := updE yT0 (uq1334 y0 y1 y2) (Int.toNat y2) fun x => (x.1,(x.2.1.1,x.2.1.2.1,x.2.1.2.2.1,x.2.1.2.2.2.1,IntKind.i64.wrap (IntKind.i64.wrap (IntKind.i64.wrap (IntKind.i64.wrap (IntKind.i64.wrap (y1 + 1) + 1) + 1) + 1) + 1),x.2.1.2.2.2.2.2.1,x.2.1.2.2.2.2.2.2),x.2.2.1,x.2.2.2.1,x.2.2.2.2)
noncomputable abbrev uq1336 (y0:tL0) (y1 y2:Int):tL0 := updE yT0 (uq1335 y0 y1 y2) (Int.toNat y2) fun x => (x.1,(x.2.1.1,x.2.1.2.1,x.2.1.2.2.1,x.2.1.2.2.2.1,x.2.1.2.2.2.2.1,IntKind.i64.wrap (IntKind.i64.wrap (IntKind.i64.wrap (IntKind.i64.wrap (IntKind.i64.wrap (IntKind.i64.wrap (y1 + 1) + 1) + 1) + 1) + 1) + 1),x.2.1.2.2.2.2.2.2),x.2.2.1,x.2.2.2.1,x.2.2.2.2)
noncomputable abbrev uq1337 (y0:tL0) (y1 y2:Int):tL0 := updE yT0 (uq1336 y0 y1 y2) (Int.toNat y2) fun x => (x.1,(x.2.1.1,x.2.1.2.1,x.2.1.2.2.1,x.2.1.2.2.2.1,x.2.1.2.2.2.2.1,x.2.1.2.2.2.2.2.1,IntKind.i64.wrap (IntKind.i64.wrap (IntKind.i64.wrap (IntKind.i64.wrap (IntKind.i64.wrap (IntKind.i64.wrap (IntKind.i64.wrap (y1 + 1) + 1) + 1) + 1) + 1) + 1) + 1)),x.2.2.1,x.2.2.2.1,x.2.2.2.2)
noncomputable abbrev uq1338 (y0:tL0) (y1 y2:Int):tL0 := updE yT0 (uq1337 y0 y1 y2) (Int.toNat y2) fun x => (x.1,(x.2.1.1,x.2.1.2.1,x.2.1.2.2.1,x.2.1.2.2.2.1,x.2.1.2.2.2.2.1,x.2.1.2.2.2.2.2.1,x.2.1.2.2.2.2.2.2),Int.tmod (IntKind.i64.wrap (IntKind.i64.wrap (IntKind.i64.wrap (IntKind.i64.wrap (IntKind.i64.wrap (IntKind.i64.wrap (IntKind.i64.wrap (IntKind.i64.wrap (y1 + 1) + 1) + 1) + 1) + 1) + 1) + 1) + 1)) (3:Int) == (0:Int),x.2.2.2.1,x.2.2.2.2)
noncomputable abbrev uq1339 (y0:tL0) (y1 y2:Int):tL0 := updE yT0 (uq1338 y0 y1 y2) (Int.toNat y2) fun q => (q.1,(q.2.1.1,q.2.1.2.1,q.2.1.2.2.1,q.2.1.2.2.2.1,q.2.1.2.2.2.2.1,q.2.1.2.2.2.2.2.1,q.2.1.2.2.2.2.2.2),q.2.2.1,g_VZ77_1 q.2.2.2.1 (IntKind.i64.wrap (IntKind.i64.wrap (IntKind.i64.wrap (IntKind.i64.wrap (IntKind.i64.wrap (IntKind.i64.wrap (IntKind.i64.wrap (IntKind.i64.wrap (IntKind.i64.wrap (y1 + 1) + 1) + 1) + 1) + 1) + 1) + 1) + 1) + 1)),q.2.2.2.2)
noncomputable def g_SZ46_0:(tL0×Int×Int) → RT (tL0×Int×Int) ((tL0×Int))
 | (y0,y1,y2) => .br (true) (.br (decide (y2 < (y0.length:Int))) (.br (decide (0 ≤ y2 ∧ y2 < (y0.length:Int))) (.br (decide (Int.toNat y2 < List.length y0)) (.br (true) (.br (decide (0 ≤ y2 ∧ y2 < (↑(List.length (uq1330 y0 y1 y2)):Int))) (.br (decide (Int.toNat y2 < List.length (uq1330 y0 y1 y2))) (.br (true) (.br (decide (0 ≤ y2 ∧ y2 < (↑(List.length (uq1331 y0 y1 y2)):Int))) (.br (decide (Int.toNat y2 < List.length (uq1331 y0 y1 y2))) (.br (true) (.br (decide (0 ≤ y2 ∧ y2 < (↑(List.length (uq1332 y0 y1 y2)):Int))) (.br (decide (Int.toNat y2 < List.length (uq1332 y0 y1 y2))) (.br (true) (.br (decide (0 ≤ y2 ∧ y2 < (↑(List.length (uq1333 y0 y1 y2)):Int))) (.br (decide (Int.toNat y2 < List.length (uq1333 y0 y1 y2))) (.br (true) (.br (decide (0 ≤ y2 ∧ y2 < (↑(List.length (uq1334 y0 y1 y2)):Int))) (.br (decide (Int.toNat y2 < List.length (uq1334 y0 y1 y2))) (.br (true) (.br (decide (0 ≤ y2 ∧ y2 < (↑(List.length (uq1335 y0 y1 y2)):Int))) (.br (decide (Int.toNat y2 < List.length (uq1335 y0 y1 y2))) (.br (true) (.br (decide (0 ≤ y2 ∧ y2 < (↑(List.length (uq1336 y0 y1 y2)):Int))) (.br (decide (Int.toNat y2 < List.length (uq1336 y0 y1 y2))) (.br (true) (.br (true) (.br (true) (.br (decide (0 ≤ y2 ∧ y2 < (↑(List.length (uq1337 y0 y1 y2)):Int))) (.br (decide (Int.toNat y2 < List.length (uq1337 y0 y1 y2))) (.br (true) (.br (decide (0 ≤ y2 ∧ y2 < (↑(List.length (uq1338 y0 y1 y2)):Int))) (.br (decide (Int.toNat y2 < List.length (uq1338 y0 y1 y2))) (.br (g_AZ77 (at_ yT0 (uq1338 y0 y1 y2) (Int.toNat y2)).2.2.2.1 (IntKind.i64.wrap (IntKind.i64.wrap (IntKind.i64.wrap (IntKind.i64.wrap (IntKind.i64.wrap (IntKind.i64.wrap (IntKind.i64.wrap (IntKind.i64.wrap (IntKind.i64.wrap (y1 + 1) + 1) + 1) + 1) + 1) + 1) + 1) + 1) + 1))) (.br (decide (0 ≤ y2 ∧ y2 < (↑(List.length (uq1339 y0 y1 y2)):Int))) (.br (decide (Int.toNat y2 < List.length (uq1339 y0 y1 y2))) (.br (g_AZ77 (at_ yT0 (uq1339 y0 y1 y2) (Int.toNat y2)).2.2.2.2 (g_VZ77_0 (at_ yT0 (uq1338 y0 y1 y2) (Int.toNat y2)).2.2.2.1 (IntKind.i64.wrap (IntKind.i64.wrap (IntKind.i64.wrap (IntKind.i64.wrap (IntKind.i64.wrap (IntKind.i64.wrap (IntKind.i64.wrap (IntKind.i64.wrap (IntKind.i64.wrap (y1 + 1) + 1) + 1) + 1) + 1) + 1) + 1) + 1) + 1)))) (.br (true) (.go ((updE yT0 (uq1339 y0 y1 y2) (Int.toNat y2) fun q => (q.1,(q.2.1.1,q.2.1.2.1,q.2.1.2.2.1,q.2.1.2.2.2.1,q.2.1.2.2.2.2.1,q.2.1.2.2.2.2.2.1,q.2.1.2.2.2.2.2.2),q.2.2.1,q.2.2.2.1,g_VZ77_1 q.2.2.2.2 (g_VZ77_0 (at_ yT0 (uq1338 y0 y1 y2) (Int.toNat y2)).2.2.2.1 (IntKind.i64.wrap (IntKind.i64.wrap (IntKind.i64.wrap (IntKind.i64.wrap (IntKind.i64.wrap (IntKind.i64.wrap (IntKind.i64.wrap (IntKind.i64.wrap (IntKind.i64.wrap (y1 + 1) + 1) + 1) + 1) + 1) + 1) + 1) + 1) + 1)))),g_VZ77_0 (at_ yT0 (uq1339 y0 y1 y2) (Int.toNat y2)).2.2.2.2 (g_VZ77_0 (at_ yT0 (uq1338 y0 y1 y2) (Int.toNat y2)).2.2.2.1 (IntKind.i64.wrap (IntKind.i64.wrap (IntKind.i64.wrap (IntKind.i64.wrap (IntKind.i64.wrap (IntKind.i64.wrap (IntKind.i64.wrap (IntKind.i64.wrap (IntKind.i64.wrap (y1 + 1) + 1) + 1) + 1) + 1) + 1) + 1) + 1) + 1))),IntKind.i64.wrap (y2 + 1)))) .bad) .bad) .bad) .bad) .bad) .bad) .bad) .bad) .bad) .bad) .bad) .bad) .bad) .bad) .bad) .bad) .bad) .bad) .bad) .bad) .bad) .bad) .bad) .bad) .bad) .bad) .bad) .bad) .bad) .bad) .bad) .bad) .bad) .bad) .bad) .bad) (.out ((y0,y1)))) .bad
noncomputable def g_LZ46_0 (x:tL0×Int×Int):Option ((tL0×Int)) := loopO (g_SZ46_0) x
noncomputable def xZ46_0:((tL0×Int)) → Ex×List (Pl×LV) := fun r => (.exit 0,[(.T 0,.t (.val false [.row 0 0 0])),(.R 0 0,.r 0 (some ⟨false,.any,true,73,(.pair (.int .i64) (.pair (.pair (.int .i64) (.pair (.int .i64) (.pair (.int .i64) (.pair (.int .i64) (.pair (.int .i64) (.pair (.int .i64) (.int .i64))))))) (.pair .bool (.pair (.sl 3 (.int .i64)) (.sl 3 (.int .i64)))))),r.1⟩)),(.T 1,.t (.val false [.int .i64 r.2]))])
noncomputable def OZ46_1:Orc := fun b h => match b,h with
 | 0,[(.T 0,.t (.val false [.row 0 0 0])),(.R 0 0,.r 0 (some ⟨false,.any,true,73,(.pair (.int .i64) (.pair (.pair (.int .i64) (.pair (.int .i64) (.pair (.int .i64) (.pair (.int .i64) (.pair (.int .i64) (.pair (.int .i64) (.int .i64))))))) (.pair .bool (.pair (.sl 3 (.int .i64)) (.sl 3 (.int .i64)))))),y0⟩)),(.T 1,.t (.val false [.int .i64 y1])),(.T 5,.t (.val false [.int .i64 y2]))] => some (okO (g_LZ46_0 (y0,y1,y2)),(.leaf (.exit 0) [(.T 0,.t (.val false [.row 0 0 0])),(.R 0 0,.r 0 (some ⟨false,.any,true,73,(.pair (.int .i64) (.pair (.pair (.int .i64) (.pair (.int .i64) (.pair (.int .i64) (.pair (.int .i64) (.pair (.int .i64) (.pair (.int .i64) (.int .i64))))))) (.pair .bool (.pair (.sl 3 (.int .i64)) (.sl 3 (.int .i64)))))),(valO (g_LZ46_0 (y0,y1,y2))).1⟩)),(.T 1,.t (.val false [.int .i64 (valO (g_LZ46_0 (y0,y1,y2))).2]))]))
 | b,h => OZ46_0 b h
theorem bZ46_0 (y0:tL0) (y1:Int) (y2:Int):Tr.bt EZ46 OZ46_0 (exec EZ46 0 cZ46_0 (St.of (hZ46_0 y0 y1 y2)) (leafRd EZ46 0)) = (g_SZ46_0 (y0,y1,y2)).bt (fun ((y0,y1,y2):tL0×Int×Int) => (hZ46_0 y0 y1 y2)) (xZ46_0) := by kernel_rfl
theorem kZ46_1:OrcOk EZ46 OZ46_1 lsZ46 1 := orc_add kZ46_0 (fun n p hp h ex h' ho => by
 obtain ⟨b,c⟩ := p
 obtain ⟨xt,h1,h2⟩ := ho
 have h1:OZ46_1 b h = some (true,xt) := h1
 unfold OZ46_1 at h1
 split at h1
 ·injection h1 with h1
  injection h1 with e1 e2
  subst e2
  have hc:c = cZ46_0 := mZ46_0 _ hp rfl
  subst hc
  right
  rename_i y0 y1 y2
  have key := LT_step kZ46_0 hp (fun q hq => loopsAll_in _ _ _ _ hp hq) (fun ((y0,y1,y2):tL0×Int×Int) => (hZ46_0 y0 y1 y2)) (xZ46_0) (g_SZ46_0) (fun x => by first | exact bZ46_0 x.1 x.2.1 x.2.2) n (x := (y0,y1,y2)) (okO_some e1)
  have hx:∀ r,XT.sel (.leaf (.exit 0) [(.T 0,.t (.val false [.row 0 0 0])),(.R 0 0,.r 0 (some ⟨false,.any,true,73,(.pair (.int .i64) (.pair (.pair (.int .i64) (.pair (.int .i64) (.pair (.int .i64) (.pair (.int .i64) (.pair (.int .i64) (.pair (.int .i64) (.int .i64))))))) (.pair .bool (.pair (.sl 3 (.int .i64)) (.sl 3 (.int .i64)))))),r.1⟩)),(.T 1,.t (.val false [.int .i64 r.2]))]) = xZ46_0 r := fun r => by first | rfl | rcases r with r | r <;> rfl | rcases r with r | r | r <;> rfl | rcases r with r | r | r | r <;> rfl
  have h3 := (hx (valO (g_LZ46_0 (y0,y1,y2)))).symm.trans h2
  have e3 := congrArg Prod.fst h3
  have e4 := congrArg Prod.snd h3
  simp only at e3 e4
  rw [← e3,← e4]
  exact key
 ·exact .inl ⟨xt,h1,h2⟩)
noncomputable def g_AZ46 (a0:tL0) (a1:Int):Bool := okO (g_LZ46_0 (a0,a1,(0:Int)))
noncomputable def g_VZ46_0 (a0:tL0) (a1:Int):Int := (valO (g_LZ46_0 (a0,a1,(0:Int)))).2
noncomputable def g_VZ46_1 (a0:tL0) (a1:Int):tL0 := (valO (g_LZ46_0 (a0,a1,(0:Int)))).1
noncomputable def FZ46:FSem := fun ys => match ys with
 | [.val false [.own .any true 73 (.pair (.int .i64) (.pair (.pair (.int .i64) (.pair (.int .i64) (.pair (.int .i64) (.pair (.int .i64) (.pair (.int .i64) (.pair (.int .i64) (.int .i64))))))) (.pair .bool (.pair (.sl 3 (.int .i64)) (.sl 3 (.int .i64)))))) a0],.val false [.int .i64 a1]] => some ((g_AZ46 a0 a1),.val false [.int .i64 (g_VZ46_0 a0 a1)],[[.own .any true 73 (.pair (.int .i64) (.pair (.pair (.int .i64) (.pair (.int .i64) (.pair (.int .i64) (.pair (.int .i64) (.pair (.int .i64) (.pair (.int .i64) (.int .i64))))))) (.pair .bool (.pair (.sl 3 (.int .i64)) (.sl 3 (.int .i64)))))) (g_VZ46_1 a0 a1)]])
 | _ => none
theorem vZ46 (a0:tL0) (a1:Int):collapseH .std EZ46 OZ46_1 (execFn EZ46 Tryz.f45 msZ46 [.val false [.own .any true 73 (.pair (.int .i64) (.pair (.pair (.int .i64) (.pair (.int .i64) (.pair (.int .i64) (.pair (.int .i64) (.pair (.int .i64) (.pair (.int .i64) (.int .i64))))))) (.pair .bool (.pair (.sl 3 (.int .i64)) (.sl 3 (.int .i64)))))) a0],.val false [.int .i64 a1]]) = some ((g_AZ46 a0 a1),.val false [.int .i64 (g_VZ46_0 a0 a1)],[[.own .any true 73 (.pair (.int .i64) (.pair (.pair (.int .i64) (.pair (.int .i64) (.pair (.int .i64) (.pair (.int .i64) (.pair (.int .i64) (.pair (.int .i64) (.int .i64))))))) (.pair .bool (.pair (.sl 3 (.int .i64)) (.sl 3 (.int .i64)))))) (g_VZ46_1 a0 a1)]]) := by kernel_rfl
theorem sZ46:Sound Tryz.prog 45 msZ46 FZ46 := by
 refine fn_gen goodZ46 (by kernel_rfl) .std (fn := Tryz.f45) (c := (Tryz.f45.body.getD .skip)) (o := OZ46_1) (k := 1) (by kernel_rfl) (by kernel_rfl) (by kernel_rfl) (by kernel_rfl) (by decide) kZ46_1 ?_
 intro ys r outs h
 unfold FZ46 at h
 split at h
 ·exact (vZ46 _ _).trans h
 ·cases h
noncomputable def EZ26:Env where
 tt := mkTI Tryz.prog
 fn := fun f => match f with
  | 106 => some (msZ77,FSem.wk msZ77 FZ77)
  | 168 => some (msZ76,FSem.wk msZ76 FZ76)
  | _ => none
 bxf := fun _ => none
 mv := []
 keep := fun b => match b with
  | 0 => [(0,false),(1,false),(5,false)]
  | _ => []
 keepB := fun b => match b with
  | 0 => []
  | _ => []
 keepX := fun b => match b with
  | 0 => [(0,false),(1,false)]
  | _ => []
 keepXB := fun b => match b with
  | 0 => []
  | _ => []
 nest := [33]
theorem goodFZ26:∀ f ms F,EZ26.fn f = some (ms,F) → Sound Tryz.prog f ms F := fun f ms F h => by
 unfold EZ26 at h
 dsimp only at h
 split at h
 ·exact gF sZ77 h
 ·exact gF sZ76 h
 ·cases h
theorem goodZ26:Good Tryz.prog EZ26 := ⟨rfl,goodFZ26,fun f ms F h => by cases h⟩
noncomputable def OZ26_0:Orc := fun _ _ => none
noncomputable def msZ26:List PM := [.«mut»,.own]
noncomputable def lsZ26:List (Nat×Code) := loopsAll 0 (Tryz.f144.body.getD .skip)
noncomputable def cZ26_0:Code := (loopOf 0 (Tryz.f144.body.getD .skip)).getD .skip
theorem lseqZ26:lsZ26 = [(0,cZ26_0)] := by kernel_rfl
theorem mZ26_0:∀ p,p ∈ lsZ26 → p.1 = 0 → p.2 = cZ26_0 := by
 intro p hp
 rw [lseqZ26] at hp
 simp only [List.mem_cons,List.not_mem_nil,or_false] at hp
 subst hp; simp
theorem kZ26_0:OrcOk EZ26 OZ26_0 lsZ26 0 := orcOk_none
noncomputable def hZ26_0 (y0:tL3) (y1:Int) (y2:Int):List (Pl×LV) := [(.T 0,.t (.val false [.row 0 0 0])),(.R 0 0,.r 0 (some ⟨false,.any,true,155,(.pair .str (.pair .bool (.sl 3 (.int .i64)))),y0⟩)),(.T 1,.t (.val false [.int .i64 y1])),(.T 5,.t (.val false [.int .i64 y2]))]
noncomputable abbrev uq1340 (y0:tL3) (y1 y2:Int):tL3 := updE yT3 y0 (Int.toNat y2) fun x => (g_VZ76_0 y1,x.2.1,x.2.2)
noncomputable abbrev uq1341 (y0:tL3) (y1 y2:Int):tL3 := updE yT3 (uq1340 y0 y1 y2) (Int.toNat y2) fun x => (x.1,Int.tmod (IntKind.i64.wrap (y1 + 1)) (3:Int) == (0:Int),x.2.2)
noncomputable def g_SZ26_0:(tL3×Int×Int) → RT (tL3×Int×Int) ((tL3×Int))
 | (y0,y1,y2) => .br (true) (.br (decide (y2 < (y0.length:Int))) (.br (g_AZ76 y1) (.br (decide (0 ≤ y2 ∧ y2 < (y0.length:Int))) (.br (decide (Int.toNat y2 < List.length y0)) (.br (true) (.br (true) (.br (true) (.br (decide (0 ≤ y2 ∧ y2 < (↑(List.length (uq1340 y0 y1 y2)):Int))) (.br (decide (Int.toNat y2 < List.length (uq1340 y0 y1 y2))) (.br (true) (.br (decide (0 ≤ y2 ∧ y2 < (↑(List.length (uq1341 y0 y1 y2)):Int))) (.br (decide (Int.toNat y2 < List.length (uq1341 y0 y1 y2))) (.br (g_AZ77 (at_ yT3 (uq1341 y0 y1 y2) (Int.toNat y2)).2.2 (IntKind.i64.wrap (IntKind.i64.wrap (y1 + 1) + 1))) (.br (true) (.go ((updE yT3 (uq1341 y0 y1 y2) (Int.toNat y2) fun q => (q.1,q.2.1,g_VZ77_1 q.2.2 (IntKind.i64.wrap (IntKind.i64.wrap (y1 + 1) + 1))),g_VZ77_0 (at_ yT3 (uq1341 y0 y1 y2) (Int.toNat y2)).2.2 (IntKind.i64.wrap (IntKind.i64.wrap (y1 + 1) + 1)),IntKind.i64.wrap (y2 + 1)))) .bad) .bad) .bad) .bad) .bad) .bad) .bad) .bad) .bad) .bad) .bad) .bad) .bad) (.out ((y0,y1)))) .bad
noncomputable def g_LZ26_0 (x:tL3×Int×Int):Option ((tL3×Int)) := loopO (g_SZ26_0) x
noncomputable def xZ26_0:((tL3×Int)) → Ex×List (Pl×LV) := fun r => (.exit 0,[(.T 0,.t (.val false [.row 0 0 0])),(.R 0 0,.r 0 (some ⟨false,.any,true,155,(.pair .str (.pair .bool (.sl 3 (.int .i64)))),r.1⟩)),(.T 1,.t (.val false [.int .i64 r.2]))])
noncomputable def OZ26_1:Orc := fun b h => match b,h with
 | 0,[(.T 0,.t (.val false [.row 0 0 0])),(.R 0 0,.r 0 (some ⟨false,.any,true,155,(.pair .str (.pair .bool (.sl 3 (.int .i64)))),y0⟩)),(.T 1,.t (.val false [.int .i64 y1])),(.T 5,.t (.val false [.int .i64 y2]))] => some (okO (g_LZ26_0 (y0,y1,y2)),(.leaf (.exit 0) [(.T 0,.t (.val false [.row 0 0 0])),(.R 0 0,.r 0 (some ⟨false,.any,true,155,(.pair .str (.pair .bool (.sl 3 (.int .i64)))),(valO (g_LZ26_0 (y0,y1,y2))).1⟩)),(.T 1,.t (.val false [.int .i64 (valO (g_LZ26_0 (y0,y1,y2))).2]))]))
 | b,h => OZ26_0 b h
theorem bZ26_0 (y0:tL3) (y1:Int) (y2:Int):Tr.bt EZ26 OZ26_0 (exec EZ26 0 cZ26_0 (St.of (hZ26_0 y0 y1 y2)) (leafRd EZ26 0)) = (g_SZ26_0 (y0,y1,y2)).bt (fun ((y0,y1,y2):tL3×Int×Int) => (hZ26_0 y0 y1 y2)) (xZ26_0) := by kernel_rfl
theorem kZ26_1:OrcOk EZ26 OZ26_1 lsZ26 1 := orc_add kZ26_0 (fun n p hp h ex h' ho => by
 obtain ⟨b,c⟩ := p
 obtain ⟨xt,h1,h2⟩ := ho
 have h1:OZ26_1 b h = some (true,xt) := h1
 unfold OZ26_1 at h1
 split at h1
 ·injection h1 with h1
  injection h1 with e1 e2
  subst e2
  have hc:c = cZ26_0 := mZ26_0 _ hp rfl
  subst hc
  right
  rename_i y0 y1 y2
  have key := LT_step kZ26_0 hp (fun q hq => loopsAll_in _ _ _ _ hp hq) (fun ((y0,y1,y2):tL3×Int×Int) => (hZ26_0 y0 y1 y2)) (xZ26_0) (g_SZ26_0) (fun x => by first | exact bZ26_0 x.1 x.2.1 x.2.2) n (x := (y0,y1,y2)) (okO_some e1)
  have hx:∀ r,XT.sel (.leaf (.exit 0) [(.T 0,.t (.val false [.row 0 0 0])),(.R 0 0,.r 0 (some ⟨false,.any,true,155,(.pair .str (.pair .bool (.sl 3 (.int .i64)))),r.1⟩)),(.T 1,.t (.val false [.int .i64 r.2]))]) = xZ26_0 r := fun r => by first | rfl | rcases r with r | r <;> rfl | rcases r with r | r | r <;> rfl | rcases r with r | r | r | r <;> rfl
  have h3 := (hx (valO (g_LZ26_0 (y0,y1,y2)))).symm.trans h2
  have e3 := congrArg Prod.fst h3
  have e4 := congrArg Prod.snd h3
  simp only at e3 e4
  rw [← e3,← e4]
  exact key
 ·exact .inl ⟨xt,h1,h2⟩)
noncomputable def g_AZ26 (a0:tL3) (a1:Int):Bool := okO (g_LZ26_0 (a0,a1,(0:Int)))
noncomputable def g_VZ26_0 (a0:tL3) (a1:Int):Int := (valO (g_LZ26_0 (a0,a1,(0:Int)))).2
noncomputable def g_VZ26_1 (a0:tL3) (a1:Int):tL3 := (valO (g_LZ26_0 (a0,a1,(0:Int)))).1
noncomputable def FZ26:FSem := fun ys => match ys with
 | [.val false [.own .any true 155 (.pair .str (.pair .bool (.sl 3 (.int .i64)))) a0],.val false [.int .i64 a1]] => some ((g_AZ26 a0 a1),.val false [.int .i64 (g_VZ26_0 a0 a1)],[[.own .any true 155 (.pair .str (.pair .bool (.sl 3 (.int .i64)))) (g_VZ26_1 a0 a1)]])
 | _ => none
theorem vZ26 (a0:tL3) (a1:Int):collapseH .std EZ26 OZ26_1 (execFn EZ26 Tryz.f144 msZ26 [.val false [.own .any true 155 (.pair .str (.pair .bool (.sl 3 (.int .i64)))) a0],.val false [.int .i64 a1]]) = some ((g_AZ26 a0 a1),.val false [.int .i64 (g_VZ26_0 a0 a1)],[[.own .any true 155 (.pair .str (.pair .bool (.sl 3 (.int .i64)))) (g_VZ26_1 a0 a1)]]) := by kernel_rfl
theorem sZ26:Sound Tryz.prog 144 msZ26 FZ26 := by
 refine fn_gen goodZ26 (by kernel_rfl) .std (fn := Tryz.f144) (c := (Tryz.f144.body.getD .skip)) (o := OZ26_1) (k := 1) (by kernel_rfl) (by kernel_rfl) (by kernel_rfl) (by kernel_rfl) (by decide) kZ26_1 ?_
 intro ys r outs h
 unfold FZ26 at h
 split at h
 ·exact (vZ26 _ _).trans h
 ·cases h
noncomputable def EZ35:Env where
 tt := mkTI Tryz.prog
 fn := fun f => match f with
  | 168 => some (msZ76,FSem.wk msZ76 FZ76)
  | _ => none
 bxf := fun _ => none
 mv := []
 keep := fun b => match b with
  | 0 => [(0,false),(1,false),(5,false)]
  | _ => []
 keepB := fun b => match b with
  | 0 => []
  | _ => []
 keepX := fun b => match b with
  | 0 => [(0,false),(1,false)]
  | _ => []
 keepXB := fun b => match b with
  | 0 => []
  | _ => []
theorem goodFZ35:∀ f ms F,EZ35.fn f = some (ms,F) → Sound Tryz.prog f ms F := fun f ms F h => by
 unfold EZ35 at h
 dsimp only at h
 split at h
 ·exact gF sZ76 h
 ·cases h
theorem goodZ35:Good Tryz.prog EZ35 := ⟨rfl,goodFZ35,fun f ms F h => by cases h⟩
noncomputable def OZ35_0:Orc := fun _ _ => none
noncomputable def msZ35:List PM := [.«mut»,.own]
noncomputable def lsZ35:List (Nat×Code) := loopsAll 0 (Tryz.f143.body.getD .skip)
noncomputable def cZ35_0:Code := (loopOf 0 (Tryz.f143.body.getD .skip)).getD .skip
theorem lseqZ35:lsZ35 = [(0,cZ35_0)] := by kernel_rfl
theorem mZ35_0:∀ p,p ∈ lsZ35 → p.1 = 0 → p.2 = cZ35_0 := by
 intro p hp
 rw [lseqZ35] at hp
 simp only [List.mem_cons,List.not_mem_nil,or_false] at hp
 subst hp; simp
theorem kZ35_0:OrcOk EZ35 OZ35_0 lsZ35 0 := orcOk_none
noncomputable def hZ35_0 (y0:List ByteArray) (y1:Int) (y2:Int):List (Pl×LV) := [(.T 0,.t (.val false [.row 0 0 0])),(.R 0 0,.r 0 (some ⟨false,.any,true,9,.str,y0⟩)),(.T 1,.t (.val false [.int .i64 y1])),(.T 5,.t (.val false [.int .i64 y2]))]
noncomputable def g_SZ35_0:((List ByteArray)×Int×Int) → RT ((List ByteArray)×Int×Int) (((List ByteArray)×Int))
 | (y0,y1,y2) => .br (true) (.br (decide (y2 < (y0.length:Int))) (.br (g_AZ76 y1) (.br (decide (0 ≤ y2 ∧ y2 < (y0.length:Int))) (.br (decide (Int.toNat y2 < List.length y0)) (.br (true) (.br (true) (.go ((List.set y0 (Int.toNat y2) (g_VZ76_0 y1),IntKind.i64.wrap (y1 + 1),IntKind.i64.wrap (y2 + 1)))) .bad) .bad) .bad) .bad) .bad) (.out ((y0,y1)))) .bad
noncomputable def g_LZ35_0 (x:(List ByteArray)×Int×Int):Option (((List ByteArray)×Int)) := loopO (g_SZ35_0) x
noncomputable def xZ35_0:(((List ByteArray)×Int)) → Ex×List (Pl×LV) := fun r => (.exit 0,[(.T 0,.t (.val false [.row 0 0 0])),(.R 0 0,.r 0 (some ⟨false,.any,true,9,.str,r.1⟩)),(.T 1,.t (.val false [.int .i64 r.2]))])
noncomputable def OZ35_1:Orc := fun b h => match b,h with
 | 0,[(.T 0,.t (.val false [.row 0 0 0])),(.R 0 0,.r 0 (some ⟨false,.any,true,9,.str,y0⟩)),(.T 1,.t (.val false [.int .i64 y1])),(.T 5,.t (.val false [.int .i64 y2]))] => some (okO (g_LZ35_0 (y0,y1,y2)),(.leaf (.exit 0) [(.T 0,.t (.val false [.row 0 0 0])),(.R 0 0,.r 0 (some ⟨false,.any,true,9,.str,(valO (g_LZ35_0 (y0,y1,y2))).1⟩)),(.T 1,.t (.val false [.int .i64 (valO (g_LZ35_0 (y0,y1,y2))).2]))]))
 | b,h => OZ35_0 b h
theorem bZ35_0 (y0:List ByteArray) (y1:Int) (y2:Int):Tr.bt EZ35 OZ35_0 (exec EZ35 0 cZ35_0 (St.of (hZ35_0 y0 y1 y2)) (leafRd EZ35 0)) = (g_SZ35_0 (y0,y1,y2)).bt (fun ((y0,y1,y2):(List ByteArray)×Int×Int) => (hZ35_0 y0 y1 y2)) (xZ35_0) := by kernel_rfl
theorem kZ35_1:OrcOk EZ35 OZ35_1 lsZ35 1 := orc_add kZ35_0 (fun n p hp h ex h' ho => by
 obtain ⟨b,c⟩ := p
 obtain ⟨xt,h1,h2⟩ := ho
 have h1:OZ35_1 b h = some (true,xt) := h1
 unfold OZ35_1 at h1
 split at h1
 ·injection h1 with h1
  injection h1 with e1 e2
  subst e2
  have hc:c = cZ35_0 := mZ35_0 _ hp rfl
  subst hc
  right
  rename_i y0 y1 y2
  have key := LT_step kZ35_0 hp (fun q hq => loopsAll_in _ _ _ _ hp hq) (fun ((y0,y1,y2):(List ByteArray)×Int×Int) => (hZ35_0 y0 y1 y2)) (xZ35_0) (g_SZ35_0) (fun x => by first | exact bZ35_0 x.1 x.2.1 x.2.2) n (x := (y0,y1,y2)) (okO_some e1)
  have hx:∀ r,XT.sel (.leaf (.exit 0) [(.T 0,.t (.val false [.row 0 0 0])),(.R 0 0,.r 0 (some ⟨false,.any,true,9,.str,r.1⟩)),(.T 1,.t (.val false [.int .i64 r.2]))]) = xZ35_0 r := fun r => by first | rfl | rcases r with r | r <;> rfl | rcases r with r | r | r <;> rfl | rcases r with r | r | r | r <;> rfl
  have h3 := (hx (valO (g_LZ35_0 (y0,y1,y2)))).symm.trans h2
  have e3 := congrArg Prod.fst h3
  have e4 := congrArg Prod.snd h3
  simp only at e3 e4
  rw [← e3,← e4]
  exact key
 ·exact .inl ⟨xt,h1,h2⟩)
noncomputable def g_AZ35 (a0:List ByteArray) (a1:Int):Bool := okO (g_LZ35_0 (a0,a1,(0:Int)))
noncomputable def g_VZ35_0 (a0:List ByteArray) (a1:Int):Int := (valO (g_LZ35_0 (a0,a1,(0:Int)))).2
noncomputable def g_VZ35_1 (a0:List ByteArray) (a1:Int):List ByteArray := (valO (g_LZ35_0 (a0,a1,(0:Int)))).1
noncomputable def FZ35:FSem := fun ys => match ys with
 | [.val false [.own .any true 9 .str a0],.val false [.int .i64 a1]] => some ((g_AZ35 a0 a1),.val false [.int .i64 (g_VZ35_0 a0 a1)],[[.own .any true 9 .str (g_VZ35_1 a0 a1)]])
 | _ => none
theorem vZ35 (a0:List ByteArray) (a1:Int):collapseH .std EZ35 OZ35_1 (execFn EZ35 Tryz.f143 msZ35 [.val false [.own .any true 9 .str a0],.val false [.int .i64 a1]]) = some ((g_AZ35 a0 a1),.val false [.int .i64 (g_VZ35_0 a0 a1)],[[.own .any true 9 .str (g_VZ35_1 a0 a1)]]) := by kernel_rfl
theorem sZ35:Sound Tryz.prog 143 msZ35 FZ35 := by
 refine fn_gen goodZ35 (by kernel_rfl) .std (fn := Tryz.f143) (c := (Tryz.f143.body.getD .skip)) (o := OZ35_1) (k := 1) (by kernel_rfl) (by kernel_rfl) (by kernel_rfl) (by kernel_rfl) (by decide) kZ35_1 ?_
 intro ys r outs h
 unfold FZ35 at h
 split at h
 ·exact (vZ35 _ _).trans h
 ·cases h
noncomputable def EZ29:Env where
 tt := mkTI Tryz.prog
 fn := fun f => match f with
  | 143 => some (msZ35,FSem.wk msZ35 FZ35)
  | 144 => some (msZ26,FSem.wk msZ26 FZ26)
  | _ => none
 bxf := fun _ => none
 mv := []
 keep := fun b => match b with
  | 0 => [(0,false),(1,false),(5,false)]
  | _ => []
 keepB := fun b => match b with
  | 0 => []
  | _ => []
 keepX := fun b => match b with
  | 0 => [(0,false),(1,false)]
  | _ => []
 keepXB := fun b => match b with
  | 0 => []
  | _ => []
 nest := [30,37]
theorem goodFZ29:∀ f ms F,EZ29.fn f = some (ms,F) → Sound Tryz.prog f ms F := fun f ms F h => by
 unfold EZ29 at h
 dsimp only at h
 split at h
 ·exact gF sZ35 h
 ·exact gF sZ26 h
 ·cases h
theorem goodZ29:Good Tryz.prog EZ29 := ⟨rfl,goodFZ29,fun f ms F h => by cases h⟩
noncomputable def OZ29_0:Orc := fun _ _ => none
noncomputable def msZ29:List PM := [.«mut»,.own]
noncomputable def lsZ29:List (Nat×Code) := loopsAll 0 (Tryz.f105.body.getD .skip)
noncomputable def cZ29_0:Code := (loopOf 0 (Tryz.f105.body.getD .skip)).getD .skip
theorem lseqZ29:lsZ29 = [(0,cZ29_0)] := by kernel_rfl
theorem mZ29_0:∀ p,p ∈ lsZ29 → p.1 = 0 → p.2 = cZ29_0 := by
 intro p hp
 rw [lseqZ29] at hp
 simp only [List.mem_cons,List.not_mem_nil,or_false] at hp
 subst hp; simp
theorem kZ29_0:OrcOk EZ29 OZ29_0 lsZ29 0 := orcOk_none
noncomputable def hZ29_0 (y0:tL1) (y1:Int) (y2:Int):List (Pl×LV) := [(.T 0,.t (.val false [.row 0 0 0])),(.R 0 0,.r 0 (some ⟨false,.any,true,92,(.pair (.int .i64) (.pair (.int .i64) (.pair (.sl 9 .str) (.sl 155 (.pair .str (.pair .bool (.sl 3 (.int .i64)))))))),y0⟩)),(.T 1,.t (.val false [.int .i64 y1])),(.T 5,.t (.val false [.int .i64 y2]))]
noncomputable abbrev uq1360 (y0:tL1) (y1 y2:Int):tL1 := updE yT1 y0 (Int.toNat y2) fun x => (y1,x.2.1,x.2.2.1,x.2.2.2)
noncomputable abbrev uq1361 (y0:tL1) (y1 y2:Int):tL1 := updE yT1 (uq1360 y0 y1 y2) (Int.toNat y2) fun x => (x.1,IntKind.i64.wrap (y1 + 1),x.2.2.1,x.2.2.2)
noncomputable abbrev uq1362 (y0:tL1) (y1 y2:Int):tL1 := updE yT1 (uq1361 y0 y1 y2) (Int.toNat y2) fun q => (q.1,q.2.1,g_VZ35_1 q.2.2.1 (IntKind.i64.wrap (IntKind.i64.wrap (y1 + 1) + 1)),q.2.2.2)
noncomputable def g_SZ29_0:(tL1×Int×Int) → RT (tL1×Int×Int) ((tL1×Int))
 | (y0,y1,y2) => .br (true) (.br (decide (y2 < (y0.length:Int))) (.br (decide (0 ≤ y2 ∧ y2 < (y0.length:Int))) (.br (decide (Int.toNat y2 < List.length y0)) (.br (true) (.br (decide (0 ≤ y2 ∧ y2 < (↑(List.length (uq1360 y0 y1 y2)):Int))) (.br (decide (Int.toNat y2 < List.length (uq1360 y0 y1 y2))) (.br (true) (.br (decide (0 ≤ y2 ∧ y2 < (↑(List.length (uq1361 y0 y1 y2)):Int))) (.br (decide (Int.toNat y2 < List.length (uq1361 y0 y1 y2))) (.br (g_AZ35 (at_ yT1 (uq1361 y0 y1 y2) (Int.toNat y2)).2.2.1 (IntKind.i64.wrap (IntKind.i64.wrap (y1 + 1) + 1))) (.br (decide (0 ≤ y2 ∧ y2 < (↑(List.length (uq1362 y0 y1 y2)):Int))) (.br (decide (Int.toNat y2 < List.length (uq1362 y0 y1 y2))) (.br (g_AZ26 (at_ yT1 (uq1362 y0 y1 y2) (Int.toNat y2)).2.2.2 (g_VZ35_0 (at_ yT1 (uq1361 y0 y1 y2) (Int.toNat y2)).2.2.1 (IntKind.i64.wrap (IntKind.i64.wrap (y1 + 1) + 1)))) (.br (true) (.go ((updE yT1 (uq1362 y0 y1 y2) (Int.toNat y2) fun q => (q.1,q.2.1,q.2.2.1,g_VZ26_1 q.2.2.2 (g_VZ35_0 (at_ yT1 (uq1361 y0 y1 y2) (Int.toNat y2)).2.2.1 (IntKind.i64.wrap (IntKind.i64.wrap (y1 + 1) + 1)))),g_VZ26_0 (at_ yT1 (uq1362 y0 y1 y2) (Int.toNat y2)).2.2.2 (g_VZ35_0 (at_ yT1 (uq1361 y0 y1 y2) (Int.toNat y2)).2.2.1 (IntKind.i64.wrap (IntKind.i64.wrap (y1 + 1) + 1))),IntKind.i64.wrap (y2 + 1)))) .bad) .bad) .bad) .bad) .bad) .bad) .bad) .bad) .bad) .bad) .bad) .bad) .bad) (.out ((y0,y1)))) .bad
noncomputable def g_LZ29_0 (x:tL1×Int×Int):Option ((tL1×Int)) := loopO (g_SZ29_0) x
noncomputable def xZ29_0:((tL1×Int)) → Ex×List (Pl×LV) := fun r => (.exit 0,[(.T 0,.t (.val false [.row 0 0 0])),(.R 0 0,.r 0 (some ⟨false,.any,true,92,(.pair (.int .i64) (.pair (.int .i64) (.pair (.sl 9 .str) (.sl 155 (.pair .str (.pair .bool (.sl 3 (.int .i64)))))))),r.1⟩)),(.T 1,.t (.val false [.int .i64 r.2]))])
noncomputable def OZ29_1:Orc := fun b h => match b,h with
 | 0,[(.T 0,.t (.val false [.row 0 0 0])),(.R 0 0,.r 0 (some ⟨false,.any,true,92,(.pair (.int .i64) (.pair (.int .i64) (.pair (.sl 9 .str) (.sl 155 (.pair .str (.pair .bool (.sl 3 (.int .i64)))))))),y0⟩)),(.T 1,.t (.val false [.int .i64 y1])),(.T 5,.t (.val false [.int .i64 y2]))] => some (okO (g_LZ29_0 (y0,y1,y2)),(.leaf (.exit 0) [(.T 0,.t (.val false [.row 0 0 0])),(.R 0 0,.r 0 (some ⟨false,.any,true,92,(.pair (.int .i64) (.pair (.int .i64) (.pair (.sl 9 .str) (.sl 155 (.pair .str (.pair .bool (.sl 3 (.int .i64)))))))),(valO (g_LZ29_0 (y0,y1,y2))).1⟩)),(.T 1,.t (.val false [.int .i64 (valO (g_LZ29_0 (y0,y1,y2))).2]))]))
 | b,h => OZ29_0 b h
theorem bZ29_0 (y0:tL1) (y1:Int) (y2:Int):Tr.bt EZ29 OZ29_0 (exec EZ29 0 cZ29_0 (St.of (hZ29_0 y0 y1 y2)) (leafRd EZ29 0)) = (g_SZ29_0 (y0,y1,y2)).bt (fun ((y0,y1,y2):tL1×Int×Int) => (hZ29_0 y0 y1 y2)) (xZ29_0) := by kernel_rfl
theorem kZ29_1:OrcOk EZ29 OZ29_1 lsZ29 1 := orc_add kZ29_0 (fun n p hp h ex h' ho => by
 obtain ⟨b,c⟩ := p
 obtain ⟨xt,h1,h2⟩ := ho
 have h1:OZ29_1 b h = some (true,xt) := h1
 unfold OZ29_1 at h1
 split at h1
 ·injection h1 with h1
  injection h1 with e1 e2
  subst e2
  have hc:c = cZ29_0 := mZ29_0 _ hp rfl
  subst hc
  right
  rename_i y0 y1 y2
  have key := LT_step kZ29_0 hp (fun q hq => loopsAll_in _ _ _ _ hp hq) (fun ((y0,y1,y2):tL1×Int×Int) => (hZ29_0 y0 y1 y2)) (xZ29_0) (g_SZ29_0) (fun x => by first | exact bZ29_0 x.1 x.2.1 x.2.2) n (x := (y0,y1,y2)) (okO_some e1)
  have hx:∀ r,XT.sel (.leaf (.exit 0) [(.T 0,.t (.val false [.row 0 0 0])),(.R 0 0,.r 0 (some ⟨false,.any,true,92,(.pair (.int .i64) (.pair (.int .i64) (.pair (.sl 9 .str) (.sl 155 (.pair .str (.pair .bool (.sl 3 (.int .i64)))))))),r.1⟩)),(.T 1,.t (.val false [.int .i64 r.2]))]) = xZ29_0 r := fun r => by first | rfl | rcases r with r | r <;> rfl | rcases r with r | r | r <;> rfl | rcases r with r | r | r | r <;> rfl
  have h3 := (hx (valO (g_LZ29_0 (y0,y1,y2)))).symm.trans h2
  have e3 := congrArg Prod.fst h3
  have e4 := congrArg Prod.snd h3
  simp only at e3 e4
  rw [← e3,← e4]
  exact key
 ·exact .inl ⟨xt,h1,h2⟩)
noncomputable def g_AZ29 (a0:tL1) (a1:Int):Bool := okO (g_LZ29_0 (a0,a1,(0:Int)))
noncomputable def g_VZ29_0 (a0:tL1) (a1:Int):Int := (valO (g_LZ29_0 (a0,a1,(0:Int)))).2
noncomputable def g_VZ29_1 (a0:tL1) (a1:Int):tL1 := (valO (g_LZ29_0 (a0,a1,(0:Int)))).1
noncomputable def FZ29:FSem := fun ys => match ys with
 | [.val false [.own .any true 92 (.pair (.int .i64) (.pair (.int .i64) (.pair (.sl 9 .str) (.sl 155 (.pair .str (.pair .bool (.sl 3 (.int .i64)))))))) a0],.val false [.int .i64 a1]] => some ((g_AZ29 a0 a1),.val false [.int .i64 (g_VZ29_0 a0 a1)],[[.own .any true 92 (.pair (.int .i64) (.pair (.int .i64) (.pair (.sl 9 .str) (.sl 155 (.pair .str (.pair .bool (.sl 3 (.int .i64)))))))) (g_VZ29_1 a0 a1)]])
 | _ => none
theorem vZ29 (a0:tL1) (a1:Int):collapseH .std EZ29 OZ29_1 (execFn EZ29 Tryz.f105 msZ29 [.val false [.own .any true 92 (.pair (.int .i64) (.pair (.int .i64) (.pair (.sl 9 .str) (.sl 155 (.pair .str (.pair .bool (.sl 3 (.int .i64)))))))) a0],.val false [.int .i64 a1]]) = some ((g_AZ29 a0 a1),.val false [.int .i64 (g_VZ29_0 a0 a1)],[[.own .any true 92 (.pair (.int .i64) (.pair (.int .i64) (.pair (.sl 9 .str) (.sl 155 (.pair .str (.pair .bool (.sl 3 (.int .i64)))))))) (g_VZ29_1 a0 a1)]]) := by kernel_rfl
theorem sZ29:Sound Tryz.prog 105 msZ29 FZ29 := by
 refine fn_gen goodZ29 (by kernel_rfl) .std (fn := Tryz.f105) (c := (Tryz.f105.body.getD .skip)) (o := OZ29_1) (k := 1) (by kernel_rfl) (by kernel_rfl) (by kernel_rfl) (by kernel_rfl) (by decide) kZ29_1 ?_
 intro ys r outs h
 unfold FZ29 at h
 split at h
 ·exact (vZ29 _ _).trans h
 ·cases h
noncomputable def EZ36:Env where
 tt := mkTI Tryz.prog
 fn := fun f => match f with
  | 105 => some (msZ29,FSem.wk msZ29 FZ29)
  | _ => none
 bxf := fun _ => none
 mv := []
 keep := fun _ => []
 keepB := fun _ => []
 keepX := fun _ => []
 keepXB := fun _ => []
theorem goodFZ36:∀ f ms F,EZ36.fn f = some (ms,F) → Sound Tryz.prog f ms F := fun f ms F h => by
 unfold EZ36 at h
 dsimp only at h
 split at h
 ·exact gF sZ29 h
 ·cases h
theorem goodZ36:Good Tryz.prog EZ36 := ⟨rfl,goodFZ36,fun f ms F h => by cases h⟩
noncomputable def OZ36_0:Orc := fun _ _ => none
noncomputable def msZ36:List PM := [.«mut»,.own]
noncomputable def lsZ36:List (Nat×Code) := loopsAll 0 (Tryz.f44.body.getD .skip)
theorem kZ36_0:OrcOk EZ36 OZ36_0 lsZ36 0 := orcOk_none
noncomputable def g_AZ36 (a0:tL1) (a1:Int) (a2:Int):Bool := g_AZ29 a0 a2
noncomputable def FZ36:FSem := fun ys => match ys with
 | [.val true [.own .any true 92 (.pair (.int .i64) (.pair (.int .i64) (.pair (.sl 9 .str) (.sl 155 (.pair .str (.pair .bool (.sl 3 (.int .i64)))))))) a0,.int .i64 a1],.val false [.int .i64 a2]] => some ((g_AZ36 a0 a1 a2),.val false [.int .i64 (g_VZ29_0 a0 a2)],[[.own .any true 92 (.pair (.int .i64) (.pair (.int .i64) (.pair (.sl 9 .str) (.sl 155 (.pair .str (.pair .bool (.sl 3 (.int .i64)))))))) (g_VZ29_1 a0 a2),.int .i64 a1]])
 | _ => none
theorem vZ36 (a0:tL1) (a1:Int) (a2:Int):collapseH .std EZ36 OZ36_0 (execFn EZ36 Tryz.f44 msZ36 [.val true [.own .any true 92 (.pair (.int .i64) (.pair (.int .i64) (.pair (.sl 9 .str) (.sl 155 (.pair .str (.pair .bool (.sl 3 (.int .i64)))))))) a0,.int .i64 a1],.val false [.int .i64 a2]]) = some ((g_AZ36 a0 a1 a2),.val false [.int .i64 (g_VZ29_0 a0 a2)],[[.own .any true 92 (.pair (.int .i64) (.pair (.int .i64) (.pair (.sl 9 .str) (.sl 155 (.pair .str (.pair .bool (.sl 3 (.int .i64)))))))) (g_VZ29_1 a0 a2),.int .i64 a1]]) := by kernel_rfl
theorem sZ36:Sound Tryz.prog 44 msZ36 FZ36 := by
 refine fn_gen goodZ36 (by kernel_rfl) .std (fn := Tryz.f44) (c := (Tryz.f44.body.getD .skip)) (o := OZ36_0) (k := 0) (by kernel_rfl) (by kernel_rfl) (by kernel_rfl) (by kernel_rfl) (by decide) kZ36_0 ?_
 intro ys r outs h
 unfold FZ36 at h
 split at h
 ·exact (vZ36 _ _ _).trans h
 ·cases h
noncomputable def EZ30:Env where
 tt := mkTI Tryz.prog
 fn := fun f => match f with
  | 44 => some (msZ36,FSem.wk msZ36 FZ36)
  | 45 => some (msZ46,FSem.wk msZ46 FZ46)
  | _ => none
 bxf := fun _ => none
 mv := []
 keep := fun _ => []
 keepB := fun _ => []
 keepX := fun _ => []
 keepXB := fun _ => []
theorem goodFZ30:∀ f ms F,EZ30.fn f = some (ms,F) → Sound Tryz.prog f ms F := fun f ms F h => by
 unfold EZ30 at h
 dsimp only at h
 split at h
 ·exact gF sZ36 h
 ·exact gF sZ46 h
 ·cases h
theorem goodZ30:Good Tryz.prog EZ30 := ⟨rfl,goodFZ30,fun f ms F h => by cases h⟩
noncomputable def OZ30_0:Orc := fun _ _ => none
noncomputable def msZ30:List PM := [.«mut»,.own]
noncomputable def lsZ30:List (Nat×Code) := loopsAll 0 (Tryz.f13.body.getD .skip)
theorem kZ30_0:OrcOk EZ30 OZ30_0 lsZ30 0 := orcOk_none
noncomputable def g_AZ30 (a0:tL1) (a1:Int) (a2:tL0) (a3:Int):Bool := g_AZ36 a0 a1 a3&&g_AZ46 a2 (g_VZ29_0 a0 a3)
noncomputable def FZ30:FSem := fun ys => match ys with
 | [.val true [.own .any true 92 (.pair (.int .i64) (.pair (.int .i64) (.pair (.sl 9 .str) (.sl 155 (.pair .str (.pair .bool (.sl 3 (.int .i64)))))))) a0,.int .i64 a1,.own .any true 73 (.pair (.int .i64) (.pair (.pair (.int .i64) (.pair (.int .i64) (.pair (.int .i64) (.pair (.int .i64) (.pair (.int .i64) (.pair (.int .i64) (.int .i64))))))) (.pair .bool (.pair (.sl 3 (.int .i64)) (.sl 3 (.int .i64)))))) a2],.val false [.int .i64 a3]] => some ((g_AZ30 a0 a1 a2 a3),.val false [.int .i64 (g_VZ46_0 a2 (g_VZ29_0 a0 a3))],[[.own .any true 92 (.pair (.int .i64) (.pair (.int .i64) (.pair (.sl 9 .str) (.sl 155 (.pair .str (.pair .bool (.sl 3 (.int .i64)))))))) (g_VZ29_1 a0 a3),.int .i64 a1,.own .any true 73 (.pair (.int .i64) (.pair (.pair (.int .i64) (.pair (.int .i64) (.pair (.int .i64) (.pair (.int .i64) (.pair (.int .i64) (.pair (.int .i64) (.int .i64))))))) (.pair .bool (.pair (.sl 3 (.int .i64)) (.sl 3 (.int .i64)))))) (g_VZ46_1 a2 (g_VZ29_0 a0 a3))]])
 | _ => none
theorem vZ30 (a0:tL1) (a1:Int) (a2:tL0) (a3:Int):collapseH .std EZ30 OZ30_0 (execFn EZ30 Tryz.f13 msZ30 [.val true [.own .any true 92 (.pair (.int .i64) (.pair (.int .i64) (.pair (.sl 9 .str) (.sl 155 (.pair .str (.pair .bool (.sl 3 (.int .i64)))))))) a0,.int .i64 a1,.own .any true 73 (.pair (.int .i64) (.pair (.pair (.int .i64) (.pair (.int .i64) (.pair (.int .i64) (.pair (.int .i64) (.pair (.int .i64) (.pair (.int .i64) (.int .i64))))))) (.pair .bool (.pair (.sl 3 (.int .i64)) (.sl 3 (.int .i64)))))) a2],.val false [.int .i64 a3]]) = some ((g_AZ30 a0 a1 a2 a3),.val false [.int .i64 (g_VZ46_0 a2 (g_VZ29_0 a0 a3))],[[.own .any true 92 (.pair (.int .i64) (.pair (.int .i64) (.pair (.sl 9 .str) (.sl 155 (.pair .str (.pair .bool (.sl 3 (.int .i64)))))))) (g_VZ29_1 a0 a3),.int .i64 a1,.own .any true 73 (.pair (.int .i64) (.pair (.pair (.int .i64) (.pair (.int .i64) (.pair (.int .i64) (.pair (.int .i64) (.pair (.int .i64) (.pair (.int .i64) (.int .i64))))))) (.pair .bool (.pair (.sl 3 (.int .i64)) (.sl 3 (.int .i64)))))) (g_VZ46_1 a2 (g_VZ29_0 a0 a3))]]) := by kernel_rfl
theorem sZ30:Sound Tryz.prog 13 msZ30 FZ30 := by
 refine fn_gen goodZ30 (by kernel_rfl) .std (fn := Tryz.f13) (c := (Tryz.f13.body.getD .skip)) (o := OZ30_0) (k := 0) (by kernel_rfl) (by kernel_rfl) (by kernel_rfl) (by kernel_rfl) (by decide) kZ30_0 ?_
 intro ys r outs h
 unfold FZ30 at h
 split at h
 ·exact (vZ30 _ _ _ _).trans h
 ·cases h
noncomputable def EZ37:Env where
 tt := mkTI Tryz.prog
 fn := fun _ => none
 bxf := fun _ => none
 mv := []
 keep := fun b => match b with
  | 0 => [(0,false),(1,false),(5,false)]
  | _ => []
 keepB := fun b => match b with
  | 0 => []
  | _ => []
 keepX := fun b => match b with
  | 0 => [(0,false),(1,false)]
  | _ => []
 keepXB := fun b => match b with
  | 0 => []
  | _ => []
theorem goodFZ37:∀ f ms F,EZ37.fn f = some (ms,F) → Sound Tryz.prog f ms F := fun f ms F h => by cases h
theorem goodZ37:Good Tryz.prog EZ37 := ⟨rfl,goodFZ37,fun f ms F h => by cases h⟩
noncomputable def OZ37_0:Orc := fun _ _ => none
noncomputable def msZ37:List PM := [.«mut»,.own]
noncomputable def lsZ37:List (Nat×Code) := loopsAll 0 (Tryz.f14.body.getD .skip)
noncomputable def cZ37_0:Code := (loopOf 0 (Tryz.f14.body.getD .skip)).getD .skip
theorem lseqZ37:lsZ37 = [(0,cZ37_0)] := by kernel_rfl
theorem mZ37_0:∀ p,p ∈ lsZ37 → p.1 = 0 → p.2 = cZ37_0 := by
 intro p hp
 rw [lseqZ37] at hp
 simp only [List.mem_cons,List.not_mem_nil,or_false] at hp
 subst hp; simp
theorem kZ37_0:OrcOk EZ37 OZ37_0 lsZ37 0 := orcOk_none
noncomputable def hZ37_0 (y0:tL2) (y1:Int) (y2:Int):List (Pl×LV) := [(.T 0,.t (.val false [.row 0 0 0])),(.R 0 0,.r 0 (some ⟨false,.any,true,83,(.pair (.int .i64) (.pair (.int .i64) (.pair (.int .i64) (.pair (.int .i64) (.pair (.int .i64) (.pair (.int .i64) (.pair (.int .i64) (.pair (.int .i64) (.pair (.int .i64) (.pair (.int .i64) (.int .i64))))))))))),y0⟩)),(.T 1,.t (.val false [.int .i64 y1])),(.T 5,.t (.val false [.int .i64 y2]))]
noncomputable abbrev uq1390 (y0:tL2) (y1 y2:Int):tL2 := updE yT2 y0 (Int.toNat y2) fun x => (y1,x.2.1,x.2.2.1,x.2.2.2.1,x.2.2.2.2.1,x.2.2.2.2.2.1,x.2.2.2.2.2.2.1,x.2.2.2.2.2.2.2.1,x.2.2.2.2.2.2.2.2.1,x.2.2.2.2.2.2.2.2.2.1,x.2.2.2.2.2.2.2.2.2.2)
noncomputable abbrev uq1391 (y0:tL2) (y1 y2:Int):tL2 := updE yT2 (uq1390 y0 y1 y2) (Int.toNat y2) fun x => (x.1,IntKind.i64.wrap (y1 + 1),x.2.2.1,x.2.2.2.1,x.2.2.2.2.1,x.2.2.2.2.2.1,x.2.2.2.2.2.2.1,x.2.2.2.2.2.2.2.1,x.2.2.2.2.2.2.2.2.1,x.2.2.2.2.2.2.2.2.2.1,x.2.2.2.2.2.2.2.2.2.2)
noncomputable abbrev uq1392 (y0:tL2) (y1 y2:Int):tL2 := updE yT2 (uq1391 y0 y1 y2) (Int.toNat y2) fun x => (x.1,x.2.1,IntKind.i64.wrap (IntKind.i64.wrap (y1 + 1) + 1),x.2.2.2.1,x.2.2.2.2.1,x.2.2.2.2.2.1,x.2.2.2.2.2.2.1,x.2.2.2.2.2.2.2.1,x.2.2.2.2.2.2.2.2.1,x.2.2.2.2.2.2.2.2.2.1,x.2.2.2.2.2.2.2.2.2.2)
noncomputable abbrev uq1393 (y0:tL2) (y1 y2:Int):tL2 := updE yT2 (uq1392 y0 y1 y2) (Int.toNat y2) fun x => (x.1,x.2.1,x.2.2.1,IntKind.i64.wrap (IntKind.i64.wrap (IntKind.i64.wrap (y1 + 1) + 1) + 1),x.2.2.2.2.1,x.2.2.2.2.2.1,x.2.2.2.2.2.2.1,x.2.2.2.2.2.2.2.1,x.2.2.2.2.2.2.2.2.1,x.2.2.2.2.2.2.2.2.2.1,x.2.2.2.2.2.2.2.2.2.2)
noncomputable abbrev uq1394 (y0:tL2) (y1 y2:Int):tL2 := updE yT2 (uq1393 y0 y1 y2) (Int.toNat y2) fun x => (x.1,x.2.1,x.2.2.1,x.2.2.2.1,IntKind.i64.wrap (IntKind.i64.wrap (IntKind.i64.wrap (IntKind.i64.wrap (y1 + 1) + 1) + 1) + 1),x.2.2.2.2.2.1,x.2.2.2.2.2.2.1,x.2.2.2.2.2.2.2.1,x.2.2.2.2.2.2.2.2.1,x.2.2.2.2.2.2.2.2.2.1,x.2.2.2.2.2.2.2.2.2.2)
noncomputable abbrev uq1395 (y0:tL2) (y1 y2:Int):tL2 := updE yT2 (uq1394 y0 y1 y2) (Int.toNat y2) fun x => (x.1,x.2.1,x.2.2.1,x.2.2.2.1,x.2.2.2.2.1,IntKind.i64.wrap (IntKind.i64.wrap (IntKind.i64.wrap (IntKind.i64.wrap (IntKind.i64.wrap (y1 + 1) + 1) + 1) + 1) + 1),x.2.2.2.2.2.2.1,x.2.2.2.2.2.2.2.1,x.2.2.2.2.2.2.2.2.1,x.2.2.2.2.2.2.2.2.2.1,x.2.2.2.2.2.2.2.2.2.2)
noncomputable abbrev uq1396 (y0:tL2) (y1 y2:Int):tL2 := updE yT2 (uq1395 y0 y1 y2) (Int.toNat y2) fun x => (x.1,x.2.1,x.2.2.1,x.2.2.2.1,x.2.2.2.2.1,x.2.2.2.2.2.1,IntKind.i64.wrap (IntKind.i64.wrap (IntKind.i64.wrap (IntKind.i64.wrap (IntKind.i64.wrap (IntKind.i64.wrap (y1 + 1) + 1) + 1) + 1) + 1) + 1),x.2.2.2.2.2.2.2.1,x.2.2.2.2.2.2.2.2.1,x.2.2.2.2.2.2.2.2.2.1,x.2.2.2.2.2.2.2.2.2.2)
noncomputable abbrev uq1397 (y0:tL2) (y1 y2:Int):tL2 := updE yT2 (uq1396 y0 y1 y2) (Int.toNat y2) fun x => (x.1,x.2.1,x.2.2.1,x.2.2.2.1,x.2.2.2.2.1,x.2.2.2.2.2.1,x.2.2.2.2.2.2.1,IntKind.i64.wrap (IntKind.i64.wrap (IntKind.i64.wrap (IntKind.i64.wrap (IntKind.i64.wrap (IntKind.i64.wrap (IntKind.i64.wrap (y1 + 1) + 1) + 1) + 1) + 1) + 1) + 1),x.2.2.2.2.2.2.2.2.1,x.2.2.2.2.2.2.2.2.2.1,x.2.2.2.2.2.2.2.2.2.2)
noncomputable abbrev uq1398 (y0:tL2) (y1 y2:Int):tL2 := updE yT2 (uq1397 y0 y1 y2) (Int.toNat y2) fun x => (x.1,x.2.1,x.2.2.1,x.2.2.2.1,x.2.2.2.2.1,x.2.2.2.2.2.1,x.2.2.2.2.2.2.1,x.2.2.2.2.2.2.2.1,IntKind.i64.wrap (IntKind.i64.wrap (IntKind.i64.wrap (IntKind.i64.wrap (IntKind.i64.wrap (IntKind.i64.wrap (IntKind.i64.wrap (IntKind.i64.wrap (y1 + 1) + 1) + 1) + 1) + 1) + 1) + 1) + 1),x.2.2.2.2.2.2.2.2.2.1,x.2.2.2.2.2.2.2.2.2.2)
noncomputable abbrev uq1399 (y0:tL2) (y1 y2:Int):tL2 := updE yT2 (uq1398 y0 y1 y2) (Int.toNat y2) fun x => (x.1,x.2.1,x.2.2.1,x.2.2.2.1,x.2.2.2.2.1,x.2.2.2.2.2.1,x.2.2.2.2.2.2.1,x.2.2.2.2.2.2.2.1,x.2.2.2.2.2.2.2.2.1,IntKind.i64.wrap (IntKind.i64.wrap (IntKind.i64.wrap (IntKind.i64.wrap (IntKind.i64.wrap (IntKind.i64.wrap (IntKind.i64.wrap (IntKind.i64.wrap (IntKind.i64.wrap (y1 + 1) + 1) + 1) + 1) + 1) + 1) + 1) + 1) + 1),x.2.2.2.2.2.2.2.2.2.2)
noncomputable def g_SZ37_0:(tL2×Int×Int) → RT (tL2×Int×Int) ((tL2×Int))
 | (y0,y1,y2) => .br (true) (.br (decide (y2 < (y0.length:Int))) (.br (decide (0 ≤ y2 ∧ y2 < (y0.length:Int))) (.br (decide (Int.toNat y2 < List.length y0)) (.br (true) (.br (decide (0 ≤ y2 ∧ y2 < (↑(List.length (uq1390 y0 y1 y2)):Int))) (.br (decide (Int.toNat y2 < List.length (uq1390 y0 y1 y2))) (.br (true) (.br (decide (0 ≤ y2 ∧ y2 < (↑(List.length (uq1391 y0 y1 y2)):Int))) (.br (decide (Int.toNat y2 < List.length (uq1391 y0 y1 y2))) (.br (true) (.br (decide (0 ≤ y2 ∧ y2 < (↑(List.length (uq1392 y0 y1 y2)):Int))) (.br (decide (Int.toNat y2 < List.length (uq1392 y0 y1 y2))) (.br (true) (.br (decide (0 ≤ y2 ∧ y2 < (↑(List.length (uq1393 y0 y1 y2)):Int))) (.br (decide (Int.toNat y2 < List.length (uq1393 y0 y1 y2))) (.br (true) (.br (decide (0 ≤ y2 ∧ y2 < (↑(List.length (uq1394 y0 y1 y2)):Int))) (.br (decide (Int.toNat y2 < List.length (uq1394 y0 y1 y2))) (.br (true) (.br (decide (0 ≤ y2 ∧ y2 < (↑(List.length (uq1395 y0 y1 y2)):Int))) (.br (decide (Int.toNat y2 < List.length (uq1395 y0 y1 y2))) (.br (true) (.br (decide (0 ≤ y2 ∧ y2 < (↑(List.length (uq1396 y0 y1 y2)):Int))) (.br (decide (Int.toNat y2 < List.length (uq1396 y0 y1 y2))) (.br (true) (.br (decide (0 ≤ y2 ∧ y2 < (↑(List.length (uq1397 y0 y1 y2)):Int))) (.br (decide (Int.toNat y2 < List.length (uq1397 y0 y1 y2))) (.br (true) (.br (decide (0 ≤ y2 ∧ y2 < (↑(List.length (uq1398 y0 y1 y2)):Int))) (.br (decide (Int.toNat y2 < List.length (uq1398 y0 y1 y2))) (.br (true) (.br (decide (0 ≤ y2 ∧ y2 < (↑(List.length (uq1399 y0 y1 y2)):Int))) (.br (decide (Int.toNat y2 < List.length (uq1399 y0 y1 y2))) (.br (true) (.br (true) (.go ((updE yT2 (uq1399 y0 y1 y2) (Int.toNat y2) fun x => (x.1,x.2.1,x.2.2.1,x.2.2.2.1,x.2.2.2.2.1,x.2.2.2.2.2.1,x.2.2.2.2.2.2.1,x.2.2.2.2.2.2.2.1,x.2.2.2.2.2.2.2.2.1,x.2.2.2.2.2.2.2.2.2.1,IntKind.i64.wrap (IntKind.i64.wrap (IntKind.i64.wrap (IntKind.i64.wrap (IntKind.i64.wrap (IntKind.i64.wrap (IntKind.i64.wrap (IntKind.i64.wrap (IntKind.i64.wrap (IntKind.i64.wrap (y1 + 1) + 1) + 1) + 1) + 1) + 1) + 1) + 1) + 1) + 1)),IntKind.i64.wrap (IntKind.i64.wrap (IntKind.i64.wrap (IntKind.i64.wrap (IntKind.i64.wrap (IntKind.i64.wrap (IntKind.i64.wrap (IntKind.i64.wrap (IntKind.i64.wrap (IntKind.i64.wrap (IntKind.i64.wrap (y1 + 1) + 1) + 1) + 1) + 1) + 1) + 1) + 1) + 1) + 1) + 1),IntKind.i64.wrap (y2 + 1)))) .bad) .bad) .bad) .bad) .bad) .bad) .bad) .bad) .bad) .bad) .bad) .bad) .bad) .bad) .bad) .bad) .bad) .bad) .bad) .bad) .bad) .bad) .bad) .bad) .bad) .bad) .bad) .bad) .bad) .bad) .bad) .bad) .bad) .bad) (.out ((y0,y1)))) .bad
noncomputable def g_LZ37_0 (x:tL2×Int×Int):Option ((tL2×Int)) := loopO (g_SZ37_0) x
noncomputable def xZ37_0:((tL2×Int)) → Ex×List (Pl×LV) := fun r => (.exit 0,[(.T 0,.t (.val false [.row 0 0 0])),(.R 0 0,.r 0 (some ⟨false,.any,true,83,(.pair (.int .i64) (.pair (.int .i64) (.pair (.int .i64) (.pair (.int .i64) (.pair (.int .i64) (.pair (.int .i64) (.pair (.int .i64) (.pair (.int .i64) (.pair (.int .i64) (.pair (.int .i64) (.int .i64))))))))))),r.1⟩)),(.T 1,.t (.val false [.int .i64 r.2]))])
noncomputable def OZ37_1:Orc := fun b h => match b,h with
 | 0,[(.T 0,.t (.val false [.row 0 0 0])),(.R 0 0,.r 0 (some ⟨false,.any,true,83,(.pair (.int .i64) (.pair (.int .i64) (.pair (.int .i64) (.pair (.int .i64) (.pair (.int .i64) (.pair (.int .i64) (.pair (.int .i64) (.pair (.int .i64) (.pair (.int .i64) (.pair (.int .i64) (.int .i64))))))))))),y0⟩)),(.T 1,.t (.val false [.int .i64 y1])),(.T 5,.t (.val false [.int .i64 y2]))] => some (okO (g_LZ37_0 (y0,y1,y2)),(.leaf (.exit 0) [(.T 0,.t (.val false [.row 0 0 0])),(.R 0 0,.r 0 (some ⟨false,.any,true,83,(.pair (.int .i64) (.pair (.int .i64) (.pair (.int .i64) (.pair (.int .i64) (.pair (.int .i64) (.pair (.int .i64) (.pair (.int .i64) (.pair (.int .i64) (.pair (.int .i64) (.pair (.int .i64) (.int .i64))))))))))),(valO (g_LZ37_0 (y0,y1,y2))).1⟩)),(.T 1,.t (.val false [.int .i64 (valO (g_LZ37_0 (y0,y1,y2))).2]))]))
 | b,h => OZ37_0 b h
theorem bZ37_0 (y0:tL2) (y1:Int) (y2:Int):Tr.bt EZ37 OZ37_0 (exec EZ37 0 cZ37_0 (St.of (hZ37_0 y0 y1 y2)) (leafRd EZ37 0)) = (g_SZ37_0 (y0,y1,y2)).bt (fun ((y0,y1,y2):tL2×Int×Int) => (hZ37_0 y0 y1 y2)) (xZ37_0) := by kernel_rfl
theorem kZ37_1:OrcOk EZ37 OZ37_1 lsZ37 1 := orc_add kZ37_0 (fun n p hp h ex h' ho => by
 obtain ⟨b,c⟩ := p
 obtain ⟨xt,h1,h2⟩ := ho
 have h1:OZ37_1 b h = some (true,xt) := h1
 unfold OZ37_1 at h1
 split at h1
 ·injection h1 with h1
  injection h1 with e1 e2
  subst e2
  have hc:c = cZ37_0 := mZ37_0 _ hp rfl
  subst hc
  right
  rename_i y0 y1 y2
  have key := LT_step kZ37_0 hp (fun q hq => loopsAll_in _ _ _ _ hp hq) (fun ((y0,y1,y2):tL2×Int×Int) => (hZ37_0 y0 y1 y2)) (xZ37_0) (g_SZ37_0) (fun x => by first | exact bZ37_0 x.1 x.2.1 x.2.2) n (x := (y0,y1,y2)) (okO_some e1)
  have hx:∀ r,XT.sel (.leaf (.exit 0) [(.T 0,.t (.val false [.row 0 0 0])),(.R 0 0,.r 0 (some ⟨false,.any,true,83,(.pair (.int .i64) (.pair (.int .i64) (.pair (.int .i64) (.pair (.int .i64) (.pair (.int .i64) (.pair (.int .i64) (.pair (.int .i64) (.pair (.int .i64) (.pair (.int .i64) (.pair (.int .i64) (.int .i64))))))))))),r.1⟩)),(.T 1,.t (.val false [.int .i64 r.2]))]) = xZ37_0 r := fun r => by first | rfl | rcases r with r | r <;> rfl | rcases r with r | r | r <;> rfl | rcases r with r | r | r | r <;> rfl
  have h3 := (hx (valO (g_LZ37_0 (y0,y1,y2)))).symm.trans h2
  have e3 := congrArg Prod.fst h3
  have e4 := congrArg Prod.snd h3
  simp only at e3 e4
  rw [← e3,← e4]
  exact key
 ·exact .inl ⟨xt,h1,h2⟩)
noncomputable def g_AZ37 (a0:tL2) (a1:Int):Bool := okO (g_LZ37_0 (a0,a1,(0:Int)))
noncomputable def g_VZ37_0 (a0:tL2) (a1:Int):Int := (valO (g_LZ37_0 (a0,a1,(0:Int)))).2
noncomputable def g_VZ37_1 (a0:tL2) (a1:Int):tL2 := (valO (g_LZ37_0 (a0,a1,(0:Int)))).1
noncomputable def FZ37:FSem := fun ys => match ys with
 | [.val false [.own .any true 83 (.pair (.int .i64) (.pair (.int .i64) (.pair (.int .i64) (.pair (.int .i64) (.pair (.int .i64) (.pair (.int .i64) (.pair (.int .i64) (.pair (.int .i64) (.pair (.int .i64) (.pair (.int .i64) (.int .i64))))))))))) a0],.val false [.int .i64 a1]] => some ((g_AZ37 a0 a1),.val false [.int .i64 (g_VZ37_0 a0 a1)],[[.own .any true 83 (.pair (.int .i64) (.pair (.int .i64) (.pair (.int .i64) (.pair (.int .i64) (.pair (.int .i64) (.pair (.int .i64) (.pair (.int .i64) (.pair (.int .i64) (.pair (.int .i64) (.pair (.int .i64) (.int .i64))))))))))) (g_VZ37_1 a0 a1)]])
 | _ => none
theorem vZ37 (a0:tL2) (a1:Int):collapseH .std EZ37 OZ37_1 (execFn EZ37 Tryz.f14 msZ37 [.val false [.own .any true 83 (.pair (.int .i64) (.pair (.int .i64) (.pair (.int .i64) (.pair (.int .i64) (.pair (.int .i64) (.pair (.int .i64) (.pair (.int .i64) (.pair (.int .i64) (.pair (.int .i64) (.pair (.int .i64) (.int .i64))))))))))) a0],.val false [.int .i64 a1]]) = some ((g_AZ37 a0 a1),.val false [.int .i64 (g_VZ37_0 a0 a1)],[[.own .any true 83 (.pair (.int .i64) (.pair (.int .i64) (.pair (.int .i64) (.pair (.int .i64) (.pair (.int .i64) (.pair (.int .i64) (.pair (.int .i64) (.pair (.int .i64) (.pair (.int .i64) (.pair (.int .i64) (.int .i64))))))))))) (g_VZ37_1 a0 a1)]]) := by kernel_rfl
theorem sZ37:Sound Tryz.prog 14 msZ37 FZ37 := by
 refine fn_gen goodZ37 (by kernel_rfl) .std (fn := Tryz.f14) (c := (Tryz.f14.body.getD .skip)) (o := OZ37_1) (k := 1) (by kernel_rfl) (by kernel_rfl) (by kernel_rfl) (by kernel_rfl) (by decide) kZ37_1 ?_
 intro ys r outs h
 unfold FZ37 at h
 split at h
 ·exact (vZ37 _ _).trans h
 ·cases h
noncomputable def Ew_szIntS:Env where
 tt := mkTI Tryz.prog
 fn := fun _ => none
 bxf := fun _ => none
 mv := []
 keep := fun _ => []
 keepB := fun _ => []
 keepX := fun _ => []
 keepXB := fun _ => []
theorem goodFw_szIntS:∀ f ms F,Ew_szIntS.fn f = some (ms,F) → Sound Tryz.prog f ms F := fun f ms F h => by cases h
theorem goodw_szIntS:Good Tryz.prog Ew_szIntS := ⟨rfl,goodFw_szIntS,fun f ms F h => by cases h⟩
noncomputable def Ow_szIntS_0:Orc := fun _ _ => none
noncomputable def msw_szIntS:List PM := [.rd,.own]
noncomputable def lsw_szIntS:List (Nat×Code) := loopsAll 0 (Tryz.f133.body.getD .skip)
theorem kw_szIntS_0:OrcOk Ew_szIntS Ow_szIntS_0 lsw_szIntS 0 := orcOk_none
noncomputable def g_Vw_szIntS_0 (a0:List Int) (a1:Int):Int := bif decide (IntKind.i64.wrap (a1 - (a0.length:Int)) < 0) then (-1:Int) else IntKind.i64.wrap (a1 - (a0.length:Int))
noncomputable def Fw_szIntS:FSem := fun ys => match ys with
 | [.val false [.sl .any 3 (.int .i64) a0],.val false [.int .i64 a1]] => some (true,.val false [.int .i64 (g_Vw_szIntS_0 a0 a1)],[])
 | _ => none
theorem vw_szIntS (a0:List Int) (a1:Int):collapseH .std Ew_szIntS Ow_szIntS_0 (execFn Ew_szIntS Tryz.f133 msw_szIntS [.val false [.sl .any 3 (.int .i64) a0],.val false [.int .i64 a1]]) = some (true,.val false [.int .i64 (g_Vw_szIntS_0 a0 a1)],[]) := by kernel_rfl
theorem sw_szIntS:Sound Tryz.prog 133 msw_szIntS Fw_szIntS := by
 refine fn_gen goodw_szIntS (by kernel_rfl) .std (fn := Tryz.f133) (c := (Tryz.f133.body.getD .skip)) (o := Ow_szIntS_0) (k := 0) (by kernel_rfl) (by kernel_rfl) (by kernel_rfl) (by kernel_rfl) (by decide) kw_szIntS_0 ?_
 intro ys r outs h
 unfold Fw_szIntS at h
 split at h
 ·exact (vw_szIntS _ _).trans h
 ·cases h
noncomputable def Ew_szFroTx:Env where
 tt := mkTI Tryz.prog
 fn := fun f => match f with
  | 133 => some (msw_szIntS,FSem.wk msw_szIntS Fw_szIntS)
  | _ => none
 bxf := fun _ => none
 mv := []
 keep := fun _ => []
 keepB := fun _ => []
 keepX := fun _ => []
 keepXB := fun _ => []
theorem goodFw_szFroTx:∀ f ms F,Ew_szFroTx.fn f = some (ms,F) → Sound Tryz.prog f ms F := fun f ms F h => by
 unfold Ew_szFroTx at h
 dsimp only at h
 split at h
 ·exact gF sw_szIntS h
 ·cases h
theorem goodw_szFroTx:Good Tryz.prog Ew_szFroTx := ⟨rfl,goodFw_szFroTx,fun f ms F h => by cases h⟩
noncomputable def Ow_szFroTx_0:Orc := fun _ _ => none
noncomputable def msw_szFroTx:List PM := [.rd,.own]
noncomputable def lsw_szFroTx:List (Nat×Code) := loopsAll 0 (Tryz.f89.body.getD .skip)
theorem kw_szFroTx_0:OrcOk Ew_szFroTx Ow_szFroTx_0 lsw_szFroTx 0 := orcOk_none
noncomputable def g_Aw_szFroTx (a0:Int) (a1:Int) (a2:Int) (a3:Int) (a4:Int) (a5:Int) (a6:Int) (a7:Int) (a8:Bool) (a9:List Int) (a10:List Int) (a11:Int):Bool := decide (g_Vw_szIntS_0 a9 a11 < 0) || true
noncomputable def g_Vw_szFroTx_0 (a0:Int) (a1:Int) (a2:Int) (a3:Int) (a4:Int) (a5:Int) (a6:Int) (a7:Int) (a8:Bool) (a9:List Int) (a10:List Int) (a11:Int):Int := bif decide (g_Vw_szIntS_0 a9 a11 < 0) then (-1:Int) else bif decide (g_Vw_szIntS_0 a10 (g_Vw_szIntS_0 a9 a11) < 0) then (-1:Int) else g_Vw_szIntS_0 a10 (g_Vw_szIntS_0 a9 a11)
noncomputable def Fw_szFroTx:FSem := fun ys => match ys with
 | [.val true [.int .i64 a0,.int .i64 a1,.int .i64 a2,.int .i64 a3,.int .i64 a4,.int .i64 a5,.int .i64 a6,.int .i64 a7,.bool a8,.sl .any 3 (.int .i64) a9,.sl .any 3 (.int .i64) a10],.val false [.int .i64 a11]] => some ((g_Aw_szFroTx a0 a1 a2 a3 a4 a5 a6 a7 a8 a9 a10 a11),.val false [.int .i64 (g_Vw_szFroTx_0 a0 a1 a2 a3 a4 a5 a6 a7 a8 a9 a10 a11)],[])
 | _ => none
theorem vw_szFroTx (a0:Int) (a1:Int) (a2:Int) (a3:Int) (a4:Int) (a5:Int) (a6:Int) (a7:Int) (a8:Bool) (a9:List Int) (a10:List Int) (a11:Int):collapseH .std Ew_szFroTx Ow_szFroTx_0 (execFn Ew_szFroTx Tryz.f89 msw_szFroTx [.val true [.int .i64 a0,.int .i64 a1,.int .i64 a2,.int .i64 a3,.int .i64 a4,.int .i64 a5,.int .i64 a6,.int .i64 a7,.bool a8,.sl .any 3 (.int .i64) a9,.sl .any 3 (.int .i64) a10],.val false [.int .i64 a11]]) = some ((g_Aw_szFroTx a0 a1 a2 a3 a4 a5 a6 a7 a8 a9 a10 a11),.val false [.int .i64 (g_Vw_szFroTx_0 a0 a1 a2 a3 a4 a5 a6 a7 a8 a9 a10 a11)],[]) := by kernel_rfl
theorem sw_szFroTx:Sound Tryz.prog 89 msw_szFroTx Fw_szFroTx := by
 refine fn_gen goodw_szFroTx (by kernel_rfl) .std (fn := Tryz.f89) (c := (Tryz.f89.body.getD .skip)) (o := Ow_szFroTx_0) (k := 0) (by kernel_rfl) (by kernel_rfl) (by kernel_rfl) (by kernel_rfl) (by decide) kw_szFroTx_0 ?_
 intro ys r outs h
 unfold Fw_szFroTx at h
 split at h
 ·exact (vw_szFroTx _ _ _ _ _ _ _ _ _ _ _ _).trans h
 ·cases h
noncomputable def EZ78:Env where
 tt := mkTI Tryz.prog
 fn := fun f => match f with
  | 89 => some (msw_szFroTx,FSem.wk msw_szFroTx Fw_szFroTx)
  | _ => none
 bxf := fun _ => none
 mv := []
 keep := fun b => match b with
  | 0 => [(0,false),(1,false),(5,false)]
  | _ => []
 keepB := fun b => match b with
  | 0 => []
  | _ => []
 keepX := fun b => match b with
  | 0 => [(1,false),(4,false)]
  | _ => []
 keepXB := fun b => match b with
  | 0 => []
  | _ => []
theorem goodFZ78:∀ f ms F,EZ78.fn f = some (ms,F) → Sound Tryz.prog f ms F := fun f ms F h => by
 unfold EZ78 at h
 dsimp only at h
 split at h
 ·exact gF sw_szFroTx h
 ·cases h
theorem goodZ78:Good Tryz.prog EZ78 := ⟨rfl,goodFZ78,fun f ms F h => by cases h⟩
noncomputable def OZ78_0:Orc := fun _ _ => none
noncomputable def msZ78:List PM := [.rd,.own]
noncomputable def lsZ78:List (Nat×Code) := loopsAll 0 (Tryz.f28.body.getD .skip)
noncomputable def cZ78_0:Code := (loopOf 0 (Tryz.f28.body.getD .skip)).getD .skip
theorem lseqZ78:lsZ78 = [(0,cZ78_0)] := by kernel_rfl
theorem mZ78_0:∀ p,p ∈ lsZ78 → p.1 = 0 → p.2 = cZ78_0 := by
 intro p hp
 rw [lseqZ78] at hp
 simp only [List.mem_cons,List.not_mem_nil,or_false] at hp
 subst hp; simp
theorem kZ78_0:OrcOk EZ78 OZ78_0 lsZ78 0 := orcOk_none
noncomputable def hZ78_0 (y0:tL0) (y1:Int) (y2:Int):List (Pl×LV) := [(.T 0,.t (.val false [.sl .any 129 (.pair (.int .i64) (.pair (.pair (.int .i64) (.pair (.int .i64) (.pair (.int .i64) (.pair (.int .i64) (.pair (.int .i64) (.pair (.int .i64) (.int .i64))))))) (.pair .bool (.pair (.sl 3 (.int .i64)) (.sl 3 (.int .i64)))))) y0])),(.T 1,.t (.val false [.int .i64 y1])),(.T 5,.t (.val false [.int .i64 y2]))]
noncomputable def g_SZ78_0 (y0:tL0):(Int×Int) → RT (Int×Int) ((Int×Int) ⊕ (Int))
 | (y1,y2) => .br (true) (.br (decide (y2 < (y0.length:Int))) (.br (decide (0 ≤ y2 ∧ y2 < (y0.length:Int))) (.br (g_Aw_szFroTx (at_ yT0 y0 (Int.toNat y2)).1 (at_ yT0 y0 (Int.toNat y2)).2.1.1 (at_ yT0 y0 (Int.toNat y2)).2.1.2.1 (at_ yT0 y0 (Int.toNat y2)).2.1.2.2.1 (at_ yT0 y0 (Int.toNat y2)).2.1.2.2.2.1 (at_ yT0 y0 (Int.toNat y2)).2.1.2.2.2.2.1 (at_ yT0 y0 (Int.toNat y2)).2.1.2.2.2.2.2.1 (at_ yT0 y0 (Int.toNat y2)).2.1.2.2.2.2.2.2 (at_ yT0 y0 (Int.toNat y2)).2.2.1 (at_ yT0 y0 (Int.toNat y2)).2.2.2.1 (at_ yT0 y0 (Int.toNat y2)).2.2.2.2 y1) (.br (true) (.br (decide (g_Vw_szFroTx_0 (at_ yT0 y0 (Int.toNat y2)).1 (at_ yT0 y0 (Int.toNat y2)).2.1.1 (at_ yT0 y0 (Int.toNat y2)).2.1.2.1 (at_ yT0 y0 (Int.toNat y2)).2.1.2.2.1 (at_ yT0 y0 (Int.toNat y2)).2.1.2.2.2.1 (at_ yT0 y0 (Int.toNat y2)).2.1.2.2.2.2.1 (at_ yT0 y0 (Int.toNat y2)).2.1.2.2.2.2.2.1 (at_ yT0 y0 (Int.toNat y2)).2.1.2.2.2.2.2.2 (at_ yT0 y0 (Int.toNat y2)).2.2.1 (at_ yT0 y0 (Int.toNat y2)).2.2.2.1 (at_ yT0 y0 (Int.toNat y2)).2.2.2.2 y1 < 0)) (.out (.inl ((g_Vw_szFroTx_0 (at_ yT0 y0 (Int.toNat y2)).1 (at_ yT0 y0 (Int.toNat y2)).2.1.1 (at_ yT0 y0 (Int.toNat y2)).2.1.2.1 (at_ yT0 y0 (Int.toNat y2)).2.1.2.2.1 (at_ yT0 y0 (Int.toNat y2)).2.1.2.2.2.1 (at_ yT0 y0 (Int.toNat y2)).2.1.2.2.2.2.1 (at_ yT0 y0 (Int.toNat y2)).2.1.2.2.2.2.2.1 (at_ yT0 y0 (Int.toNat y2)).2.1.2.2.2.2.2.2 (at_ yT0 y0 (Int.toNat y2)).2.2.1 (at_ yT0 y0 (Int.toNat y2)).2.2.2.1 (at_ yT0 y0 (Int.toNat y2)).2.2.2.2 y1,(-1:Int))))) (.br (true) (.go ((g_Vw_szFroTx_0 (at_ yT0 y0 (Int.toNat y2)).1 (at_ yT0 y0 (Int.toNat y2)).2.1.1 (at_ yT0 y0 (Int.toNat y2)).2.1.2.1 (at_ yT0 y0 (Int.toNat y2)).2.1.2.2.1 (at_ yT0 y0 (Int.toNat y2)).2.1.2.2.2.1 (at_ yT0 y0 (Int.toNat y2)).2.1.2.2.2.2.1 (at_ yT0 y0 (Int.toNat y2)).2.1.2.2.2.2.2.1 (at_ yT0 y0 (Int.toNat y2)).2.1.2.2.2.2.2.2 (at_ yT0 y0 (Int.toNat y2)).2.2.1 (at_ yT0 y0 (Int.toNat y2)).2.2.2.1 (at_ yT0 y0 (Int.toNat y2)).2.2.2.2 y1,IntKind.i64.wrap (y2 + 1)))) .bad)) .bad) .bad) .bad) (.out (.inr (y1)))) .bad
noncomputable def g_LZ78_0 (y0:tL0) (x:Int×Int):Option ((Int×Int) ⊕ (Int)) := loopO (g_SZ78_0 y0) x
noncomputable def xZ78_0 (y0:tL0):((Int×Int) ⊕ (Int)) → Ex×List (Pl×LV) := fun
 | .inl r => (.ret,[(.T 1,.t (.val false [.int .i64 r.1])),(.T 4,.t (.val false [.int .i64 r.2]))])
 | .inr (r) => (.exit 0,[(.T 1,.t (.val false [.int .i64 r])),(.T 4,.t (.val false [.undef]))])
noncomputable def OZ78_1:Orc := fun b h => match b,h with
 | 0,[(.T 0,.t (.val false [.sl .any 129 (.pair (.int .i64) (.pair (.pair (.int .i64) (.pair (.int .i64) (.pair (.int .i64) (.pair (.int .i64) (.pair (.int .i64) (.pair (.int .i64) (.int .i64))))))) (.pair .bool (.pair (.sl 3 (.int .i64)) (.sl 3 (.int .i64)))))) y0])),(.T 1,.t (.val false [.int .i64 y1])),(.T 5,.t (.val false [.int .i64 y2]))] => some (okO (g_LZ78_0 y0 (y1,y2)),(.br (isL (valO (g_LZ78_0 y0 (y1,y2)))) (.leaf .ret [(.T 1,.t (.val false [.int .i64 (getL (valO (g_LZ78_0 y0 (y1,y2)))).1])),(.T 4,.t (.val false [.int .i64 (getL (valO (g_LZ78_0 y0 (y1,y2)))).2]))]) (.leaf (.exit 0) [(.T 1,.t (.val false [.int .i64 (getR (valO (g_LZ78_0 y0 (y1,y2))))])),(.T 4,.t (.val false [.undef]))])))
 | b,h => OZ78_0 b h
theorem bZ78_0 (y0:tL0) (y1:Int) (y2:Int):Tr.bt EZ78 OZ78_0 (exec EZ78 0 cZ78_0 (St.of (hZ78_0 y0 y1 y2)) (leafRd EZ78 0)) = (g_SZ78_0 y0 (y1,y2)).bt (fun ((y1,y2):Int×Int) => (hZ78_0 y0 y1 y2)) (xZ78_0 y0) := by kernel_rfl
theorem kZ78_1:OrcOk EZ78 OZ78_1 lsZ78 1 := orc_add kZ78_0 (fun n p hp h ex h' ho => by
 obtain ⟨b,c⟩ := p
 obtain ⟨xt,h1,h2⟩ := ho
 have h1:OZ78_1 b h = some (true,xt) := h1
 unfold OZ78_1 at h1
 split at h1
 ·injection h1 with h1
  injection h1 with e1 e2
  subst e2
  have hc:c = cZ78_0 := mZ78_0 _ hp rfl
  subst hc
  right
  rename_i y0 y1 y2
  have key := LT_step kZ78_0 hp (fun q hq => loopsAll_in _ _ _ _ hp hq) (fun ((y1,y2):Int×Int) => (hZ78_0 y0 y1 y2)) (xZ78_0 y0) (g_SZ78_0 y0) (fun x => by first | exact bZ78_0 y0 x.1 x.2) n (x := (y1,y2)) (okO_some e1)
  have hx:∀ r,XT.sel (.br (isL r) (.leaf .ret [(.T 1,.t (.val false [.int .i64 (getL r).1])),(.T 4,.t (.val false [.int .i64 (getL r).2]))]) (.leaf (.exit 0) [(.T 1,.t (.val false [.int .i64 (getR r)])),(.T 4,.t (.val false [.undef]))])) = xZ78_0 y0 r := fun r => by first | rfl | rcases r with r | r <;> rfl | rcases r with r | r | r <;> rfl | rcases r with r | r | r | r <;> rfl
  have h3 := (hx (valO (g_LZ78_0 y0 (y1,y2)))).symm.trans h2
  have e3 := congrArg Prod.fst h3
  have e4 := congrArg Prod.snd h3
  simp only at e3 e4
  rw [← e3,← e4]
  exact key
 ·exact .inl ⟨xt,h1,h2⟩)
noncomputable def g_AZ78 (a0:tL0) (a1:Int):Bool := decide (IntKind.i64.wrap (a1 - (a0.length:Int)) < 0) || okO (g_LZ78_0 a0 (IntKind.i64.wrap (a1 - (a0.length:Int)),(0:Int)))
noncomputable def g_VZ78_0 (a0:tL0) (a1:Int):Int := bif decide (IntKind.i64.wrap (a1 - (a0.length:Int)) < 0) then (-1:Int) else bif isL (valO (g_LZ78_0 a0 (IntKind.i64.wrap (a1 - (a0.length:Int)),(0:Int)))) then (getL (valO (g_LZ78_0 a0 (IntKind.i64.wrap (a1 - (a0.length:Int)),(0:Int))))).2 else getR (valO (g_LZ78_0 a0 (IntKind.i64.wrap (a1 - (a0.length:Int)),(0:Int))))
noncomputable def FZ78:FSem := fun ys => match ys with
 | [.val false [.sl .any 129 (.pair (.int .i64) (.pair (.pair (.int .i64) (.pair (.int .i64) (.pair (.int .i64) (.pair (.int .i64) (.pair (.int .i64) (.pair (.int .i64) (.int .i64))))))) (.pair .bool (.pair (.sl 3 (.int .i64)) (.sl 3 (.int .i64)))))) a0],.val false [.int .i64 a1]] => some ((g_AZ78 a0 a1),.val false [.int .i64 (g_VZ78_0 a0 a1)],[])
 | _ => none
theorem vZ78 (a0:tL0) (a1:Int):collapseH .std EZ78 OZ78_1 (execFn EZ78 Tryz.f28 msZ78 [.val false [.sl .any 129 (.pair (.int .i64) (.pair (.pair (.int .i64) (.pair (.int .i64) (.pair (.int .i64) (.pair (.int .i64) (.pair (.int .i64) (.pair (.int .i64) (.int .i64))))))) (.pair .bool (.pair (.sl 3 (.int .i64)) (.sl 3 (.int .i64)))))) a0],.val false [.int .i64 a1]]) = some ((g_AZ78 a0 a1),.val false [.int .i64 (g_VZ78_0 a0 a1)],[]) := by kernel_rfl
theorem sZ78:Sound Tryz.prog 28 msZ78 FZ78 := by
 refine fn_gen goodZ78 (by kernel_rfl) .std (fn := Tryz.f28) (c := (Tryz.f28.body.getD .skip)) (o := OZ78_1) (k := 1) (by kernel_rfl) (by kernel_rfl) (by kernel_rfl) (by kernel_rfl) (by decide) kZ78_1 ?_
 intro ys r outs h
 unfold FZ78 at h
 split at h
 ·exact (vZ78 _ _).trans h
 ·cases h
noncomputable def EZ47:Env where
 tt := mkTI Tryz.prog
 fn := fun f => match f with
  | 133 => some (msw_szIntS,FSem.wk msw_szIntS Fw_szIntS)
  | _ => none
 bxf := fun _ => none
 mv := []
 keep := fun _ => []
 keepB := fun _ => []
 keepX := fun _ => []
 keepXB := fun _ => []
theorem goodFZ47:∀ f ms F,EZ47.fn f = some (ms,F) → Sound Tryz.prog f ms F := fun f ms F h => by
 unfold EZ47 at h
 dsimp only at h
 split at h
 ·exact gF sw_szIntS h
 ·cases h
theorem goodZ47:Good Tryz.prog EZ47 := ⟨rfl,goodFZ47,fun f ms F h => by cases h⟩
noncomputable def OZ47_0:Orc := fun _ _ => none
noncomputable def msZ47:List PM := [.rd,.own]
noncomputable def lsZ47:List (Nat×Code) := loopsAll 0 (Tryz.f173.body.getD .skip)
theorem kZ47_0:OrcOk EZ47 OZ47_0 lsZ47 0 := orcOk_none
noncomputable def g_AZ47 (a0:ByteArray) (a1:Bool) (a2:List Int) (a3:Int):Bool := decide (IntKind.i64.wrap (a3 - (↑(ByteArray.size a0):Int)) < 0) || true
noncomputable def g_VZ47_0 (a0:ByteArray) (a1:Bool) (a2:List Int) (a3:Int):Int := bif decide (IntKind.i64.wrap (a3 - (↑(ByteArray.size a0):Int)) < 0) then (-1:Int) else bif decide (g_Vw_szIntS_0 a2 (IntKind.i64.wrap (a3 - (↑(ByteArray.size a0):Int))) < 0) then (-1:Int) else g_Vw_szIntS_0 a2 (IntKind.i64.wrap (a3 - (↑(ByteArray.size a0):Int)))
noncomputable def FZ47:FSem := fun ys => match ys with
 | [.val true [.str a0,.bool a1,.sl .any 3 (.int .i64) a2],.val false [.int .i64 a3]] => some ((g_AZ47 a0 a1 a2 a3),.val false [.int .i64 (g_VZ47_0 a0 a1 a2 a3)],[])
 | _ => none
theorem vZ47 (a0:ByteArray) (a1:Bool) (a2:List Int) (a3:Int):collapseH .std EZ47 OZ47_0 (execFn EZ47 Tryz.f173 msZ47 [.val true [.str a0,.bool a1,.sl .any 3 (.int .i64) a2],.val false [.int .i64 a3]]) = some ((g_AZ47 a0 a1 a2 a3),.val false [.int .i64 (g_VZ47_0 a0 a1 a2 a3)],[]) := by kernel_rfl
theorem sZ47:Sound Tryz.prog 173 msZ47 FZ47 := by
 refine fn_gen goodZ47 (by kernel_rfl) .std (fn := Tryz.f173) (c := (Tryz.f173.body.getD .skip)) (o := OZ47_0) (k := 0) (by kernel_rfl) (by kernel_rfl) (by kernel_rfl) (by kernel_rfl) (by decide) kZ47_0 ?_
 intro ys r outs h
 unfold FZ47 at h
 split at h
 ·exact (vZ47 _ _ _ _).trans h
 ·cases h
noncomputable def EZ38:Env where
 tt := mkTI Tryz.prog
 fn := fun f => match f with
  | 173 => some (msZ47,FSem.wk msZ47 FZ47)
  | _ => none
 bxf := fun _ => none
 mv := []
 keep := fun b => match b with
  | 0 => [(0,false),(1,false),(5,false)]
  | _ => []
 keepB := fun b => match b with
  | 0 => []
  | _ => []
 keepX := fun b => match b with
  | 0 => [(1,false),(4,false)]
  | _ => []
 keepXB := fun b => match b with
  | 0 => []
  | _ => []
theorem goodFZ38:∀ f ms F,EZ38.fn f = some (ms,F) → Sound Tryz.prog f ms F := fun f ms F h => by
 unfold EZ38 at h
 dsimp only at h
 split at h
 ·exact gF sZ47 h
 ·cases h
theorem goodZ38:Good Tryz.prog EZ38 := ⟨rfl,goodFZ38,fun f ms F h => by cases h⟩
noncomputable def OZ38_0:Orc := fun _ _ => none
noncomputable def msZ38:List PM := [.rd,.own]
noncomputable def lsZ38:List (Nat×Code) := loopsAll 0 (Tryz.f154.body.getD .skip)
noncomputable def cZ38_0:Code := (loopOf 0 (Tryz.f154.body.getD .skip)).getD .skip
theorem lseqZ38:lsZ38 = [(0,cZ38_0)] := by kernel_rfl
theorem mZ38_0:∀ p,p ∈ lsZ38 → p.1 = 0 → p.2 = cZ38_0 := by
 intro p hp
 rw [lseqZ38] at hp
 simp only [List.mem_cons,List.not_mem_nil,or_false] at hp
 subst hp; simp
theorem kZ38_0:OrcOk EZ38 OZ38_0 lsZ38 0 := orcOk_none
noncomputable def hZ38_0 (y0:tL3) (y1:Int) (y2:Int):List (Pl×LV) := [(.T 0,.t (.val false [.sl .any 196 (.pair .str (.pair .bool (.sl 3 (.int .i64)))) y0])),(.T 1,.t (.val false [.int .i64 y1])),(.T 5,.t (.val false [.int .i64 y2]))]
noncomputable def g_SZ38_0 (y0:tL3):(Int×Int) → RT (Int×Int) ((Int×Int) ⊕ (Int))
 | (y1,y2) => .br (true) (.br (decide (y2 < (y0.length:Int))) (.br (decide (0 ≤ y2 ∧ y2 < (y0.length:Int))) (.br (g_AZ47 (at_ yT3 y0 (Int.toNat y2)).1 (at_ yT3 y0 (Int.toNat y2)).2.1 (at_ yT3 y0 (Int.toNat y2)).2.2 y1) (.br (true) (.br (decide (g_VZ47_0 (at_ yT3 y0 (Int.toNat y2)).1 (at_ yT3 y0 (Int.toNat y2)).2.1 (at_ yT3 y0 (Int.toNat y2)).2.2 y1 < 0)) (.out (.inl ((g_VZ47_0 (at_ yT3 y0 (Int.toNat y2)).1 (at_ yT3 y0 (Int.toNat y2)).2.1 (at_ yT3 y0 (Int.toNat y2)).2.2 y1,(-1:Int))))) (.br (true) (.go ((g_VZ47_0 (at_ yT3 y0 (Int.toNat y2)).1 (at_ yT3 y0 (Int.toNat y2)).2.1 (at_ yT3 y0 (Int.toNat y2)).2.2 y1,IntKind.i64.wrap (y2 + 1)))) .bad)) .bad) .bad) .bad) (.out (.inr (y1)))) .bad
noncomputable def g_LZ38_0 (y0:tL3) (x:Int×Int):Option ((Int×Int) ⊕ (Int)) := loopO (g_SZ38_0 y0) x
noncomputable def xZ38_0 (y0:tL3):((Int×Int) ⊕ (Int)) → Ex×List (Pl×LV) := fun
 | .inl r => (.ret,[(.T 1,.t (.val false [.int .i64 r.1])),(.T 4,.t (.val false [.int .i64 r.2]))])
 | .inr (r) => (.exit 0,[(.T 1,.t (.val false [.int .i64 r])),(.T 4,.t (.val false [.undef]))])
noncomputable def OZ38_1:Orc := fun b h => match b,h with
 | 0,[(.T 0,.t (.val false [.sl .any 196 (.pair .str (.pair .bool (.sl 3 (.int .i64)))) y0])),(.T 1,.t (.val false [.int .i64 y1])),(.T 5,.t (.val false [.int .i64 y2]))] => some (okO (g_LZ38_0 y0 (y1,y2)),(.br (isL (valO (g_LZ38_0 y0 (y1,y2)))) (.leaf .ret [(.T 1,.t (.val false [.int .i64 (getL (valO (g_LZ38_0 y0 (y1,y2)))).1])),(.T 4,.t (.val false [.int .i64 (getL (valO (g_LZ38_0 y0 (y1,y2)))).2]))]) (.leaf (.exit 0) [(.T 1,.t (.val false [.int .i64 (getR (valO (g_LZ38_0 y0 (y1,y2))))])),(.T 4,.t (.val false [.undef]))])))
 | b,h => OZ38_0 b h
theorem bZ38_0 (y0:tL3) (y1:Int) (y2:Int):Tr.bt EZ38 OZ38_0 (exec EZ38 0 cZ38_0 (St.of (hZ38_0 y0 y1 y2)) (leafRd EZ38 0)) = (g_SZ38_0 y0 (y1,y2)).bt (fun ((y1,y2):Int×Int) => (hZ38_0 y0 y1 y2)) (xZ38_0 y0) := by kernel_rfl
theorem kZ38_1:OrcOk EZ38 OZ38_1 lsZ38 1 := orc_add kZ38_0 (fun n p hp h ex h' ho => by
 obtain ⟨b,c⟩ := p
 obtain ⟨xt,h1,h2⟩ := ho
 have h1:OZ38_1 b h = some (true,xt) := h1
 unfold OZ38_1 at h1
 split at h1
 ·injection h1 with h1
  injection h1 with e1 e2
  subst e2
  have hc:c = cZ38_0 := mZ38_0 _ hp rfl
  subst hc
  right
  rename_i y0 y1 y2
  have key := LT_step kZ38_0 hp (fun q hq => loopsAll_in _ _ _ _ hp hq) (fun ((y1,y2):Int×Int) => (hZ38_0 y0 y1 y2)) (xZ38_0 y0) (g_SZ38_0 y0) (fun x => by first | exact bZ38_0 y0 x.1 x.2) n (x := (y1,y2)) (okO_some e1)
  have hx:∀ r,XT.sel (.br (isL r) (.leaf .ret [(.T 1,.t (.val false [.int .i64 (getL r).1])),(.T 4,.t (.val false [.int .i64 (getL r).2]))]) (.leaf (.exit 0) [(.T 1,.t (.val false [.int .i64 (getR r)])),(.T 4,.t (.val false [.undef]))])) = xZ38_0 y0 r := fun r => by first | rfl | rcases r with r | r <;> rfl | rcases r with r | r | r <;> rfl | rcases r with r | r | r | r <;> rfl
  have h3 := (hx (valO (g_LZ38_0 y0 (y1,y2)))).symm.trans h2
  have e3 := congrArg Prod.fst h3
  have e4 := congrArg Prod.snd h3
  simp only at e3 e4
  rw [← e3,← e4]
  exact key
 ·exact .inl ⟨xt,h1,h2⟩)
noncomputable def g_AZ38 (a0:tL3) (a1:Int):Bool := decide (IntKind.i64.wrap (a1 - (a0.length:Int)) < 0) || okO (g_LZ38_0 a0 (IntKind.i64.wrap (a1 - (a0.length:Int)),(0:Int)))
noncomputable def g_VZ38_0 (a0:tL3) (a1:Int):Int := bif decide (IntKind.i64.wrap (a1 - (a0.length:Int)) < 0) then (-1:Int) else bif isL (valO (g_LZ38_0 a0 (IntKind.i64.wrap (a1 - (a0.length:Int)),(0:Int)))) then (getL (valO (g_LZ38_0 a0 (IntKind.i64.wrap (a1 - (a0.length:Int)),(0:Int))))).2 else getR (valO (g_LZ38_0 a0 (IntKind.i64.wrap (a1 - (a0.length:Int)),(0:Int))))
noncomputable def FZ38:FSem := fun ys => match ys with
 | [.val false [.sl .any 196 (.pair .str (.pair .bool (.sl 3 (.int .i64)))) a0],.val false [.int .i64 a1]] => some ((g_AZ38 a0 a1),.val false [.int .i64 (g_VZ38_0 a0 a1)],[])
 | _ => none
theorem vZ38 (a0:tL3) (a1:Int):collapseH .std EZ38 OZ38_1 (execFn EZ38 Tryz.f154 msZ38 [.val false [.sl .any 196 (.pair .str (.pair .bool (.sl 3 (.int .i64)))) a0],.val false [.int .i64 a1]]) = some ((g_AZ38 a0 a1),.val false [.int .i64 (g_VZ38_0 a0 a1)],[]) := by kernel_rfl
theorem sZ38:Sound Tryz.prog 154 msZ38 FZ38 := by
 refine fn_gen goodZ38 (by kernel_rfl) .std (fn := Tryz.f154) (c := (Tryz.f154.body.getD .skip)) (o := OZ38_1) (k := 1) (by kernel_rfl) (by kernel_rfl) (by kernel_rfl) (by kernel_rfl) (by decide) kZ38_1 ?_
 intro ys r outs h
 unfold FZ38 at h
 split at h
 ·exact (vZ38 _ _).trans h
 ·cases h
noncomputable def EZ58:Env where
 tt := mkTI Tryz.prog
 fn := fun _ => none
 bxf := fun _ => none
 mv := []
 keep := fun b => match b with
  | 0 => [(0,false),(1,false),(5,false)]
  | _ => []
 keepB := fun b => match b with
  | 0 => []
  | _ => []
 keepX := fun b => match b with
  | 0 => [(1,false),(4,false)]
  | _ => []
 keepXB := fun b => match b with
  | 0 => []
  | _ => []
theorem goodFZ58:∀ f ms F,EZ58.fn f = some (ms,F) → Sound Tryz.prog f ms F := fun f ms F h => by cases h
theorem goodZ58:Good Tryz.prog EZ58 := ⟨rfl,goodFZ58,fun f ms F h => by cases h⟩
noncomputable def OZ58_0:Orc := fun _ _ => none
noncomputable def msZ58:List PM := [.rd,.own]
noncomputable def lsZ58:List (Nat×Code) := loopsAll 0 (Tryz.f153.body.getD .skip)
noncomputable def cZ58_0:Code := (loopOf 0 (Tryz.f153.body.getD .skip)).getD .skip
theorem lseqZ58:lsZ58 = [(0,cZ58_0)] := by kernel_rfl
theorem mZ58_0:∀ p,p ∈ lsZ58 → p.1 = 0 → p.2 = cZ58_0 := by
 intro p hp
 rw [lseqZ58] at hp
 simp only [List.mem_cons,List.not_mem_nil,or_false] at hp
 subst hp; simp
theorem kZ58_0:OrcOk EZ58 OZ58_0 lsZ58 0 := orcOk_none
noncomputable def hZ58_0 (y0:List ByteArray) (y1:Int) (y2:Int):List (Pl×LV) := [(.T 0,.t (.val false [.sl .any 9 .str y0])),(.T 1,.t (.val false [.int .i64 y1])),(.T 5,.t (.val false [.int .i64 y2]))]
noncomputable def g_SZ58_0 (y0:List ByteArray):(Int×Int) → RT (Int×Int) ((Int×Int) ⊕ (Int))
 | (y1,y2) => .br (true) (.br (decide (y2 < (y0.length:Int))) (.br (decide (0 ≤ y2 ∧ y2 < (y0.length:Int))) (.br (true) (.br (true) (.br (decide (IntKind.i64.wrap (y1 - (↑(ByteArray.size (at_ Ty.str y0 (Int.toNat y2))):Int)) < 0)) (.out (.inl ((IntKind.i64.wrap (y1 - (↑(ByteArray.size (at_ Ty.str y0 (Int.toNat y2))):Int)),(-1:Int))))) (.br (true) (.go ((IntKind.i64.wrap (y1 - (↑(ByteArray.size (at_ Ty.str y0 (Int.toNat y2))):Int)),IntKind.i64.wrap (y2 + 1)))) .bad)) .bad) .bad) .bad) (.out (.inr (y1)))) .bad
noncomputable def g_LZ58_0 (y0:List ByteArray) (x:Int×Int):Option ((Int×Int) ⊕ (Int)) := loopO (g_SZ58_0 y0) x
noncomputable def xZ58_0 (y0:List ByteArray):((Int×Int) ⊕ (Int)) → Ex×List (Pl×LV) := fun
 | .inl r => (.ret,[(.T 1,.t (.val false [.int .i64 r.1])),(.T 4,.t (.val false [.int .i64 r.2]))])
 | .inr (r) => (.exit 0,[(.T 1,.t (.val false [.int .i64 r])),(.T 4,.t (.val false [.undef]))])
noncomputable def OZ58_1:Orc := fun b h => match b,h with
 | 0,[(.T 0,.t (.val false [.sl .any 9 .str y0])),(.T 1,.t (.val false [.int .i64 y1])),(.T 5,.t (.val false [.int .i64 y2]))] => some (okO (g_LZ58_0 y0 (y1,y2)),(.br (isL (valO (g_LZ58_0 y0 (y1,y2)))) (.leaf .ret [(.T 1,.t (.val false [.int .i64 (getL (valO (g_LZ58_0 y0 (y1,y2)))).1])),(.T 4,.t (.val false [.int .i64 (getL (valO (g_LZ58_0 y0 (y1,y2)))).2]))]) (.leaf (.exit 0) [(.T 1,.t (.val false [.int .i64 (getR (valO (g_LZ58_0 y0 (y1,y2))))])),(.T 4,.t (.val false [.undef]))])))
 | b,h => OZ58_0 b h
theorem bZ58_0 (y0:List ByteArray) (y1:Int) (y2:Int):Tr.bt EZ58 OZ58_0 (exec EZ58 0 cZ58_0 (St.of (hZ58_0 y0 y1 y2)) (leafRd EZ58 0)) = (g_SZ58_0 y0 (y1,y2)).bt (fun ((y1,y2):Int×Int) => (hZ58_0 y0 y1 y2)) (xZ58_0 y0) := by kernel_rfl
theorem kZ58_1:OrcOk EZ58 OZ58_1 lsZ58 1 := orc_add kZ58_0 (fun n p hp h ex h' ho => by
 obtain ⟨b,c⟩ := p
 obtain ⟨xt,h1,h2⟩ := ho
 have h1:OZ58_1 b h = some (true,xt) := h1
 unfold OZ58_1 at h1
 split at h1
 ·injection h1 with h1
  injection h1 with e1 e2
  subst e2
  have hc:c = cZ58_0 := mZ58_0 _ hp rfl
  subst hc
  right
  rename_i y0 y1 y2
  have key := LT_step kZ58_0 hp (fun q hq => loopsAll_in _ _ _ _ hp hq) (fun ((y1,y2):Int×Int) => (hZ58_0 y0 y1 y2)) (xZ58_0 y0) (g_SZ58_0 y0) (fun x => by first | exact bZ58_0 y0 x.1 x.2) n (x := (y1,y2)) (okO_some e1)
  have hx:∀ r,XT.sel (.br (isL r) (.leaf .ret [(.T 1,.t (.val false [.int .i64 (getL r).1])),(.T 4,.t (.val false [.int .i64 (getL r).2]))]) (.leaf (.exit 0) [(.T 1,.t (.val false [.int .i64 (getR r)])),(.T 4,.t (.val false [.undef]))])) = xZ58_0 y0 r := fun r => by first | rfl | rcases r with r | r <;> rfl | rcases r with r | r | r <;> rfl | rcases r with r | r | r | r <;> rfl
  have h3 := (hx (valO (g_LZ58_0 y0 (y1,y2)))).symm.trans h2
  have e3 := congrArg Prod.fst h3
  have e4 := congrArg Prod.snd h3
  simp only at e3 e4
  rw [← e3,← e4]
  exact key
 ·exact .inl ⟨xt,h1,h2⟩)
noncomputable def g_AZ58 (a0:List ByteArray) (a1:Int):Bool := decide (IntKind.i64.wrap (a1 - (a0.length:Int)) < 0) || okO (g_LZ58_0 a0 (IntKind.i64.wrap (a1 - (a0.length:Int)),(0:Int)))
noncomputable def g_VZ58_0 (a0:List ByteArray) (a1:Int):Int := bif decide (IntKind.i64.wrap (a1 - (a0.length:Int)) < 0) then (-1:Int) else bif isL (valO (g_LZ58_0 a0 (IntKind.i64.wrap (a1 - (a0.length:Int)),(0:Int)))) then (getL (valO (g_LZ58_0 a0 (IntKind.i64.wrap (a1 - (a0.length:Int)),(0:Int))))).2 else getR (valO (g_LZ58_0 a0 (IntKind.i64.wrap (a1 - (a0.length:Int)),(0:Int))))
noncomputable def FZ58:FSem := fun ys => match ys with
 | [.val false [.sl .any 9 .str a0],.val false [.int .i64 a1]] => some ((g_AZ58 a0 a1),.val false [.int .i64 (g_VZ58_0 a0 a1)],[])
 | _ => none
theorem vZ58 (a0:List ByteArray) (a1:Int):collapseH .std EZ58 OZ58_1 (execFn EZ58 Tryz.f153 msZ58 [.val false [.sl .any 9 .str a0],.val false [.int .i64 a1]]) = some ((g_AZ58 a0 a1),.val false [.int .i64 (g_VZ58_0 a0 a1)],[]) := by kernel_rfl
theorem sZ58:Sound Tryz.prog 153 msZ58 FZ58 := by
 refine fn_gen goodZ58 (by kernel_rfl) .std (fn := Tryz.f153) (c := (Tryz.f153.body.getD .skip)) (o := OZ58_1) (k := 1) (by kernel_rfl) (by kernel_rfl) (by kernel_rfl) (by kernel_rfl) (by decide) kZ58_1 ?_
 intro ys r outs h
 unfold FZ58 at h
 split at h
 ·exact (vZ58 _ _).trans h
 ·cases h
noncomputable def EZ59:Env where
 tt := mkTI Tryz.prog
 fn := fun f => match f with
  | 153 => some (msZ58,FSem.wk msZ58 FZ58)
  | 154 => some (msZ38,FSem.wk msZ38 FZ38)
  | _ => none
 bxf := fun _ => none
 mv := []
 keep := fun _ => []
 keepB := fun _ => []
 keepX := fun _ => []
 keepXB := fun _ => []
theorem goodFZ59:∀ f ms F,EZ59.fn f = some (ms,F) → Sound Tryz.prog f ms F := fun f ms F h => by
 unfold EZ59 at h
 dsimp only at h
 split at h
 ·exact gF sZ58 h
 ·exact gF sZ38 h
 ·cases h
theorem goodZ59:Good Tryz.prog EZ59 := ⟨rfl,goodFZ59,fun f ms F h => by cases h⟩
noncomputable def OZ59_0:Orc := fun _ _ => none
noncomputable def msZ59:List PM := [.rd,.own]
noncomputable def lsZ59:List (Nat×Code) := loopsAll 0 (Tryz.f132.body.getD .skip)
theorem kZ59_0:OrcOk EZ59 OZ59_0 lsZ59 0 := orcOk_none
noncomputable def g_AZ59 (a0:Int) (a1:Int) (a2:List ByteArray) (a3:tL3) (a4:Int):Bool := g_AZ58 a2 a4&&(decide (g_VZ58_0 a2 a4 < 0) || g_AZ38 a3 (g_VZ58_0 a2 a4)&&true)
noncomputable def g_VZ59_0 (a0:Int) (a1:Int) (a2:List ByteArray) (a3:tL3) (a4:Int):Int := bif decide (g_VZ58_0 a2 a4 < 0) then (-1:Int) else bif decide (g_VZ38_0 a3 (g_VZ58_0 a2 a4) < 0) then (-1:Int) else g_VZ38_0 a3 (g_VZ58_0 a2 a4)
noncomputable def FZ59:FSem := fun ys => match ys with
 | [.val true [.int .i64 a0,.int .i64 a1,.sl .any 9 .str a2,.sl .any 196 (.pair .str (.pair .bool (.sl 3 (.int .i64)))) a3],.val false [.int .i64 a4]] => some ((g_AZ59 a0 a1 a2 a3 a4),.val false [.int .i64 (g_VZ59_0 a0 a1 a2 a3 a4)],[])
 | _ => none
theorem vZ59 (a0:Int) (a1:Int) (a2:List ByteArray) (a3:tL3) (a4:Int):collapseH .std EZ59 OZ59_0 (execFn EZ59 Tryz.f132 msZ59 [.val true [.int .i64 a0,.int .i64 a1,.sl .any 9 .str a2,.sl .any 196 (.pair .str (.pair .bool (.sl 3 (.int .i64)))) a3],.val false [.int .i64 a4]]) = some ((g_AZ59 a0 a1 a2 a3 a4),.val false [.int .i64 (g_VZ59_0 a0 a1 a2 a3 a4)],[]) := by kernel_rfl
theorem sZ59:Sound Tryz.prog 132 msZ59 FZ59 := by
 refine fn_gen goodZ59 (by kernel_rfl) .std (fn := Tryz.f132) (c := (Tryz.f132.body.getD .skip)) (o := OZ59_0) (k := 0) (by kernel_rfl) (by kernel_rfl) (by kernel_rfl) (by kernel_rfl) (by decide) kZ59_0 ?_
 intro ys r outs h
 unfold FZ59 at h
 split at h
 ·exact (vZ59 _ _ _ _ _).trans h
 ·cases h
end Go.Proofs.YtedhpmhlmdcpbaaGreatDoor.E
