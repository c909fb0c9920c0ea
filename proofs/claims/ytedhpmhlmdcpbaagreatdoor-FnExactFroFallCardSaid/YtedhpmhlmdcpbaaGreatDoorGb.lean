/- What the functions that are reached do, by the engine: for the proof (laws.FnExactFroFall): part 2. No conditions. -/
import Derived.Test.YtedhpmhlmdcpbaaGreatDoorGa
import Derived.Test.YtedhpmhlmdcpbaaGreatDoorProg
set_option linter.all false
namespace Go.Proofs.YtedhpmhlmdcpbaaGreatDoor.E
open Go
set_option maxRecDepth 100000
set_option maxHeartbeats 0
noncomputable def Es_l6Copy:Env where
 tt := mkTI Tryz.prog
 fn := fun f => match f with
  | 107 => some (mss_l2Copy,FSem.wk mss_l2Copy Fs_l2Copy)
  | _ => none
 bxf := fun _ => none
 mv := []
 keep := fun b => match b with
  | 0 => [(1,false),(2,false),(3,false),(4,false)]
  | _ => []
 keepB := fun b => match b with
  | 0 => [(1,false),(2,false),(3,false)]
  | _ => []
 keepX := fun b => match b with
  | 0 => [(2,false),(3,false)]
  | _ => []
 keepXB := fun b => match b with
  | 0 => [(2,false),(3,false)]
  | _ => []
theorem goodFs_l6Copy:∀ f ms F,Es_l6Copy.fn f = some (ms,F) → Sound Tryz.prog f ms F := fun f ms F h => by
 unfold Es_l6Copy at h
 dsimp only at h
 split at h
 ·exact gF ss_l2Copy h
 ·cases h
theorem goods_l6Copy:Good Tryz.prog Es_l6Copy := ⟨rfl,goodFs_l6Copy,fun f ms F h => by cases h⟩
noncomputable def Os_l6Copy_0:Orc := fun _ _ => none
noncomputable def mss_l6Copy:List PM := [.rd]
noncomputable def lss_l6Copy:List (Nat×Code) := loopsAll 0 (Tryz.f48.body.getD .skip)
noncomputable def cs_l6Copy_0:Code := (loopOf 0 (Tryz.f48.body.getD .skip)).getD .skip
theorem lseqs_l6Copy:lss_l6Copy = [(0,cs_l6Copy_0)] := by kernel_rfl
theorem ms_l6Copy_0:∀ p,p ∈ lss_l6Copy → p.1 = 0 → p.2 = cs_l6Copy_0 := by
 intro p hp
 rw [lseqs_l6Copy] at hp
 simp only [List.mem_cons,List.not_mem_nil,or_false] at hp
 subst hp; simp
theorem ks_l6Copy_0:OrcOk Es_l6Copy Os_l6Copy_0 lss_l6Copy 0 := orcOk_none
noncomputable def hs_l6Copy_0 (y0:Int) (y1:tL0) (y2:Int) (y3:tL1) (y4:Int) (y5:tL0) (y6:tL1) (y7:Int) (y8:tL0) (y9:tL1):List (Pl×LV) := [(.T 1,.t (.val false [.ptr 1 0 0])),(.T 2,.t (.val false [.ptr 2 0 0])),(.T 3,.t (.val false [.ptr 3 0 0])),(.T 4,.t (.val false [.int .i64 y0])),(.B 1,.b 0 false [.sl .any 92 (.pair (.int .i64) (.pair (.int .i64) (.pair (.sl 9 .str) (.sl 155 (.pair .str (.pair .bool (.sl 3 (.int .i64)))))))) y1,.int .i64 y2,.sl .any 73 (.pair (.int .i64) (.pair (.pair (.int .i64) (.pair (.int .i64) (.pair (.int .i64) (.pair (.int .i64) (.pair (.int .i64) (.pair (.int .i64) (.int .i64))))))) (.pair .bool (.pair (.sl 3 (.int .i64)) (.sl 3 (.int .i64)))))) y3]),(.B 2,.b 0 false [.row 2 1 0,.int .i64 y4,.row 2 5 0]),(.R 2 1,.r 0 (some ⟨false,.any,true,92,(.pair (.int .i64) (.pair (.int .i64) (.pair (.sl 9 .str) (.sl 155 (.pair .str (.pair .bool (.sl 3 (.int .i64)))))))),y5⟩)),(.R 2 5,.r 0 (some ⟨false,.any,true,73,(.pair (.int .i64) (.pair (.pair (.int .i64) (.pair (.int .i64) (.pair (.int .i64) (.pair (.int .i64) (.pair (.int .i64) (.pair (.int .i64) (.int .i64))))))) (.pair .bool (.pair (.sl 3 (.int .i64)) (.sl 3 (.int .i64)))))),y6⟩)),(.B 3,.b 0 false [.row 3 1 0,.int .i64 y7,.row 3 5 0]),(.R 3 1,.r 0 (some ⟨false,.any,true,92,(.pair (.int .i64) (.pair (.int .i64) (.pair (.sl 9 .str) (.sl 155 (.pair .str (.pair .bool (.sl 3 (.int .i64)))))))),y8⟩)),(.R 3 5,.r 0 (some ⟨false,.any,true,73,(.pair (.int .i64) (.pair (.pair (.int .i64) (.pair (.int .i64) (.pair (.int .i64) (.pair (.int .i64) (.pair (.int .i64) (.pair (.int .i64) (.int .i64))))))) (.pair .bool (.pair (.sl 3 (.int .i64)) (.sl 3 (.int .i64)))))),y9⟩))]
noncomputable def g_Ss_l6Copy_0 (y1:tL0) (y2:Int) (y3:tL1) (y4:Int) (y5:tL0) (y6:tL1) (y7:Int) (y8:tL0):(Int×tL1) → RT (Int×tL1) ((tL1))
 | (y0,y9) => .br (true) (.br (decide (y0 < (y3.length:Int))) (.br (decide (0 ≤ y0 ∧ y0 < (y3.length:Int))) (.br (decide ((nat_lit 0 + List.length (at_ yT0 y3 (Int.toNat y0)).2.2.2.1) * nat_lit 8 ≤ nat_lit 140737488355328 ∧ nat_lit 0 + List.length (at_ yT0 y3 (Int.toNat y0)).2.2.2.1 ≤ nat_lit 9223372036854775807)) (.br (decide ((nat_lit 0 + List.length (at_ yT0 y3 (Int.toNat y0)).2.2.2.2) * nat_lit 8 ≤ nat_lit 140737488355328 ∧ nat_lit 0 + List.length (at_ yT0 y3 (Int.toNat y0)).2.2.2.2 ≤ nat_lit 9223372036854775807)) (.br (decide ((List.length y9 + List.length [((at_ yT0 y3 (Int.toNat y0)).1,((at_ yT0 y3 (Int.toNat y0)).2.1.1,(at_ yT0 y3 (Int.toNat y0)).2.1.2.1,(at_ yT0 y3 (Int.toNat y0)).2.1.2.2.1,(at_ yT0 y3 (Int.toNat y0)).2.1.2.2.2.1,(at_ yT0 y3 (Int.toNat y0)).2.1.2.2.2.2.1,(at_ yT0 y3 (Int.toNat y0)).2.1.2.2.2.2.2.1,(at_ yT0 y3 (Int.toNat y0)).2.1.2.2.2.2.2.2),(at_ yT0 y3 (Int.toNat y0)).2.2.1,[] ++ (at_ yT0 y3 (Int.toNat y0)).2.2.2.1,[] ++ (at_ yT0 y3 (Int.toNat y0)).2.2.2.2)]) * nat_lit 120 ≤ nat_lit 140737488355328 ∧ List.length y9 + List.length [((at_ yT0 y3 (Int.toNat y0)).1,((at_ yT0 y3 (Int.toNat y0)).2.1.1,(at_ yT0 y3 (Int.toNat y0)).2.1.2.1,(at_ yT0 y3 (Int.toNat y0)).2.1.2.2.1,(at_ yT0 y3 (Int.toNat y0)).2.1.2.2.2.1,(at_ yT0 y3 (Int.toNat y0)).2.1.2.2.2.2.1,(at_ yT0 y3 (Int.toNat y0)).2.1.2.2.2.2.2.1,(at_ yT0 y3 (Int.toNat y0)).2.1.2.2.2.2.2.2),(at_ yT0 y3 (Int.toNat y0)).2.2.1,[] ++ (at_ yT0 y3 (Int.toNat y0)).2.2.2.1,[] ++ (at_ yT0 y3 (Int.toNat y0)).2.2.2.2)] ≤ nat_lit 9223372036854775807)) (.br (true) (.go ((IntKind.i64.wrap (y0 + 1),y9 ++ [((at_ yT0 y3 (Int.toNat y0)).1,((at_ yT0 y3 (Int.toNat y0)).2.1.1,(at_ yT0 y3 (Int.toNat y0)).2.1.2.1,(at_ yT0 y3 (Int.toNat y0)).2.1.2.2.1,(at_ yT0 y3 (Int.toNat y0)).2.1.2.2.2.1,(at_ yT0 y3 (Int.toNat y0)).2.1.2.2.2.2.1,(at_ yT0 y3 (Int.toNat y0)).2.1.2.2.2.2.2.1,(at_ yT0 y3 (Int.toNat y0)).2.1.2.2.2.2.2.2),(at_ yT0 y3 (Int.toNat y0)).2.2.1,[] ++ (at_ yT0 y3 (Int.toNat y0)).2.2.2.1,[] ++ (at_ yT0 y3 (Int.toNat y0)).2.2.2.2)]))) .bad) .bad) .bad) .bad) .bad) (.out (y9))) .bad
noncomputable def g_Ls_l6Copy_0 (y1:tL0) (y2:Int) (y3:tL1) (y4:Int) (y5:tL0) (y6:tL1) (y7:Int) (y8:tL0) (x:Int×tL1):Option ((tL1)) := loopO (g_Ss_l6Copy_0 y1 y2 y3 y4 y5 y6 y7 y8) x
noncomputable def xs_l6Copy_0 (y1:tL0) (y2:Int) (y3:tL1) (y4:Int) (y5:tL0) (y6:tL1) (y7:Int) (y8:tL0):((tL1)) → Ex×List (Pl×LV) := fun r => (.exit 0,[(.T 2,.t (.val false [.ptr 2 0 0])),(.T 3,.t (.val false [.ptr 3 0 0])),(.B 2,.b 0 false [.row 2 1 0,.int .i64 y4,.row 2 5 0]),(.R 2 1,.r 0 (some ⟨false,.any,true,92,(.pair (.int .i64) (.pair (.int .i64) (.pair (.sl 9 .str) (.sl 155 (.pair .str (.pair .bool (.sl 3 (.int .i64)))))))),y5⟩)),(.R 2 5,.r 0 (some ⟨false,.any,true,73,(.pair (.int .i64) (.pair (.pair (.int .i64) (.pair (.int .i64) (.pair (.int .i64) (.pair (.int .i64) (.pair (.int .i64) (.pair (.int .i64) (.int .i64))))))) (.pair .bool (.pair (.sl 3 (.int .i64)) (.sl 3 (.int .i64)))))),y6⟩)),(.B 3,.b 0 false [.row 3 1 0,.int .i64 y7,.row 3 5 0]),(.R 3 1,.r 0 (some ⟨false,.any,true,92,(.pair (.int .i64) (.pair (.int .i64) (.pair (.sl 9 .str) (.sl 155 (.pair .str (.pair .bool (.sl 3 (.int .i64)))))))),y8⟩)),(.R 3 5,.r 0 (some ⟨false,.any,true,73,(.pair (.int .i64) (.pair (.pair (.int .i64) (.pair (.int .i64) (.pair (.int .i64) (.pair (.int .i64) (.pair (.int .i64) (.pair (.int .i64) (.int .i64))))))) (.pair .bool (.pair (.sl 3 (.int .i64)) (.sl 3 (.int .i64)))))),r⟩))])
noncomputable def Os_l6Copy_1:Orc := fun b h => match b,h with
 | 0,[(.T 1,.t (.val false [.ptr 1 0 0])),(.T 2,.t (.val false [.ptr 2 0 0])),(.T 3,.t (.val false [.ptr 3 0 0])),(.T 4,.t (.val false [.int .i64 y0])),(.B 1,.b 0 false [.sl .any 92 (.pair (.int .i64) (.pair (.int .i64) (.pair (.sl 9 .str) (.sl 155 (.pair .str (.pair .bool (.sl 3 (.int .i64)))))))) y1,.int .i64 y2,.sl .any 73 (.pair (.int .i64) (.pair (.pair (.int .i64) (.pair (.int .i64) (.pair (.int .i64) (.pair (.int .i64) (.pair (.int .i64) (.pair (.int .i64) (.int .i64))))))) (.pair .bool (.pair (.sl 3 (.int .i64)) (.sl 3 (.int .i64)))))) y3]),(.B 2,.b 0 false [.row 2 1 0,.int .i64 y4,.row 2 5 0]),(.R 2 1,.r 0 (some ⟨false,.any,true,92,(.pair (.int .i64) (.pair (.int .i64) (.pair (.sl 9 .str) (.sl 155 (.pair .str (.pair .bool (.sl 3 (.int .i64)))))))),y5⟩)),(.R 2 5,.r 0 (some ⟨false,.any,true,73,(.pair (.int .i64) (.pair (.pair (.int .i64) (.pair (.int .i64) (.pair (.int .i64) (.pair (.int .i64) (.pair (.int .i64) (.pair (.int .i64) (.int .i64))))))) (.pair .bool (.pair (.sl 3 (.int .i64)) (.sl 3 (.int .i64)))))),y6⟩)),(.B 3,.b 0 false [.row 3 1 0,.int .i64 y7,.row 3 5 0]),(.R 3 1,.r 0 (some ⟨false,.any,true,92,(.pair (.int .i64) (.pair (.int .i64) (.pair (.sl 9 .str) (.sl 155 (.pair .str (.pair .bool (.sl 3 (.int .i64)))))))),y8⟩)),(.R 3 5,.r 0 (some ⟨false,.any,true,73,(.pair (.int .i64) (.pair (.pair (.int .i64) (.pair (.int .i64) (.pair (.int .i64) (.pair (.int .i64) (.pair (.int .i64) (.pair (.int .i64) (.int .i64))))))) (.pair .bool (.pair (.sl 3 (.int .i64)) (.sl 3 (.int .i64)))))),y9⟩))] => some (okO (g_Ls_l6Copy_0 y1 y2 y3 y4 y5 y6 y7 y8 (y0,y9)),(.leaf (.exit 0) [(.T 2,.t (.val false [.ptr 2 0 0])),(.T 3,.t (.val false [.ptr 3 0 0])),(.B 2,.b 0 false [.row 2 1 0,.int .i64 y4,.row 2 5 0]),(.R 2 1,.r 0 (some ⟨false,.any,true,92,(.pair (.int .i64) (.pair (.int .i64) (.pair (.sl 9 .str) (.sl 155 (.pair .str (.pair .bool (.sl 3 (.int .i64)))))))),y5⟩)),(.R 2 5,.r 0 (some ⟨false,.any,true,73,(.pair (.int .i64) (.pair (.pair (.int .i64) (.pair (.int .i64) (.pair (.int .i64) (.pair (.int .i64) (.pair (.int .i64) (.pair (.int .i64) (.int .i64))))))) (.pair .bool (.pair (.sl 3 (.int .i64)) (.sl 3 (.int .i64)))))),y6⟩)),(.B 3,.b 0 false [.row 3 1 0,.int .i64 y7,.row 3 5 0]),(.R 3 1,.r 0 (some ⟨false,.any,true,92,(.pair (.int .i64) (.pair (.int .i64) (.pair (.sl 9 .str) (.sl 155 (.pair .str (.pair .bool (.sl 3 (.int .i64)))))))),y8⟩)),(.R 3 5,.r 0 (some ⟨false,.any,true,73,(.pair (.int .i64) (.pair (.pair (.int .i64) (.pair (.int .i64) (.pair (.int .i64) (.pair (.int .i64) (.pair (.int .i64) (.pair (.int .i64) (.int .i64))))))) (.pair .bool (.pair (.sl 3 (.int .i64)) (.sl 3 (.int .i64)))))),(valO (g_Ls_l6Copy_0 y1 y2 y3 y4 y5 y6 y7 y8 (y0,y9)))⟩))]))
 | b,h => Os_l6Copy_0 b h
theorem bs_l6Copy_0 (y0:Int) (y1:tL0) (y2:Int) (y3:tL1) (y4:Int) (y5:tL0) (y6:tL1) (y7:Int) (y8:tL0) (y9:tL1):Tr.bt Es_l6Copy Os_l6Copy_0 (exec Es_l6Copy 0 cs_l6Copy_0 (St.of (hs_l6Copy_0 y0 y1 y2 y3 y4 y5 y6 y7 y8 y9)) (leafRd Es_l6Copy 0)) = (g_Ss_l6Copy_0 y1 y2 y3 y4 y5 y6 y7 y8 (y0,y9)).bt (fun ((y0,y9):Int×tL1) => (hs_l6Copy_0 y0 y1 y2 y3 y4 y5 y6 y7 y8 y9)) (xs_l6Copy_0 y1 y2 y3 y4 y5 y6 y7 y8) := by kernel_rfl
theorem ks_l6Copy_1:OrcOk Es_l6Copy Os_l6Copy_1 lss_l6Copy 1 := orc_add ks_l6Copy_0 (fun n p hp h ex h' ho => by
 obtain ⟨b,c⟩ := p
 obtain ⟨xt,h1,h2⟩ := ho
 have h1:Os_l6Copy_1 b h = some (true,xt) := h1
 unfold Os_l6Copy_1 at h1
 split at h1
 ·injection h1 with h1
  injection h1 with e1 e2
  subst e2
  have hc:c = cs_l6Copy_0 := ms_l6Copy_0 _ hp rfl
  subst hc
  right
  rename_i y0 y1 y2 y3 y4 y5 y6 y7 y8 y9
  have key := LT_step ks_l6Copy_0 hp (fun q hq => loopsAll_in _ _ _ _ hp hq) (fun ((y0,y9):Int×tL1) => (hs_l6Copy_0 y0 y1 y2 y3 y4 y5 y6 y7 y8 y9)) (xs_l6Copy_0 y1 y2 y3 y4 y5 y6 y7 y8) (g_Ss_l6Copy_0 y1 y2 y3 y4 y5 y6 y7 y8) (fun x => by first | exact bs_l6Copy_0 x.1 y1 y2 y3 y4 y5 y6 y7 y8 x.2) n (x := (y0,y9)) (okO_some e1)
  have hx:∀ r,XT.sel (.leaf (.exit 0) [(.T 2,.t (.val false [.ptr 2 0 0])),(.T 3,.t (.val false [.ptr 3 0 0])),(.B 2,.b 0 false [.row 2 1 0,.int .i64 y4,.row 2 5 0]),(.R 2 1,.r 0 (some ⟨false,.any,true,92,(.pair (.int .i64) (.pair (.int .i64) (.pair (.sl 9 .str) (.sl 155 (.pair .str (.pair .bool (.sl 3 (.int .i64)))))))),y5⟩)),(.R 2 5,.r 0 (some ⟨false,.any,true,73,(.pair (.int .i64) (.pair (.pair (.int .i64) (.pair (.int .i64) (.pair (.int .i64) (.pair (.int .i64) (.pair (.int .i64) (.pair (.int .i64) (.int .i64))))))) (.pair .bool (.pair (.sl 3 (.int .i64)) (.sl 3 (.int .i64)))))),y6⟩)),(.B 3,.b 0 false [.row 3 1 0,.int .i64 y7,.row 3 5 0]),(.R 3 1,.r 0 (some ⟨false,.any,true,92,(.pair (.int .i64) (.pair (.int .i64) (.pair (.sl 9 .str) (.sl 155 (.pair .str (.pair .bool (.sl 3 (.int .i64)))))))),y8⟩)),(.R 3 5,.r 0 (some ⟨false,.any,true,73,(.pair (.int .i64) (.pair (.pair (.int .i64) (.pair (.int .i64) (.pair (.int .i64) (.pair (.int .i64) (.pair (.int .i64) (.pair (.int .i64) (.int .i64))))))) (.pair .bool (.pair (.sl 3 (.int .i64)) (.sl 3 (.int .i64)))))),r⟩))]) = xs_l6Copy_0 y1 y2 y3 y4 y5 y6 y7 y8 r := fun r => by first | rfl | rcases r with r | r <;> rfl | rcases r with r | r | r <;> rfl | rcases r with r | r | r | r <;> rfl
  have h3 := (hx (valO (g_Ls_l6Copy_0 y1 y2 y3 y4 y5 y6 y7 y8 (y0,y9)))).symm.trans h2
  have e3 := congrArg Prod.fst h3
  have e4 := congrArg Prod.snd h3
  simp only at e3 e4
  rw [← e3,← e4]
  exact key
 ·exact .inl ⟨xt,h1,h2⟩)
noncomputable def g_As_l6Copy (a0:tL0) (a1:Int) (a2:tL1):Bool := g_As_l2Copy a0 a1&&okO (g_Ls_l6Copy_0 a0 a1 a2 (0:Int) [] [] a1 (g_Vs_l2Copy_0 a0 a1) ((0:Int),[]))
noncomputable def g_Vs_l6Copy_0 (a0:tL0) (a1:Int) (a2:tL1):tL1 := valO (g_Ls_l6Copy_0 a0 a1 a2 (0:Int) [] [] a1 (g_Vs_l2Copy_0 a0 a1) ((0:Int),[]))
noncomputable def Fs_l6Copy:FSem := fun ys => match ys with
 | [.val true [.sl .any 92 (.pair (.int .i64) (.pair (.int .i64) (.pair (.sl 9 .str) (.sl 155 (.pair .str (.pair .bool (.sl 3 (.int .i64)))))))) a0,.int .i64 a1,.sl .any 73 (.pair (.int .i64) (.pair (.pair (.int .i64) (.pair (.int .i64) (.pair (.int .i64) (.pair (.int .i64) (.pair (.int .i64) (.pair (.int .i64) (.int .i64))))))) (.pair .bool (.pair (.sl 3 (.int .i64)) (.sl 3 (.int .i64)))))) a2]] => some ((g_As_l6Copy a0 a1 a2),.val true [.own .any true 92 (.pair (.int .i64) (.pair (.int .i64) (.pair (.sl 9 .str) (.sl 155 (.pair .str (.pair .bool (.sl 3 (.int .i64)))))))) (g_Vs_l2Copy_0 a0 a1),.int .i64 a1,.own .any true 73 (.pair (.int .i64) (.pair (.pair (.int .i64) (.pair (.int .i64) (.pair (.int .i64) (.pair (.int .i64) (.pair (.int .i64) (.pair (.int .i64) (.int .i64))))))) (.pair .bool (.pair (.sl 3 (.int .i64)) (.sl 3 (.int .i64)))))) (g_Vs_l6Copy_0 a0 a1 a2)],[])
 | _ => none
theorem vs_l6Copy (a0:tL0) (a1:Int) (a2:tL1):collapseH .std Es_l6Copy Os_l6Copy_1 (execFn Es_l6Copy Tryz.f48 mss_l6Copy [.val true [.sl .any 92 (.pair (.int .i64) (.pair (.int .i64) (.pair (.sl 9 .str) (.sl 155 (.pair .str (.pair .bool (.sl 3 (.int .i64)))))))) a0,.int .i64 a1,.sl .any 73 (.pair (.int .i64) (.pair (.pair (.int .i64) (.pair (.int .i64) (.pair (.int .i64) (.pair (.int .i64) (.pair (.int .i64) (.pair (.int .i64) (.int .i64))))))) (.pair .bool (.pair (.sl 3 (.int .i64)) (.sl 3 (.int .i64)))))) a2]]) = some ((g_As_l6Copy a0 a1 a2),.val true [.own .any true 92 (.pair (.int .i64) (.pair (.int .i64) (.pair (.sl 9 .str) (.sl 155 (.pair .str (.pair .bool (.sl 3 (.int .i64)))))))) (g_Vs_l2Copy_0 a0 a1),.int .i64 a1,.own .any true 73 (.pair (.int .i64) (.pair (.pair (.int .i64) (.pair (.int .i64) (.pair (.int .i64) (.pair (.int .i64) (.pair (.int .i64) (.pair (.int .i64) (.int .i64))))))) (.pair .bool (.pair (.sl 3 (.int .i64)) (.sl 3 (.int .i64)))))) (g_Vs_l6Copy_0 a0 a1 a2)],[]) := by kernel_rfl
theorem ss_l6Copy:Sound Tryz.prog 48 mss_l6Copy Fs_l6Copy := by
 refine fn_gen goods_l6Copy (by kernel_rfl) .std (fn := Tryz.f48) (c := (Tryz.f48.body.getD .skip)) (o := Os_l6Copy_1) (k := 1) (by kernel_rfl) (by kernel_rfl) (by kernel_rfl) (by kernel_rfl) (by decide) ks_l6Copy_1 ?_
 intro ys r outs h
 unfold Fs_l6Copy at h
 split at h
 ·exact (vs_l6Copy _ _ _).trans h
 ·cases h
noncomputable def Es_FroFall:Env where
 tt := mkTI Tryz.prog
 fn := fun f => match f with
  | 29 => some (mss_FroOk,FSem.wk mss_FroOk Fs_FroOk)
  | 46 => some (msZ66,FSem.wk msZ66 FZ66)
  | 47 => some (mss_l2Of,FSem.wk mss_l2Of Fs_l2Of)
  | 48 => some (mss_l6Copy,FSem.wk mss_l6Copy Fs_l6Copy)
  | _ => none
 bxf := fun _ => none
 mv := []
 keep := fun b => match b with
  | 0 => [(4,false),(5,false),(6,false)]
  | 2 => [(4,false),(5,false),(6,false),(7,false),(8,false)]
  | _ => []
 keepB := fun b => match b with
  | 0 => [(4,false),(5,false)]
  | 2 => [(4,false),(5,false)]
  | _ => []
 keepX := fun b => match b with
  | 0 => [(4,false),(5,false)]
  | 2 => [(4,false),(5,false),(6,false),(7,false)]
  | _ => []
 keepXB := fun b => match b with
  | 0 => [(4,false),(5,false)]
  | 2 => [(4,false),(5,false)]
  | _ => []
theorem goodFs_FroFall:∀ f ms F,Es_FroFall.fn f = some (ms,F) → Sound Tryz.prog f ms F := fun f ms F h => by
 unfold Es_FroFall at h
 dsimp only at h
 split at h
 ·exact gF ss_FroOk h
 ·exact gF sZ66 h
 ·exact gF ss_l2Of h
 ·exact gF ss_l6Copy h
 ·cases h
theorem goods_FroFall:Good Tryz.prog Es_FroFall := ⟨rfl,goodFs_FroFall,fun f ms F h => by cases h⟩
noncomputable def Os_FroFall_0:Orc := fun _ _ => none
noncomputable def mss_FroFall:List PM := [.rd,.own]
noncomputable def lss_FroFall:List (Nat×Code) := loopsAll 0 (Tryz.f16.body.getD .skip)
noncomputable def cs_FroFall_0:Code := (loopOf 0 (Tryz.f16.body.getD .skip)).getD .skip
noncomputable def cs_FroFall_2:Code := (loopOf 2 (Tryz.f16.body.getD .skip)).getD .skip
theorem lseqs_FroFall:lss_FroFall = [(0,cs_FroFall_0),(2,cs_FroFall_2)] := by kernel_rfl
theorem ms_FroFall_0:∀ p,p ∈ lss_FroFall → p.1 = 0 → p.2 = cs_FroFall_0 := by
 intro p hp
 rw [lseqs_FroFall] at hp
 simp only [List.mem_cons,List.not_mem_nil,or_false] at hp
 rcases hp with rfl | rfl <;> simp
theorem ms_FroFall_2:∀ p,p ∈ lss_FroFall → p.1 = 2 → p.2 = cs_FroFall_2 := by
 intro p hp
 rw [lseqs_FroFall] at hp
 simp only [List.mem_cons,List.not_mem_nil,or_false] at hp
 rcases hp with rfl | rfl <;> simp
theorem ks_FroFall_0:OrcOk Es_FroFall Os_FroFall_0 lss_FroFall 0 := orcOk_none
noncomputable def hs_FroFall_0 (y0:Int) (y1:Int) (y2:tL0) (y3:tL1) (y4:Int) (y5:tL0) (y6:tL1):List (Pl×LV) := [(.T 4,.t (.val false [.ptr 4 0 0])),(.T 5,.t (.val false [.ptr 5 0 0])),(.T 6,.t (.val false [.int .i64 y0])),(.B 4,.b 0 false [.row 4 1 0,.int .i64 y1,.row 4 5 0]),(.R 4 1,.r 0 (some ⟨false,.any,true,92,(.pair (.int .i64) (.pair (.int .i64) (.pair (.sl 9 .str) (.sl 155 (.pair .str (.pair .bool (.sl 3 (.int .i64)))))))),y2⟩)),(.R 4 5,.r 0 (some ⟨false,.any,true,73,(.pair (.int .i64) (.pair (.pair (.int .i64) (.pair (.int .i64) (.pair (.int .i64) (.pair (.int .i64) (.pair (.int .i64) (.pair (.int .i64) (.int .i64))))))) (.pair .bool (.pair (.sl 3 (.int .i64)) (.sl 3 (.int .i64)))))),y3⟩)),(.B 5,.b 0 false [.row 5 1 0,.int .i64 y4,.row 5 5 0]),(.R 5 1,.r 0 (some ⟨false,.any,true,92,(.pair (.int .i64) (.pair (.int .i64) (.pair (.sl 9 .str) (.sl 155 (.pair .str (.pair .bool (.sl 3 (.int .i64)))))))),y5⟩)),(.R 5 5,.r 0 (some ⟨false,.any,true,73,(.pair (.int .i64) (.pair (.pair (.int .i64) (.pair (.int .i64) (.pair (.int .i64) (.pair (.int .i64) (.pair (.int .i64) (.pair (.int .i64) (.int .i64))))))) (.pair .bool (.pair (.sl 3 (.int .i64)) (.sl 3 (.int .i64)))))),y6⟩))]
noncomputable def hs_FroFall_2 (y0:Int) (y1:Bool) (y2:Int) (y3:Int) (y4:tL0) (y5:tL1) (y6:Int) (y7:tL0) (y8:tL1):List (Pl×LV) := [(.T 4,.t (.val false [.ptr 4 0 0])),(.T 5,.t (.val false [.ptr 5 0 0])),(.T 6,.t (.val false [.int .i64 y0])),(.T 7,.t (.val false [.bool y1])),(.T 8,.t (.val false [.int .i64 y2])),(.B 4,.b 0 false [.row 4 1 0,.int .i64 y3,.row 4 5 0]),(.R 4 1,.r 0 (some ⟨false,.any,true,92,(.pair (.int .i64) (.pair (.int .i64) (.pair (.sl 9 .str) (.sl 155 (.pair .str (.pair .bool (.sl 3 (.int .i64)))))))),y4⟩)),(.R 4 5,.r 0 (some ⟨false,.any,true,73,(.pair (.int .i64) (.pair (.pair (.int .i64) (.pair (.int .i64) (.pair (.int .i64) (.pair (.int .i64) (.pair (.int .i64) (.pair (.int .i64) (.int .i64))))))) (.pair .bool (.pair (.sl 3 (.int .i64)) (.sl 3 (.int .i64)))))),y5⟩)),(.B 5,.b 0 false [.row 5 1 0,.int .i64 y6,.row 5 5 0]),(.R 5 1,.r 0 (some ⟨false,.any,true,92,(.pair (.int .i64) (.pair (.int .i64) (.pair (.sl 9 .str) (.sl 155 (.pair .str (.pair .bool (.sl 3 (.int .i64)))))))),y7⟩)),(.R 5 5,.r 0 (some ⟨false,.any,true,73,(.pair (.int .i64) (.pair (.pair (.int .i64) (.pair (.int .i64) (.pair (.int .i64) (.pair (.int .i64) (.pair (.int .i64) (.pair (.int .i64) (.int .i64))))))) (.pair .bool (.pair (.sl 3 (.int .i64)) (.sl 3 (.int .i64)))))),y8⟩))]
noncomputable def g_Ss_FroFall_2 (y0:Int) (y3:Int) (y4:tL0) (y5:tL1) (y6:Int) (y7:tL0) (y8:tL1):(Bool×Int) → RT (Bool×Int) ((Bool))
 | (y1,y2) => .br (true) (.br (decide (y2 < (y7.length:Int))) (.br (y1) (.br (true) (.go ((true,IntKind.i64.wrap (y2 + 1)))) .bad) (.br (decide (0 ≤ y2 ∧ y2 < (y7.length:Int))) (.br (decide (Int.toNat y2 < List.length y7)) (.br (true) (.br ((at_ yT1 y7 (Int.toNat y2)).2.1 == y0) (.br (decide (0 ≤ y2 ∧ y2 < (y7.length:Int))) (.br (decide (Int.toNat y2 < List.length y7)) (.br (true) (.br (true) (.go (((at_ yT1 y7 (Int.toNat y2)).1 == 4,IntKind.i64.wrap (y2 + 1)))) .bad) .bad) .bad) .bad) (.br (true) (.go ((false,IntKind.i64.wrap (y2 + 1)))) .bad)) .bad) .bad) .bad)) (.out (y1))) .bad
noncomputable def g_Ls_FroFall_2 (y0:Int) (y3:Int) (y4:tL0) (y5:tL1) (y6:Int) (y7:tL0) (y8:tL1) (x:Bool×Int):Option ((Bool)) := loopO (g_Ss_FroFall_2 y0 y3 y4 y5 y6 y7 y8) x
noncomputable def xs_FroFall_2 (y0:Int) (y3:Int) (y4:tL0) (y5:tL1) (y6:Int) (y7:tL0) (y8:tL1):((Bool)) → Ex×List (Pl×LV) := fun r => (.exit 2,[(.T 4,.t (.val false [.ptr 4 0 0])),(.T 5,.t (.val false [.ptr 5 0 0])),(.T 6,.t (.val false [.int .i64 y0])),(.T 7,.t (.val false [.bool r])),(.B 4,.b 0 false [.row 4 1 0,.int .i64 y3,.row 4 5 0]),(.R 4 1,.r 0 (some ⟨false,.any,true,92,(.pair (.int .i64) (.pair (.int .i64) (.pair (.sl 9 .str) (.sl 155 (.pair .str (.pair .bool (.sl 3 (.int .i64)))))))),y4⟩)),(.R 4 5,.r 0 (some ⟨false,.any,true,73,(.pair (.int .i64) (.pair (.pair (.int .i64) (.pair (.int .i64) (.pair (.int .i64) (.pair (.int .i64) (.pair (.int .i64) (.pair (.int .i64) (.int .i64))))))) (.pair .bool (.pair (.sl 3 (.int .i64)) (.sl 3 (.int .i64)))))),y5⟩)),(.B 5,.b 0 false [.row 5 1 0,.int .i64 y6,.row 5 5 0]),(.R 5 1,.r 0 (some ⟨false,.any,true,92,(.pair (.int .i64) (.pair (.int .i64) (.pair (.sl 9 .str) (.sl 155 (.pair .str (.pair .bool (.sl 3 (.int .i64)))))))),y7⟩)),(.R 5 5,.r 0 (some ⟨false,.any,true,73,(.pair (.int .i64) (.pair (.pair (.int .i64) (.pair (.int .i64) (.pair (.int .i64) (.pair (.int .i64) (.pair (.int .i64) (.pair (.int .i64) (.int .i64))))))) (.pair .bool (.pair (.sl 3 (.int .i64)) (.sl 3 (.int .i64)))))),y8⟩))])
noncomputable def Os_FroFall_1:Orc := fun b h => match b,h with
 | 2,[(.T 4,.t (.val false [.ptr 4 0 0])),(.T 5,.t (.val false [.ptr 5 0 0])),(.T 6,.t (.val false [.int .i64 y0])),(.T 7,.t (.val false [.bool y1])),(.T 8,.t (.val false [.int .i64 y2])),(.B 4,.b 0 false [.row 4 1 0,.int .i64 y3,.row 4 5 0]),(.R 4 1,.r 0 (some ⟨false,.any,true,92,(.pair (.int .i64) (.pair (.int .i64) (.pair (.sl 9 .str) (.sl 155 (.pair .str (.pair .bool (.sl 3 (.int .i64)))))))),y4⟩)),(.R 4 5,.r 0 (some ⟨false,.any,true,73,(.pair (.int .i64) (.pair (.pair (.int .i64) (.pair (.int .i64) (.pair (.int .i64) (.pair (.int .i64) (.pair (.int .i64) (.pair (.int .i64) (.int .i64))))))) (.pair .bool (.pair (.sl 3 (.int .i64)) (.sl 3 (.int .i64)))))),y5⟩)),(.B 5,.b 0 false [.row 5 1 0,.int .i64 y6,.row 5 5 0]),(.R 5 1,.r 0 (some ⟨false,.any,true,92,(.pair (.int .i64) (.pair (.int .i64) (.pair (.sl 9 .str) (.sl 155 (.pair .str (.pair .bool (.sl 3 (.int .i64)))))))),y7⟩)),(.R 5 5,.r 0 (some ⟨false,.any,true,73,(.pair (.int .i64) (.pair (.pair (.int .i64) (.pair (.int .i64) (.pair (.int .i64) (.pair (.int .i64) (.pair (.int .i64) (.pair (.int .i64) (.int .i64))))))) (.pair .bool (.pair (.sl 3 (.int .i64)) (.sl 3 (.int .i64)))))),y8⟩))] => some (okO (g_Ls_FroFall_2 y0 y3 y4 y5 y6 y7 y8 (y1,y2)),(.leaf (.exit 2) [(.T 4,.t (.val false [.ptr 4 0 0])),(.T 5,.t (.val false [.ptr 5 0 0])),(.T 6,.t (.val false [.int .i64 y0])),(.T 7,.t (.val false [.bool (valO (g_Ls_FroFall_2 y0 y3 y4 y5 y6 y7 y8 (y1,y2)))])),(.B 4,.b 0 false [.row 4 1 0,.int .i64 y3,.row 4 5 0]),(.R 4 1,.r 0 (some ⟨false,.any,true,92,(.pair (.int .i64) (.pair (.int .i64) (.pair (.sl 9 .str) (.sl 155 (.pair .str (.pair .bool (.sl 3 (.int .i64)))))))),y4⟩)),(.R 4 5,.r 0 (some ⟨false,.any,true,73,(.pair (.int .i64) (.pair (.pair (.int .i64) (.pair (.int .i64) (.pair (.int .i64) (.pair (.int .i64) (.pair (.int .i64) (.pair (.int .i64) (.int .i64))))))) (.pair .bool (.pair (.sl 3 (.int .i64)) (.sl 3 (.int .i64)))))),y5⟩)),(.B 5,.b 0 false [.row 5 1 0,.int .i64 y6,.row 5 5 0]),(.R 5 1,.r 0 (some ⟨false,.any,true,92,(.pair (.int .i64) (.pair (.int .i64) (.pair (.sl 9 .str) (.sl 155 (.pair .str (.pair .bool (.sl 3 (.int .i64)))))))),y7⟩)),(.R 5 5,.r 0 (some ⟨false,.any,true,73,(.pair (.int .i64) (.pair (.pair (.int .i64) (.pair (.int .i64) (.pair (.int .i64) (.pair (.int .i64) (.pair (.int .i64) (.pair (.int .i64) (.int .i64))))))) (.pair .bool (.pair (.sl 3 (.int .i64)) (.sl 3 (.int .i64)))))),y8⟩))]))
 | b,h => Os_FroFall_0 b h
theorem bs_FroFall_2 (y0:Int) (y1:Bool) (y2:Int) (y3:Int) (y4:tL0) (y5:tL1) (y6:Int) (y7:tL0) (y8:tL1):Tr.bt Es_FroFall Os_FroFall_0 (exec Es_FroFall 2 cs_FroFall_2 (St.of (hs_FroFall_2 y0 y1 y2 y3 y4 y5 y6 y7 y8)) (leafRd Es_FroFall 2)) = (g_Ss_FroFall_2 y0 y3 y4 y5 y6 y7 y8 (y1,y2)).bt (fun ((y1,y2):Bool×Int) => (hs_FroFall_2 y0 y1 y2 y3 y4 y5 y6 y7 y8)) (xs_FroFall_2 y0 y3 y4 y5 y6 y7 y8) := by kernel_rfl
theorem ks_FroFall_1:OrcOk Es_FroFall Os_FroFall_1 lss_FroFall 1 := orc_add ks_FroFall_0 (fun n p hp h ex h' ho => by
 obtain ⟨b,c⟩ := p
 obtain ⟨xt,h1,h2⟩ := ho
 have h1:Os_FroFall_1 b h = some (true,xt) := h1
 unfold Os_FroFall_1 at h1
 split at h1
 ·injection h1 with h1
  injection h1 with e1 e2
  subst e2
  have hc:c = cs_FroFall_2 := ms_FroFall_2 _ hp rfl
  subst hc
  right
  rename_i y0 y1 y2 y3 y4 y5 y6 y7 y8
  have key := LT_step ks_FroFall_0 hp (fun q hq => loopsAll_in _ _ _ _ hp hq) (fun ((y1,y2):Bool×Int) => (hs_FroFall_2 y0 y1 y2 y3 y4 y5 y6 y7 y8)) (xs_FroFall_2 y0 y3 y4 y5 y6 y7 y8) (g_Ss_FroFall_2 y0 y3 y4 y5 y6 y7 y8) (fun x => by first | exact bs_FroFall_2 y0 x.1 x.2 y3 y4 y5 y6 y7 y8) n (x := (y1,y2)) (okO_some e1)
  have hx:∀ r,XT.sel (.leaf (.exit 2) [(.T 4,.t (.val false [.ptr 4 0 0])),(.T 5,.t (.val false [.ptr 5 0 0])),(.T 6,.t (.val false [.int .i64 y0])),(.T 7,.t (.val false [.bool r])),(.B 4,.b 0 false [.row 4 1 0,.int .i64 y3,.row 4 5 0]),(.R 4 1,.r 0 (some ⟨false,.any,true,92,(.pair (.int .i64) (.pair (.int .i64) (.pair (.sl 9 .str) (.sl 155 (.pair .str (.pair .bool (.sl 3 (.int .i64)))))))),y4⟩)),(.R 4 5,.r 0 (some ⟨false,.any,true,73,(.pair (.int .i64) (.pair (.pair (.int .i64) (.pair (.int .i64) (.pair (.int .i64) (.pair (.int .i64) (.pair (.int .i64) (.pair (.int .i64) (.int .i64))))))) (.pair .bool (.pair (.sl 3 (.int .i64)) (.sl 3 (.int .i64)))))),y5⟩)),(.B 5,.b 0 false [.row 5 1 0,.int .i64 y6,.row 5 5 0]),(.R 5 1,.r 0 (some ⟨false,.any,true,92,(.pair (.int .i64) (.pair (.int .i64) (.pair (.sl 9 .str) (.sl 155 (.pair .str (.pair .bool (.sl 3 (.int .i64)))))))),y7⟩)),(.R 5 5,.r 0 (some ⟨false,.any,true,73,(.pair (.int .i64) (.pair (.pair (.int .i64) (.pair (.int .i64) (.pair (.int .i64) (.pair (.int .i64) (.pair (.int .i64) (.pair (.int .i64) (.int .i64))))))) (.pair .bool (.pair (.sl 3 (.int .i64)) (.sl 3 (.int .i64)))))),y8⟩))]) = xs_FroFall_2 y0 y3 y4 y5 y6 y7 y8 r := fun r => by first | rfl | rcases r with r | r <;> rfl | rcases r with r | r | r <;> rfl | rcases r with r | r | r | r <;> rfl
  have h3 := (hx (valO (g_Ls_FroFall_2 y0 y3 y4 y5 y6 y7 y8 (y1,y2)))).symm.trans h2
  have e3 := congrArg Prod.fst h3
  have e4 := congrArg Prod.snd h3
  simp only at e3 e4
  rw [← e3,← e4]
  exact key
 ·exact .inl ⟨xt,h1,h2⟩)
noncomputable def g_Ss_FroFall_0 (y1:Int) (y2:tL0) (y3:tL1) (y4:Int) (y5:tL0):(Int×tL1) → RT (Int×tL1) ((tL1))
 | (y0,y6) => .br (true) (.br (decide (y0 ≤ 29)) (.br (okO (g_Ls_FroFall_2 y0 y1 y2 y3 y4 y5 y6 (false,(0:Int)))) (.br (g_As_l2Of y5 y0) (.br (true) (.br (g_Vs_l2Of_0 y5 y0 == 2) (.br (!valO (g_Ls_FroFall_2 y0 y1 y2 y3 y4 y5 y6 (false,(0:Int)))) (.br (decide ((List.length y6 + List.length [(y0,((0:Int),(0:Int),(0:Int),(0:Int),(0:Int),(0:Int),(0:Int)),true,([]:List Int),([]:List Int))]) * nat_lit 120 ≤ nat_lit 140737488355328 ∧ List.length y6 + List.length [(y0,((0:Int),(0:Int),(0:Int),(0:Int),(0:Int),(0:Int),(0:Int)),true,([]:List Int),([]:List Int))] ≤ nat_lit 9223372036854775807)) (.br (true) (.go ((IntKind.i64.wrap (y0 + 1),y6 ++ [(y0,((0:Int),(0:Int),(0:Int),(0:Int),(0:Int),(0:Int),(0:Int)),true,([]:List Int),([]:List Int))]))) .bad) .bad) (.br (true) (.go ((IntKind.i64.wrap (y0 + 1),y6))) .bad)) (.br (true) (.go ((IntKind.i64.wrap (y0 + 1),y6))) .bad)) .bad) .bad) .bad) (.out (y6))) .bad
noncomputable def g_Ls_FroFall_0 (y1:Int) (y2:tL0) (y3:tL1) (y4:Int) (y5:tL0) (x:Int×tL1):Option ((tL1)) := loopO (g_Ss_FroFall_0 y1 y2 y3 y4 y5) x
noncomputable def xs_FroFall_0 (y1:Int) (y2:tL0) (y3:tL1) (y4:Int) (y5:tL0):((tL1)) → Ex×List (Pl×LV) := fun r => (.exit 0,[(.T 4,.t (.val false [.ptr 4 0 0])),(.T 5,.t (.val false [.ptr 5 0 0])),(.B 4,.b 0 false [.row 4 1 0,.int .i64 y1,.row 4 5 0]),(.R 4 1,.r 0 (some ⟨false,.any,true,92,(.pair (.int .i64) (.pair (.int .i64) (.pair (.sl 9 .str) (.sl 155 (.pair .str (.pair .bool (.sl 3 (.int .i64)))))))),y2⟩)),(.R 4 5,.r 0 (some ⟨false,.any,true,73,(.pair (.int .i64) (.pair (.pair (.int .i64) (.pair (.int .i64) (.pair (.int .i64) (.pair (.int .i64) (.pair (.int .i64) (.pair (.int .i64) (.int .i64))))))) (.pair .bool (.pair (.sl 3 (.int .i64)) (.sl 3 (.int .i64)))))),y3⟩)),(.B 5,.b 0 false [.row 5 1 0,.int .i64 y4,.row 5 5 0]),(.R 5 1,.r 0 (some ⟨false,.any,true,92,(.pair (.int .i64) (.pair (.int .i64) (.pair (.sl 9 .str) (.sl 155 (.pair .str (.pair .bool (.sl 3 (.int .i64)))))))),y5⟩)),(.R 5 5,.r 0 (some ⟨false,.any,true,73,(.pair (.int .i64) (.pair (.pair (.int .i64) (.pair (.int .i64) (.pair (.int .i64) (.pair (.int .i64) (.pair (.int .i64) (.pair (.int .i64) (.int .i64))))))) (.pair .bool (.pair (.sl 3 (.int .i64)) (.sl 3 (.int .i64)))))),r⟩))])
noncomputable def Os_FroFall_2:Orc := fun b h => match b,h with
 | 0,[(.T 4,.t (.val false [.ptr 4 0 0])),(.T 5,.t (.val false [.ptr 5 0 0])),(.T 6,.t (.val false [.int .i64 y0])),(.B 4,.b 0 false [.row 4 1 0,.int .i64 y1,.row 4 5 0]),(.R 4 1,.r 0 (some ⟨false,.any,true,92,(.pair (.int .i64) (.pair (.int .i64) (.pair (.sl 9 .str) (.sl 155 (.pair .str (.pair .bool (.sl 3 (.int .i64)))))))),y2⟩)),(.R 4 5,.r 0 (some ⟨false,.any,true,73,(.pair (.int .i64) (.pair (.pair (.int .i64) (.pair (.int .i64) (.pair (.int .i64) (.pair (.int .i64) (.pair (.int .i64) (.pair (.int .i64) (.int .i64))))))) (.pair .bool (.pair (.sl 3 (.int .i64)) (.sl 3 (.int .i64)))))),y3⟩)),(.B 5,.b 0 false [.row 5 1 0,.int .i64 y4,.row 5 5 0]),(.R 5 1,.r 0 (some ⟨false,.any,true,92,(.pair (.int .i64) (.pair (.int .i64) (.pair (.sl 9 .str) (.sl 155 (.pair .str (.pair .bool (.sl 3 (.int .i64)))))))),y5⟩)),(.R 5 5,.r 0 (some ⟨false,.any,true,73,(.pair (.int .i64) (.pair (.pair (.int .i64) (.pair (.int .i64) (.pair (.int .i64) (.pair (.int .i64) (.pair (.int .i64) (.pair (.int .i64) (.int .i64))))))) (.pair .bool (.pair (.sl 3 (.int .i64)) (.sl 3 (.int .i64)))))),y6⟩))] => some (okO (g_Ls_FroFall_0 y1 y2 y3 y4 y5 (y0,y6)),(.leaf (.exit 0) [(.T 4,.t (.val false [.ptr 4 0 0])),(.T 5,.t (.val false [.ptr 5 0 0])),(.B 4,.b 0 false [.row 4 1 0,.int .i64 y1,.row 4 5 0]),(.R 4 1,.r 0 (some ⟨false,.any,true,92,(.pair (.int .i64) (.pair (.int .i64) (.pair (.sl 9 .str) (.sl 155 (.pair .str (.pair .bool (.sl 3 (.int .i64)))))))),y2⟩)),(.R 4 5,.r 0 (some ⟨false,.any,true,73,(.pair (.int .i64) (.pair (.pair (.int .i64) (.pair (.int .i64) (.pair (.int .i64) (.pair (.int .i64) (.pair (.int .i64) (.pair (.int .i64) (.int .i64))))))) (.pair .bool (.pair (.sl 3 (.int .i64)) (.sl 3 (.int .i64)))))),y3⟩)),(.B 5,.b 0 false [.row 5 1 0,.int .i64 y4,.row 5 5 0]),(.R 5 1,.r 0 (some ⟨false,.any,true,92,(.pair (.int .i64) (.pair (.int .i64) (.pair (.sl 9 .str) (.sl 155 (.pair .str (.pair .bool (.sl 3 (.int .i64)))))))),y5⟩)),(.R 5 5,.r 0 (some ⟨false,.any,true,73,(.pair (.int .i64) (.pair (.pair (.int .i64) (.pair (.int .i64) (.pair (.int .i64) (.pair (.int .i64) (.pair (.int .i64) (.pair (.int .i64) (.int .i64))))))) (.pair .bool (.pair (.sl 3 (.int .i64)) (.sl 3 (.int .i64)))))),(valO (g_Ls_FroFall_0 y1 y2 y3 y4 y5 (y0,y6)))⟩))]))
 | b,h => Os_FroFall_1 b h
theorem bs_FroFall_0 (y0:Int) (y1:Int) (y2:tL0) (y3:tL1) (y4:Int) (y5:tL0) (y6:tL1):Tr.bt Es_FroFall Os_FroFall_1 (exec Es_FroFall 0 cs_FroFall_0 (St.of (hs_FroFall_0 y0 y1 y2 y3 y4 y5 y6)) (leafRd Es_FroFall 0)) = (g_Ss_FroFall_0 y1 y2 y3 y4 y5 (y0,y6)).bt (fun ((y0,y6):Int×tL1) => (hs_FroFall_0 y0 y1 y2 y3 y4 y5 y6)) (xs_FroFall_0 y1 y2 y3 y4 y5) := by kernel_rfl
theorem ks_FroFall_2:OrcOk Es_FroFall Os_FroFall_2 lss_FroFall 2 := orc_add ks_FroFall_1 (fun n p hp h ex h' ho => by
 obtain ⟨b,c⟩ := p
 obtain ⟨xt,h1,h2⟩ := ho
 have h1:Os_FroFall_2 b h = some (true,xt) := h1
 unfold Os_FroFall_2 at h1
 split at h1
 ·injection h1 with h1
  injection h1 with e1 e2
  subst e2
  have hc:c = cs_FroFall_0 := ms_FroFall_0 _ hp rfl
  subst hc
  right
  rename_i y0 y1 y2 y3 y4 y5 y6
  have key := LT_step ks_FroFall_1 hp (fun q hq => loopsAll_in _ _ _ _ hp hq) (fun ((y0,y6):Int×tL1) => (hs_FroFall_0 y0 y1 y2 y3 y4 y5 y6)) (xs_FroFall_0 y1 y2 y3 y4 y5) (g_Ss_FroFall_0 y1 y2 y3 y4 y5) (fun x => by first | exact bs_FroFall_0 x.1 y1 y2 y3 y4 y5 x.2) n (x := (y0,y6)) (okO_some e1)
  have hx:∀ r,XT.sel (.leaf (.exit 0) [(.T 4,.t (.val false [.ptr 4 0 0])),(.T 5,.t (.val false [.ptr 5 0 0])),(.B 4,.b 0 false [.row 4 1 0,.int .i64 y1,.row 4 5 0]),(.R 4 1,.r 0 (some ⟨false,.any,true,92,(.pair (.int .i64) (.pair (.int .i64) (.pair (.sl 9 .str) (.sl 155 (.pair .str (.pair .bool (.sl 3 (.int .i64)))))))),y2⟩)),(.R 4 5,.r 0 (some ⟨false,.any,true,73,(.pair (.int .i64) (.pair (.pair (.int .i64) (.pair (.int .i64) (.pair (.int .i64) (.pair (.int .i64) (.pair (.int .i64) (.pair (.int .i64) (.int .i64))))))) (.pair .bool (.pair (.sl 3 (.int .i64)) (.sl 3 (.int .i64)))))),y3⟩)),(.B 5,.b 0 false [.row 5 1 0,.int .i64 y4,.row 5 5 0]),(.R 5 1,.r 0 (some ⟨false,.any,true,92,(.pair (.int .i64) (.pair (.int .i64) (.pair (.sl 9 .str) (.sl 155 (.pair .str (.pair .bool (.sl 3 (.int .i64)))))))),y5⟩)),(.R 5 5,.r 0 (some ⟨false,.any,true,73,(.pair (.int .i64) (.pair (.pair (.int .i64) (.pair (.int .i64) (.pair (.int .i64) (.pair (.int .i64) (.pair (.int .i64) (.pair (.int .i64) (.int .i64))))))) (.pair .bool (.pair (.sl 3 (.int .i64)) (.sl 3 (.int .i64)))))),r⟩))]) = xs_FroFall_0 y1 y2 y3 y4 y5 r := fun r => by first | rfl | rcases r with r | r <;> rfl | rcases r with r | r | r <;> rfl | rcases r with r | r | r | r <;> rfl
  have h3 := (hx (valO (g_Ls_FroFall_0 y1 y2 y3 y4 y5 (y0,y6)))).symm.trans h2
  have e3 := congrArg Prod.fst h3
  have e4 := congrArg Prod.snd h3
  simp only at e3 e4
  rw [← e3,← e4]
  exact key
 ·exact .inl ⟨xt,h1,h2⟩)
noncomputable def g_As_FroFall (a0:tL0) (a1:Int) (a2:tL1) (a3:Int):Bool := g_As_FroOk a0 a1 a2&&(!g_Vs_FroOk_0 a0 a1 a2 || g_AZ66 a0 a1 a3&&(okO (g_Ls_FroFall_0 (0:Int) [] [] (g_VZ66_1 a0 a1 a3) (g_VZ66_0 a0 a1 a3) ((0:Int),[]))&&g_As_l6Copy (g_VZ66_0 a0 a1 a3) (g_VZ66_1 a0 a1 a3) (valO (g_Ls_FroFall_0 (0:Int) [] [] (g_VZ66_1 a0 a1 a3) (g_VZ66_0 a0 a1 a3) ((0:Int),[])))))
noncomputable def g_Vs_FroFall_0 (a0:tL0) (a1:Int) (a2:tL1) (a3:Int):tL0 := bif !g_Vs_FroOk_0 a0 a1 a2 then [] else g_Vs_l2Copy_0 (g_VZ66_0 a0 a1 a3) (g_VZ66_1 a0 a1 a3)
noncomputable def g_Vs_FroFall_1 (a0:tL0) (a1:Int) (a2:tL1) (a3:Int):Int := bif !g_Vs_FroOk_0 a0 a1 a2 then (0:Int) else g_VZ66_1 a0 a1 a3
noncomputable def g_Vs_FroFall_2 (a0:tL0) (a1:Int) (a2:tL1) (a3:Int):tL1 := bif !g_Vs_FroOk_0 a0 a1 a2 then [] else g_Vs_l6Copy_0 (g_VZ66_0 a0 a1 a3) (g_VZ66_1 a0 a1 a3) (valO (g_Ls_FroFall_0 (0:Int) [] [] (g_VZ66_1 a0 a1 a3) (g_VZ66_0 a0 a1 a3) ((0:Int),[])))
noncomputable def Fs_FroFall:FSem := fun ys => match ys with
 | [.val true [.sl .any 92 (.pair (.int .i64) (.pair (.int .i64) (.pair (.sl 9 .str) (.sl 155 (.pair .str (.pair .bool (.sl 3 (.int .i64)))))))) a0,.int .i64 a1,.sl .any 73 (.pair (.int .i64) (.pair (.pair (.int .i64) (.pair (.int .i64) (.pair (.int .i64) (.pair (.int .i64) (.pair (.int .i64) (.pair (.int .i64) (.int .i64))))))) (.pair .bool (.pair (.sl 3 (.int .i64)) (.sl 3 (.int .i64)))))) a2],.val false [.int .i64 a3]] => some ((g_As_FroFall a0 a1 a2 a3),.val true [.own .any true 92 (.pair (.int .i64) (.pair (.int .i64) (.pair (.sl 9 .str) (.sl 155 (.pair .str (.pair .bool (.sl 3 (.int .i64)))))))) (g_Vs_FroFall_0 a0 a1 a2 a3),.int .i64 (g_Vs_FroFall_1 a0 a1 a2 a3),.own .any true 73 (.pair (.int .i64) (.pair (.pair (.int .i64) (.pair (.int .i64) (.pair (.int .i64) (.pair (.int .i64) (.pair (.int .i64) (.pair (.int .i64) (.int .i64))))))) (.pair .bool (.pair (.sl 3 (.int .i64)) (.sl 3 (.int .i64)))))) (g_Vs_FroFall_2 a0 a1 a2 a3)],[])
 | _ => none
theorem vs_FroFall (a0:tL0) (a1:Int) (a2:tL1) (a3:Int):collapseH .std Es_FroFall Os_FroFall_2 (execFn Es_FroFall Tryz.f16 mss_FroFall [.val true [.sl .any 92 (.pair (.int .i64) (.pair (.int .i64) (.pair (.sl 9 .str) (.sl 155 (.pair .str (.pair .bool (.sl 3 (.int .i64)))))))) a0,.int .i64 a1,.sl .any 73 (.pair (.int .i64) (.pair (.pair (.int .i64) (.pair (.int .i64) (.pair (.int .i64) (.pair (.int .i64) (.pair (.int .i64) (.pair (.int .i64) (.int .i64))))))) (.pair .bool (.pair (.sl 3 (.int .i64)) (.sl 3 (.int .i64)))))) a2],.val false [.int .i64 a3]]) = some ((g_As_FroFall a0 a1 a2 a3),.val true [.own .any true 92 (.pair (.int .i64) (.pair (.int .i64) (.pair (.sl 9 .str) (.sl 155 (.pair .str (.pair .bool (.sl 3 (.int .i64)))))))) (g_Vs_FroFall_0 a0 a1 a2 a3),.int .i64 (g_Vs_FroFall_1 a0 a1 a2 a3),.own .any true 73 (.pair (.int .i64) (.pair (.pair (.int .i64) (.pair (.int .i64) (.pair (.int .i64) (.pair (.int .i64) (.pair (.int .i64) (.pair (.int .i64) (.int .i64))))))) (.pair .bool (.pair (.sl 3 (.int .i64)) (.sl 3 (.int .i64)))))) (g_Vs_FroFall_2 a0 a1 a2 a3)],[]) := by kernel_rfl
theorem ss_FroFall:Sound Tryz.prog 16 mss_FroFall Fs_FroFall := by
 refine fn_gen goods_FroFall (by kernel_rfl) .std (fn := Tryz.f16) (c := (Tryz.f16.body.getD .skip)) (o := Os_FroFall_2) (k := 2) (by kernel_rfl) (by kernel_rfl) (by kernel_rfl) (by kernel_rfl) (by decide) ks_FroFall_2 ?_
 intro ys r outs h
 unfold Fs_FroFall at h
 split at h
 ·exact (vs_FroFall _ _ _ _).trans h
 ·cases h
noncomputable def Ew_eqIntS:Env where
 tt := mkTI Tryz.prog
 fn := fun _ => none
 bxf := fun _ => none
 mv := []
 keep := fun b => match b with
  | 0 => [(0,false),(1,false),(5,false)]
  | _ => []
 keepB := fun b => match b with
  | 0 => []
  | _ => []
 keepX := fun b => match b with
  | 0 => [(4,false)]
  | _ => []
 keepXB := fun b => match b with
  | 0 => []
  | _ => []
theorem goodFw_eqIntS:∀ f ms F,Ew_eqIntS.fn f = some (ms,F) → Sound Tryz.prog f ms F := fun f ms F h => by cases h
theorem goodw_eqIntS:Good Tryz.prog Ew_eqIntS := ⟨rfl,goodFw_eqIntS,fun f ms F h => by cases h⟩
noncomputable def Ow_eqIntS_0:Orc := fun _ _ => none
noncomputable def msw_eqIntS:List PM := [.rd,.rd]
noncomputable def lsw_eqIntS:List (Nat×Code) := loopsAll 0 (Tryz.f142.body.getD .skip)
noncomputable def cw_eqIntS_0:Code := (loopOf 0 (Tryz.f142.body.getD .skip)).getD .skip
theorem lseqw_eqIntS:lsw_eqIntS = [(0,cw_eqIntS_0)] := by kernel_rfl
theorem mw_eqIntS_0:∀ p,p ∈ lsw_eqIntS → p.1 = 0 → p.2 = cw_eqIntS_0 := by
 intro p hp
 rw [lseqw_eqIntS] at hp
 simp only [List.mem_cons,List.not_mem_nil,or_false] at hp
 subst hp; simp
theorem kw_eqIntS_0:OrcOk Ew_eqIntS Ow_eqIntS_0 lsw_eqIntS 0 := orcOk_none
noncomputable def hw_eqIntS_0 (y0:List Int) (y1:List Int) (y2:Int):List (Pl×LV) := [(.T 0,.t (.val false [.sl .any 3 (.int .i64) y0])),(.T 1,.t (.val false [.sl .any 3 (.int .i64) y1])),(.T 5,.t (.val false [.int .i64 y2]))]
noncomputable def g_Sw_eqIntS_0 (y0:List Int) (y1:List Int):(Int) → RT (Int) ((Bool) ⊕ (Unit))
 | y2 => .br (true) (.br (decide (y2 < (y0.length:Int))) (.br (decide (0 ≤ y2 ∧ y2 < (y0.length:Int))) (.br (decide (0 ≤ y2 ∧ y2 < (y1.length:Int))) (.br (true) (.br (at_ (.int .i64) y0 (Int.toNat y2) != at_ (.int .i64) y1 (Int.toNat y2)) (.out (.inl false)) (.br (true) (.go (IntKind.i64.wrap (y2 + 1))) .bad)) .bad) .bad) .bad) (.out (.inr (())))) .bad
noncomputable def g_Lw_eqIntS_0 (y0:List Int) (y1:List Int) (x:Int):Option ((Bool) ⊕ (Unit)) := loopO (g_Sw_eqIntS_0 y0 y1) x
noncomputable def xw_eqIntS_0 (y0:List Int) (y1:List Int):((Bool) ⊕ (Unit)) → Ex×List (Pl×LV) := fun
 | .inl r => (.ret,[(.T 4,.t (.val false [.bool r]))])
 | .inr (r) => (.exit 0,[(.T 4,.t (.val false [.undef]))])
noncomputable def Ow_eqIntS_1:Orc := fun b h => match b,h with
 | 0,[(.T 0,.t (.val false [.sl .any 3 (.int .i64) y0])),(.T 1,.t (.val false [.sl .any 3 (.int .i64) y1])),(.T 5,.t (.val false [.int .i64 y2]))] => some (okO (g_Lw_eqIntS_0 y0 y1 y2),(.br (isL (valO (g_Lw_eqIntS_0 y0 y1 y2))) (.leaf .ret [(.T 4,.t (.val false [.bool (getL (valO (g_Lw_eqIntS_0 y0 y1 y2)))]))]) (.leaf (.exit 0) [(.T 4,.t (.val false [.undef]))])))
 | b,h => Ow_eqIntS_0 b h
theorem bw_eqIntS_0 (y0:List Int) (y1:List Int) (y2:Int):Tr.bt Ew_eqIntS Ow_eqIntS_0 (exec Ew_eqIntS 0 cw_eqIntS_0 (St.of (hw_eqIntS_0 y0 y1 y2)) (leafRd Ew_eqIntS 0)) = (g_Sw_eqIntS_0 y0 y1 y2).bt (fun (y2:Int) => (hw_eqIntS_0 y0 y1 y2)) (xw_eqIntS_0 y0 y1) := by kernel_rfl
theorem kw_eqIntS_1:OrcOk Ew_eqIntS Ow_eqIntS_1 lsw_eqIntS 1 := orc_add kw_eqIntS_0 (fun n p hp h ex h' ho => by
 obtain ⟨b,c⟩ := p
 obtain ⟨xt,h1,h2⟩ := ho
 have h1:Ow_eqIntS_1 b h = some (true,xt) := h1
 unfold Ow_eqIntS_1 at h1
 split at h1
 ·injection h1 with h1
  injection h1 with e1 e2
  subst e2
  have hc:c = cw_eqIntS_0 := mw_eqIntS_0 _ hp rfl
  subst hc
  right
  rename_i y0 y1 y2
  have key := LT_step kw_eqIntS_0 hp (fun q hq => loopsAll_in _ _ _ _ hp hq) (fun (y2:Int) => (hw_eqIntS_0 y0 y1 y2)) (xw_eqIntS_0 y0 y1) (g_Sw_eqIntS_0 y0 y1) (fun x => by first | exact bw_eqIntS_0 y0 y1 x) n (x := y2) (okO_some e1)
  have hx:∀ r,XT.sel (.br (isL r) (.leaf .ret [(.T 4,.t (.val false [.bool (getL r)]))]) (.leaf (.exit 0) [(.T 4,.t (.val false [.undef]))])) = xw_eqIntS_0 y0 y1 r := fun r => by first | rfl | rcases r with r | r <;> rfl | rcases r with r | r | r <;> rfl | rcases r with r | r | r | r <;> rfl
  have h3 := (hx (valO (g_Lw_eqIntS_0 y0 y1 y2))).symm.trans h2
  have e3 := congrArg Prod.fst h3
  have e4 := congrArg Prod.snd h3
  simp only at e3 e4
  rw [← e3,← e4]
  exact key
 ·exact .inl ⟨xt,h1,h2⟩)
noncomputable def g_Aw_eqIntS (a0:List Int) (a1:List Int):Bool := (a0.length:Int) != (a1.length:Int) || okO (g_Lw_eqIntS_0 a0 a1 (0:Int))
noncomputable def g_Vw_eqIntS_0 (a0:List Int) (a1:List Int):Bool := bif (a0.length:Int) != (a1.length:Int) then false else bif isL (valO (g_Lw_eqIntS_0 a0 a1 (0:Int))) then getL (valO (g_Lw_eqIntS_0 a0 a1 (0:Int))) else true
noncomputable def Fw_eqIntS:FSem := fun ys => match ys with
 | [.val false [.sl .any 3 (.int .i64) a0],.val false [.sl .any 3 (.int .i64) a1]] => some ((g_Aw_eqIntS a0 a1),.val false [.bool (g_Vw_eqIntS_0 a0 a1)],[])
 | _ => none
theorem vw_eqIntS (a0:List Int) (a1:List Int):collapseH .std Ew_eqIntS Ow_eqIntS_1 (execFn Ew_eqIntS Tryz.f142 msw_eqIntS [.val false [.sl .any 3 (.int .i64) a0],.val false [.sl .any 3 (.int .i64) a1]]) = some ((g_Aw_eqIntS a0 a1),.val false [.bool (g_Vw_eqIntS_0 a0 a1)],[]) := by kernel_rfl
theorem sw_eqIntS:Sound Tryz.prog 142 msw_eqIntS Fw_eqIntS := by
 refine fn_gen goodw_eqIntS (by kernel_rfl) .std (fn := Tryz.f142) (c := (Tryz.f142.body.getD .skip)) (o := Ow_eqIntS_1) (k := 1) (by kernel_rfl) (by kernel_rfl) (by kernel_rfl) (by kernel_rfl) (by decide) kw_eqIntS_1 ?_
 intro ys r outs h
 unfold Fw_eqIntS at h
 split at h
 ·exact (vw_eqIntS _ _).trans h
 ·cases h
noncomputable def Ew_eqOpOp:Env where
 tt := mkTI Tryz.prog
 fn := fun _ => none
 bxf := fun _ => none
 mv := []
 keep := fun _ => []
 keepB := fun _ => []
 keepX := fun _ => []
 keepXB := fun _ => []
theorem goodFw_eqOpOp:∀ f ms F,Ew_eqOpOp.fn f = some (ms,F) → Sound Tryz.prog f ms F := fun f ms F h => by cases h
theorem goodw_eqOpOp:Good Tryz.prog Ew_eqOpOp := ⟨rfl,goodFw_eqOpOp,fun f ms F h => by cases h⟩
noncomputable def Ow_eqOpOp_0:Orc := fun _ _ => none
noncomputable def msw_eqOpOp:List PM := [.own,.own]
noncomputable def lsw_eqOpOp:List (Nat×Code) := loopsAll 0 (Tryz.f102.body.getD .skip)
theorem kw_eqOpOp_0:OrcOk Ew_eqOpOp Ow_eqOpOp_0 lsw_eqOpOp 0 := orcOk_none
noncomputable def g_Aw_eqOpOp (a0:Int) (a1:Int) (a2:Int) (a3:Int) (a4:Int) (a5:Int) (a6:Int) (a7:Int) (a8:Int) (a9:Int) (a10:Int) (a11:Int) (a12:Int) (a13:Int):Bool := a0 != a7 || (a1 != a8 || (a2 != a9 || (a3 != a10 || (a4 != a11 || (a5 != a12 || true)))))
noncomputable def g_Vw_eqOpOp_0 (a0:Int) (a1:Int) (a2:Int) (a3:Int) (a4:Int) (a5:Int) (a6:Int) (a7:Int) (a8:Int) (a9:Int) (a10:Int) (a11:Int) (a12:Int) (a13:Int):Bool := bif a0 != a7 then false else bif a1 != a8 then false else bif a2 != a9 then false else bif a3 != a10 then false else bif a4 != a11 then false else bif a5 != a12 then false else bif a6 != a13 then false else true
noncomputable def Fw_eqOpOp:FSem := fun ys => match ys with
 | [.val true [.int .i64 a0,.int .i64 a1,.int .i64 a2,.int .i64 a3,.int .i64 a4,.int .i64 a5,.int .i64 a6],.val true [.int .i64 a7,.int .i64 a8,.int .i64 a9,.int .i64 a10,.int .i64 a11,.int .i64 a12,.int .i64 a13]] => some ((g_Aw_eqOpOp a0 a1 a2 a3 a4 a5 a6 a7 a8 a9 a10 a11 a12 a13),.val false [.bool (g_Vw_eqOpOp_0 a0 a1 a2 a3 a4 a5 a6 a7 a8 a9 a10 a11 a12 a13)],[])
 | _ => none
theorem vw_eqOpOp (a0:Int) (a1:Int) (a2:Int) (a3:Int) (a4:Int) (a5:Int) (a6:Int) (a7:Int) (a8:Int) (a9:Int) (a10:Int) (a11:Int) (a12:Int) (a13:Int):collapseH .std Ew_eqOpOp Ow_eqOpOp_0 (execFn Ew_eqOpOp Tryz.f102 msw_eqOpOp [.val true [.int .i64 a0,.int .i64 a1,.int .i64 a2,.int .i64 a3,.int .i64 a4,.int .i64 a5,.int .i64 a6],.val true [.int .i64 a7,.int .i64 a8,.int .i64 a9,.int .i64 a10,.int .i64 a11,.int .i64 a12,.int .i64 a13]]) = some ((g_Aw_eqOpOp a0 a1 a2 a3 a4 a5 a6 a7 a8 a9 a10 a11 a12 a13),.val false [.bool (g_Vw_eqOpOp_0 a0 a1 a2 a3 a4 a5 a6 a7 a8 a9 a10 a11 a12 a13)],[]) := by kernel_rfl
theorem sw_eqOpOp:Sound Tryz.prog 102 msw_eqOpOp Fw_eqOpOp := by
 refine fn_gen goodw_eqOpOp (by kernel_rfl) .std (fn := Tryz.f102) (c := (Tryz.f102.body.getD .skip)) (o := Ow_eqOpOp_0) (k := 0) (by kernel_rfl) (by kernel_rfl) (by kernel_rfl) (by kernel_rfl) (by decide) kw_eqOpOp_0 ?_
 intro ys r outs h
 unfold Fw_eqOpOp at h
 split at h
 ·exact (vw_eqOpOp _ _ _ _ _ _ _ _ _ _ _ _ _ _).trans h
 ·cases h
noncomputable def Ew_eqFroTx:Env where
 tt := mkTI Tryz.prog
 fn := fun f => match f with
  | 102 => some (msw_eqOpOp,FSem.wk msw_eqOpOp Fw_eqOpOp)
  | 142 => some (msw_eqIntS,FSem.wk msw_eqIntS Fw_eqIntS)
  | _ => none
 bxf := fun _ => none
 mv := []
 keep := fun _ => []
 keepB := fun _ => []
 keepX := fun _ => []
 keepXB := fun _ => []
theorem goodFw_eqFroTx:∀ f ms F,Ew_eqFroTx.fn f = some (ms,F) → Sound Tryz.prog f ms F := fun f ms F h => by
 unfold Ew_eqFroTx at h
 dsimp only at h
 split at h
 ·exact gF sw_eqOpOp h
 ·exact gF sw_eqIntS h
 ·cases h
theorem goodw_eqFroTx:Good Tryz.prog Ew_eqFroTx := ⟨rfl,goodFw_eqFroTx,fun f ms F h => by cases h⟩
noncomputable def Ow_eqFroTx_0:Orc := fun _ _ => none
noncomputable def msw_eqFroTx:List PM := [.rd,.rd]
noncomputable def lsw_eqFroTx:List (Nat×Code) := loopsAll 0 (Tryz.f104.body.getD .skip)
theorem kw_eqFroTx_0:OrcOk Ew_eqFroTx Ow_eqFroTx_0 lsw_eqFroTx 0 := orcOk_none
noncomputable def g_Aw_eqFroTx (a0:Int) (a1:Int) (a2:Int) (a3:Int) (a4:Int) (a5:Int) (a6:Int) (a7:Int) (a8:Bool) (a9:List Int) (a10:List Int) (a11:Int) (a12:Int) (a13:Int) (a14:Int) (a15:Int) (a16:Int) (a17:Int) (a18:Int) (a19:Bool) (a20:List Int) (a21:List Int):Bool := a0 != a11 || g_Aw_eqOpOp a1 a2 a3 a4 a5 a6 a7 a12 a13 a14 a15 a16 a17 a18&&(!g_Vw_eqOpOp_0 a1 a2 a3 a4 a5 a6 a7 a12 a13 a14 a15 a16 a17 a18 || (!a8 == a19 || g_Aw_eqIntS a9 a20&&(!g_Vw_eqIntS_0 a9 a20 || g_Aw_eqIntS a10 a21)))
noncomputable def g_Vw_eqFroTx_0 (a0:Int) (a1:Int) (a2:Int) (a3:Int) (a4:Int) (a5:Int) (a6:Int) (a7:Int) (a8:Bool) (a9:List Int) (a10:List Int) (a11:Int) (a12:Int) (a13:Int) (a14:Int) (a15:Int) (a16:Int) (a17:Int) (a18:Int) (a19:Bool) (a20:List Int) (a21:List Int):Bool := bif a0 != a11 then false else bif !g_Vw_eqOpOp_0 a1 a2 a3 a4 a5 a6 a7 a12 a13 a14 a15 a16 a17 a18 then false else bif !a8 == a19 then false else bif !g_Vw_eqIntS_0 a9 a20 then false else bif !g_Vw_eqIntS_0 a10 a21 then false else true
noncomputable def Fw_eqFroTx:FSem := fun ys => match ys with
 | [.val true [.int .i64 a0,.int .i64 a1,.int .i64 a2,.int .i64 a3,.int .i64 a4,.int .i64 a5,.int .i64 a6,.int .i64 a7,.bool a8,.sl .any 3 (.int .i64) a9,.sl .any 3 (.int .i64) a10],.val true [.int .i64 a11,.int .i64 a12,.int .i64 a13,.int .i64 a14,.int .i64 a15,.int .i64 a16,.int .i64 a17,.int .i64 a18,.bool a19,.sl .any 3 (.int .i64) a20,.sl .any 3 (.int .i64) a21]] => some ((g_Aw_eqFroTx a0 a1 a2 a3 a4 a5 a6 a7 a8 a9 a10 a11 a12 a13 a14 a15 a16 a17 a18 a19 a20 a21),.val false [.bool (g_Vw_eqFroTx_0 a0 a1 a2 a3 a4 a5 a6 a7 a8 a9 a10 a11 a12 a13 a14 a15 a16 a17 a18 a19 a20 a21)],[])
 | _ => none
theorem vw_eqFroTx (a0:Int) (a1:Int) (a2:Int) (a3:Int) (a4:Int) (a5:Int) (a6:Int) (a7:Int) (a8:Bool) (a9:List Int) (a10:List Int) (a11:Int) (a12:Int) (a13:Int) (a14:Int) (a15:Int) (a16:Int) (a17:Int) (a18:Int) (a19:Bool) (a20:List Int) (a21:List Int):collapseH .std Ew_eqFroTx Ow_eqFroTx_0 (execFn Ew_eqFroTx Tryz.f104 msw_eqFroTx [.val true [.int .i64 a0,.int .i64 a1,.int .i64 a2,.int .i64 a3,.int .i64 a4,.int .i64 a5,.int .i64 a6,.int .i64 a7,.bool a8,.sl .any 3 (.int .i64) a9,.sl .any 3 (.int .i64) a10],.val true [.int .i64 a11,.int .i64 a12,.int .i64 a13,.int .i64 a14,.int .i64 a15,.int .i64 a16,.int .i64 a17,.int .i64 a18,.bool a19,.sl .any 3 (.int .i64) a20,.sl .any 3 (.int .i64) a21]]) = some ((g_Aw_eqFroTx a0 a1 a2 a3 a4 a5 a6 a7 a8 a9 a10 a11 a12 a13 a14 a15 a16 a17 a18 a19 a20 a21),.val false [.bool (g_Vw_eqFroTx_0 a0 a1 a2 a3 a4 a5 a6 a7 a8 a9 a10 a11 a12 a13 a14 a15 a16 a17 a18 a19 a20 a21)],[]) := by kernel_rfl
theorem sw_eqFroTx:Sound Tryz.prog 104 msw_eqFroTx Fw_eqFroTx := by
 refine fn_gen goodw_eqFroTx (by kernel_rfl) .std (fn := Tryz.f104) (c := (Tryz.f104.body.getD .skip)) (o := Ow_eqFroTx_0) (k := 0) (by kernel_rfl) (by kernel_rfl) (by kernel_rfl) (by kernel_rfl) (by decide) kw_eqFroTx_0 ?_
 intro ys r outs h
 unfold Fw_eqFroTx at h
 split at h
 ·exact (vw_eqFroTx _ _ _ _ _ _ _ _ _ _ _ _ _ _ _ _ _ _ _ _ _ _).trans h
 ·cases h
noncomputable def EZ68:Env where
 tt := mkTI Tryz.prog
 fn := fun f => match f with
  | 104 => some (msw_eqFroTx,FSem.wk msw_eqFroTx Fw_eqFroTx)
  | _ => none
 bxf := fun _ => none
 mv := []
 keep := fun b => match b with
  | 0 => [(0,false),(1,false),(5,false)]
  | _ => []
 keepB := fun b => match b with
  | 0 => []
  | _ => []
 keepX := fun b => match b with
  | 0 => [(4,false)]
  | _ => []
 keepXB := fun b => match b with
  | 0 => []
  | _ => []
theorem goodFZ68:∀ f ms F,EZ68.fn f = some (ms,F) → Sound Tryz.prog f ms F := fun f ms F h => by
 unfold EZ68 at h
 dsimp only at h
 split at h
 ·exact gF sw_eqFroTx h
 ·cases h
theorem goodZ68:Good Tryz.prog EZ68 := ⟨rfl,goodFZ68,fun f ms F h => by cases h⟩
noncomputable def OZ68_0:Orc := fun _ _ => none
noncomputable def msZ68:List PM := [.rd,.rd]
noncomputable def lsZ68:List (Nat×Code) := loopsAll 0 (Tryz.f43.body.getD .skip)
noncomputable def cZ68_0:Code := (loopOf 0 (Tryz.f43.body.getD .skip)).getD .skip
theorem lseqZ68:lsZ68 = [(0,cZ68_0)] := by kernel_rfl
theorem mZ68_0:∀ p,p ∈ lsZ68 → p.1 = 0 → p.2 = cZ68_0 := by
 intro p hp
 rw [lseqZ68] at hp
 simp only [List.mem_cons,List.not_mem_nil,or_false] at hp
 subst hp; simp
theorem kZ68_0:OrcOk EZ68 OZ68_0 lsZ68 0 := orcOk_none
noncomputable def hZ68_0 (y0:tL1) (y1:tL1) (y2:Int):List (Pl×LV) := [(.T 0,.t (.val false [.sl .any 73 (.pair (.int .i64) (.pair (.pair (.int .i64) (.pair (.int .i64) (.pair (.int .i64) (.pair (.int .i64) (.pair (.int .i64) (.pair (.int .i64) (.int .i64))))))) (.pair .bool (.pair (.sl 3 (.int .i64)) (.sl 3 (.int .i64)))))) y0])),(.T 1,.t (.val false [.sl .any 73 (.pair (.int .i64) (.pair (.pair (.int .i64) (.pair (.int .i64) (.pair (.int .i64) (.pair (.int .i64) (.pair (.int .i64) (.pair (.int .i64) (.int .i64))))))) (.pair .bool (.pair (.sl 3 (.int .i64)) (.sl 3 (.int .i64)))))) y1])),(.T 5,.t (.val false [.int .i64 y2]))]
noncomputable def g_SZ68_0 (y0:tL1) (y1:tL1):(Int) → RT (Int) ((Bool) ⊕ (Unit))
 | y2 => .br (true) (.br (decide (y2 < (y0.length:Int))) (.br (decide (0 ≤ y2 ∧ y2 < (y0.length:Int))) (.br (decide (0 ≤ y2 ∧ y2 < (y1.length:Int))) (.br (g_Aw_eqFroTx (at_ yT0 y0 (Int.toNat y2)).1 (at_ yT0 y0 (Int.toNat y2)).2.1.1 (at_ yT0 y0 (Int.toNat y2)).2.1.2.1 (at_ yT0 y0 (Int.toNat y2)).2.1.2.2.1 (at_ yT0 y0 (Int.toNat y2)).2.1.2.2.2.1 (at_ yT0 y0 (Int.toNat y2)).2.1.2.2.2.2.1 (at_ yT0 y0 (Int.toNat y2)).2.1.2.2.2.2.2.1 (at_ yT0 y0 (Int.toNat y2)).2.1.2.2.2.2.2.2 (at_ yT0 y0 (Int.toNat y2)).2.2.1 (at_ yT0 y0 (Int.toNat y2)).2.2.2.1 (at_ yT0 y0 (Int.toNat y2)).2.2.2.2 (at_ yT0 y1 (Int.toNat y2)).1 (at_ yT0 y1 (Int.toNat y2)).2.1.1 (at_ yT0 y1 (Int.toNat y2)).2.1.2.1 (at_ yT0 y1 (Int.toNat y2)).2.1.2.2.1 (at_ yT0 y1 (Int.toNat y2)).2.1.2.2.2.1 (at_ yT0 y1 (Int.toNat y2)).2.1.2.2.2.2.1 (at_ yT0 y1 (Int.toNat y2)).2.1.2.2.2.2.2.1 (at_ yT0 y1 (Int.toNat y2)).2.1.2.2.2.2.2.2 (at_ yT0 y1 (Int.toNat y2)).2.2.1 (at_ yT0 y1 (Int.toNat y2)).2.2.2.1 (at_ yT0 y1 (Int.toNat y2)).2.2.2.2) (.br (!g_Vw_eqFroTx_0 (at_ yT0 y0 (Int.toNat y2)).1 (at_ yT0 y0 (Int.toNat y2)).2.1.1 (at_ yT0 y0 (Int.toNat y2)).2.1.2.1 (at_ yT0 y0 (Int.toNat y2)).2.1.2.2.1 (at_ yT0 y0 (Int.toNat y2)).2.1.2.2.2.1 (at_ yT0 y0 (Int.toNat y2)).2.1.2.2.2.2.1 (at_ yT0 y0 (Int.toNat y2)).2.1.2.2.2.2.2.1 (at_ yT0 y0 (Int.toNat y2)).2.1.2.2.2.2.2.2 (at_ yT0 y0 (Int.toNat y2)).2.2.1 (at_ yT0 y0 (Int.toNat y2)).2.2.2.1 (at_ yT0 y0 (Int.toNat y2)).2.2.2.2 (at_ yT0 y1 (Int.toNat y2)).1 (at_ yT0 y1 (Int.toNat y2)).2.1.1 (at_ yT0 y1 (Int.toNat y2)).2.1.2.1 (at_ yT0 y1 (Int.toNat y2)).2.1.2.2.1 (at_ yT0 y1 (Int.toNat y2)).2.1.2.2.2.1 (at_ yT0 y1 (Int.toNat y2)).2.1.2.2.2.2.1 (at_ yT0 y1 (Int.toNat y2)).2.1.2.2.2.2.2.1 (at_ yT0 y1 (Int.toNat y2)).2.1.2.2.2.2.2.2 (at_ yT0 y1 (Int.toNat y2)).2.2.1 (at_ yT0 y1 (Int.toNat y2)).2.2.2.1 (at_ yT0 y1 (Int.toNat y2)).2.2.2.2) (.out (.inl false)) (.br (true) (.go (IntKind.i64.wrap (y2 + 1))) .bad)) .bad) .bad) .bad) (.out (.inr (())))) .bad
noncomputable def g_LZ68_0 (y0:tL1) (y1:tL1) (x:Int):Option ((Bool) ⊕ (Unit)) := loopO (g_SZ68_0 y0 y1) x
noncomputable def xZ68_0 (y0:tL1) (y1:tL1):((Bool) ⊕ (Unit)) → Ex×List (Pl×LV) := fun
 | .inl r => (.ret,[(.T 4,.t (.val false [.bool r]))])
 | .inr (r) => (.exit 0,[(.T 4,.t (.val false [.undef]))])
noncomputable def OZ68_1:Orc := fun b h => match b,h with
 | 0,[(.T 0,.t (.val false [.sl .any 73 (.pair (.int .i64) (.pair (.pair (.int .i64) (.pair (.int .i64) (.pair (.int .i64) (.pair (.int .i64) (.pair (.int .i64) (.pair (.int .i64) (.int .i64))))))) (.pair .bool (.pair (.sl 3 (.int .i64)) (.sl 3 (.int .i64)))))) y0])),(.T 1,.t (.val false [.sl .any 73 (.pair (.int .i64) (.pair (.pair (.int .i64) (.pair (.int .i64) (.pair (.int .i64) (.pair (.int .i64) (.pair (.int .i64) (.pair (.int .i64) (.int .i64))))))) (.pair .bool (.pair (.sl 3 (.int .i64)) (.sl 3 (.int .i64)))))) y1])),(.T 5,.t (.val false [.int .i64 y2]))] => some (okO (g_LZ68_0 y0 y1 y2),(.br (isL (valO (g_LZ68_0 y0 y1 y2))) (.leaf .ret [(.T 4,.t (.val false [.bool (getL (valO (g_LZ68_0 y0 y1 y2)))]))]) (.leaf (.exit 0) [(.T 4,.t (.val false [.undef]))])))
 | b,h => OZ68_0 b h
theorem bZ68_0 (y0:tL1) (y1:tL1) (y2:Int):Tr.bt EZ68 OZ68_0 (exec EZ68 0 cZ68_0 (St.of (hZ68_0 y0 y1 y2)) (leafRd EZ68 0)) = (g_SZ68_0 y0 y1 y2).bt (fun (y2:Int) => (hZ68_0 y0 y1 y2)) (xZ68_0 y0 y1) := by kernel_rfl
theorem kZ68_1:OrcOk EZ68 OZ68_1 lsZ68 1 := orc_add kZ68_0 (fun n p hp h ex h' ho => by
 obtain ⟨b,c⟩ := p
 obtain ⟨xt,h1,h2⟩ := ho
 have h1:OZ68_1 b h = some (true,xt) := h1
 unfold OZ68_1 at h1
 split at h1
 ·injection h1 with h1
  injection h1 with e1 e2
  subst e2
  have hc:c = cZ68_0 := mZ68_0 _ hp rfl
  subst hc
  right
  rename_i y0 y1 y2
  have key := LT_step kZ68_0 hp (fun q hq => loopsAll_in _ _ _ _ hp hq) (fun (y2:Int) => (hZ68_0 y0 y1 y2)) (xZ68_0 y0 y1) (g_SZ68_0 y0 y1) (fun x => by first | exact bZ68_0 y0 y1 x) n (x := y2) (okO_some e1)
  have hx:∀ r,XT.sel (.br (isL r) (.leaf .ret [(.T 4,.t (.val false [.bool (getL r)]))]) (.leaf (.exit 0) [(.T 4,.t (.val false [.undef]))])) = xZ68_0 y0 y1 r := fun r => by first | rfl | rcases r with r | r <;> rfl | rcases r with r | r | r <;> rfl | rcases r with r | r | r | r <;> rfl
  have h3 := (hx (valO (g_LZ68_0 y0 y1 y2))).symm.trans h2
  have e3 := congrArg Prod.fst h3
  have e4 := congrArg Prod.snd h3
  simp only at e3 e4
  rw [← e3,← e4]
  exact key
 ·exact .inl ⟨xt,h1,h2⟩)
noncomputable def g_AZ68 (a0:tL1) (a1:tL1):Bool := (a0.length:Int) != (a1.length:Int) || okO (g_LZ68_0 a0 a1 (0:Int))
noncomputable def g_VZ68_0 (a0:tL1) (a1:tL1):Bool := bif (a0.length:Int) != (a1.length:Int) then false else bif isL (valO (g_LZ68_0 a0 a1 (0:Int))) then getL (valO (g_LZ68_0 a0 a1 (0:Int))) else true
noncomputable def FZ68:FSem := fun ys => match ys with
 | [.val false [.sl .any 73 (.pair (.int .i64) (.pair (.pair (.int .i64) (.pair (.int .i64) (.pair (.int .i64) (.pair (.int .i64) (.pair (.int .i64) (.pair (.int .i64) (.int .i64))))))) (.pair .bool (.pair (.sl 3 (.int .i64)) (.sl 3 (.int .i64)))))) a0],.val false [.sl .any 73 (.pair (.int .i64) (.pair (.pair (.int .i64) (.pair (.int .i64) (.pair (.int .i64) (.pair (.int .i64) (.pair (.int .i64) (.pair (.int .i64) (.int .i64))))))) (.pair .bool (.pair (.sl 3 (.int .i64)) (.sl 3 (.int .i64)))))) a1]] => some ((g_AZ68 a0 a1),.val false [.bool (g_VZ68_0 a0 a1)],[])
 | _ => none
theorem vZ68 (a0:tL1) (a1:tL1):collapseH .std EZ68 OZ68_1 (execFn EZ68 Tryz.f43 msZ68 [.val false [.sl .any 73 (.pair (.int .i64) (.pair (.pair (.int .i64) (.pair (.int .i64) (.pair (.int .i64) (.pair (.int .i64) (.pair (.int .i64) (.pair (.int .i64) (.int .i64))))))) (.pair .bool (.pair (.sl 3 (.int .i64)) (.sl 3 (.int .i64)))))) a0],.val false [.sl .any 73 (.pair (.int .i64) (.pair (.pair (.int .i64) (.pair (.int .i64) (.pair (.int .i64) (.pair (.int .i64) (.pair (.int .i64) (.pair (.int .i64) (.int .i64))))))) (.pair .bool (.pair (.sl 3 (.int .i64)) (.sl 3 (.int .i64)))))) a1]]) = some ((g_AZ68 a0 a1),.val false [.bool (g_VZ68_0 a0 a1)],[]) := by kernel_rfl
theorem sZ68:Sound Tryz.prog 43 msZ68 FZ68 := by
 refine fn_gen goodZ68 (by kernel_rfl) .std (fn := Tryz.f43) (c := (Tryz.f43.body.getD .skip)) (o := OZ68_1) (k := 1) (by kernel_rfl) (by kernel_rfl) (by kernel_rfl) (by kernel_rfl) (by decide) kZ68_1 ?_
 intro ys r outs h
 unfold FZ68 at h
 split at h
 ·exact (vZ68 _ _).trans h
 ·cases h
noncomputable def EZ39:Env where
 tt := mkTI Tryz.prog
 fn := fun f => match f with
  | 142 => some (msw_eqIntS,FSem.wk msw_eqIntS Fw_eqIntS)
  | _ => none
 bxf := fun _ => none
 mv := []
 keep := fun _ => []
 keepB := fun _ => []
 keepX := fun _ => []
 keepXB := fun _ => []
theorem goodFZ39:∀ f ms F,EZ39.fn f = some (ms,F) → Sound Tryz.prog f ms F := fun f ms F h => by
 unfold EZ39 at h
 dsimp only at h
 split at h
 ·exact gF sw_eqIntS h
 ·cases h
theorem goodZ39:Good Tryz.prog EZ39 := ⟨rfl,goodFZ39,fun f ms F h => by cases h⟩
noncomputable def OZ39_0:Orc := fun _ _ => none
noncomputable def msZ39:List PM := [.rd,.rd]
noncomputable def lsZ39:List (Nat×Code) := loopsAll 0 (Tryz.f180.body.getD .skip)
theorem kZ39_0:OrcOk EZ39 OZ39_0 lsZ39 0 := orcOk_none
noncomputable def g_AZ39 (a0:ByteArray) (a1:Bool) (a2:List Int) (a3:ByteArray) (a4:Bool) (a5:List Int):Bool := !ByteArray.toList a0 == ByteArray.toList a3 || (!a1 == a4 || g_Aw_eqIntS a2 a5)
noncomputable def g_VZ39_0 (a0:ByteArray) (a1:Bool) (a2:List Int) (a3:ByteArray) (a4:Bool) (a5:List Int):Bool := bif !ByteArray.toList a0 == ByteArray.toList a3 then false else bif !a1 == a4 then false else bif !g_Vw_eqIntS_0 a2 a5 then false else true
noncomputable def FZ39:FSem := fun ys => match ys with
 | [.val true [.str a0,.bool a1,.sl .any 3 (.int .i64) a2],.val true [.str a3,.bool a4,.sl .any 3 (.int .i64) a5]] => some ((g_AZ39 a0 a1 a2 a3 a4 a5),.val false [.bool (g_VZ39_0 a0 a1 a2 a3 a4 a5)],[])
 | _ => none
theorem vZ39 (a0:ByteArray) (a1:Bool) (a2:List Int) (a3:ByteArray) (a4:Bool) (a5:List Int):collapseH .std EZ39 OZ39_0 (execFn EZ39 Tryz.f180 msZ39 [.val true [.str a0,.bool a1,.sl .any 3 (.int .i64) a2],.val true [.str a3,.bool a4,.sl .any 3 (.int .i64) a5]]) = some ((g_AZ39 a0 a1 a2 a3 a4 a5),.val false [.bool (g_VZ39_0 a0 a1 a2 a3 a4 a5)],[]) := by kernel_rfl
theorem sZ39:Sound Tryz.prog 180 msZ39 FZ39 := by
 refine fn_gen goodZ39 (by kernel_rfl) .std (fn := Tryz.f180) (c := (Tryz.f180.body.getD .skip)) (o := OZ39_0) (k := 0) (by kernel_rfl) (by kernel_rfl) (by kernel_rfl) (by kernel_rfl) (by decide) kZ39_0 ?_
 intro ys r outs h
 unfold FZ39 at h
 split at h
 ·exact (vZ39 _ _ _ _ _ _).trans h
 ·cases h
noncomputable def EZ30:Env where
 tt := mkTI Tryz.prog
 fn := fun f => match f with
  | 180 => some (msZ39,FSem.wk msZ39 FZ39)
  | _ => none
 bxf := fun _ => none
 mv := []
 keep := fun b => match b with
  | 0 => [(0,false),(1,false),(5,false)]
  | _ => []
 keepB := fun b => match b with
  | 0 => []
  | _ => []
 keepX := fun b => match b with
  | 0 => [(4,false)]
  | _ => []
 keepXB := fun b => match b with
  | 0 => []
  | _ => []
theorem goodFZ30:∀ f ms F,EZ30.fn f = some (ms,F) → Sound Tryz.prog f ms F := fun f ms F h => by
 unfold EZ30 at h
 dsimp only at h
 split at h
 ·exact gF sZ39 h
 ·cases h
theorem goodZ30:Good Tryz.prog EZ30 := ⟨rfl,goodFZ30,fun f ms F h => by cases h⟩
noncomputable def OZ30_0:Orc := fun _ _ => none
noncomputable def msZ30:List PM := [.rd,.rd]
noncomputable def lsZ30:List (Nat×Code) := loopsAll 0 (Tryz.f167.body.getD .skip)
noncomputable def cZ30_0:Code := (loopOf 0 (Tryz.f167.body.getD .skip)).getD .skip
theorem lseqZ30:lsZ30 = [(0,cZ30_0)] := by kernel_rfl
theorem mZ30_0:∀ p,p ∈ lsZ30 → p.1 = 0 → p.2 = cZ30_0 := by
 intro p hp
 rw [lseqZ30] at hp
 simp only [List.mem_cons,List.not_mem_nil,or_false] at hp
 subst hp; simp
theorem kZ30_0:OrcOk EZ30 OZ30_0 lsZ30 0 := orcOk_none
noncomputable def hZ30_0 (y0:tL2) (y1:tL2) (y2:Int):List (Pl×LV) := [(.T 0,.t (.val false [.sl .any 155 (.pair .str (.pair .bool (.sl 3 (.int .i64)))) y0])),(.T 1,.t (.val false [.sl .any 155 (.pair .str (.pair .bool (.sl 3 (.int .i64)))) y1])),(.T 5,.t (.val false [.int .i64 y2]))]
noncomputable def g_SZ30_0 (y0:tL2) (y1:tL2):(Int) → RT (Int) ((Bool) ⊕ (Unit))
 | y2 => .br (true) (.br (decide (y2 < (y0.length:Int))) (.br (decide (0 ≤ y2 ∧ y2 < (y0.length:Int))) (.br (decide (0 ≤ y2 ∧ y2 < (y1.length:Int))) (.br (g_AZ39 (at_ yT2 y0 (Int.toNat y2)).1 (at_ yT2 y0 (Int.toNat y2)).2.1 (at_ yT2 y0 (Int.toNat y2)).2.2 (at_ yT2 y1 (Int.toNat y2)).1 (at_ yT2 y1 (Int.toNat y2)).2.1 (at_ yT2 y1 (Int.toNat y2)).2.2) (.br (!g_VZ39_0 (at_ yT2 y0 (Int.toNat y2)).1 (at_ yT2 y0 (Int.toNat y2)).2.1 (at_ yT2 y0 (Int.toNat y2)).2.2 (at_ yT2 y1 (Int.toNat y2)).1 (at_ yT2 y1 (Int.toNat y2)).2.1 (at_ yT2 y1 (Int.toNat y2)).2.2) (.out (.inl false)) (.br (true) (.go (IntKind.i64.wrap (y2 + 1))) .bad)) .bad) .bad) .bad) (.out (.inr (())))) .bad
noncomputable def g_LZ30_0 (y0:tL2) (y1:tL2) (x:Int):Option ((Bool) ⊕ (Unit)) := loopO (g_SZ30_0 y0 y1) x
noncomputable def xZ30_0 (y0:tL2) (y1:tL2):((Bool) ⊕ (Unit)) → Ex×List (Pl×LV) := fun
 | .inl r => (.ret,[(.T 4,.t (.val false [.bool r]))])
 | .inr (r) => (.exit 0,[(.T 4,.t (.val false [.undef]))])
noncomputable def OZ30_1:Orc := fun b h => match b,h with
 | 0,[(.T 0,.t (.val false [.sl .any 155 (.pair .str (.pair .bool (.sl 3 (.int .i64)))) y0])),(.T 1,.t (.val false [.sl .any 155 (.pair .str (.pair .bool (.sl 3 (.int .i64)))) y1])),(.T 5,.t (.val false [.int .i64 y2]))] => some (okO (g_LZ30_0 y0 y1 y2),(.br (isL (valO (g_LZ30_0 y0 y1 y2))) (.leaf .ret [(.T 4,.t (.val false [.bool (getL (valO (g_LZ30_0 y0 y1 y2)))]))]) (.leaf (.exit 0) [(.T 4,.t (.val false [.undef]))])))
 | b,h => OZ30_0 b h
theorem bZ30_0 (y0:tL2) (y1:tL2) (y2:Int):Tr.bt EZ30 OZ30_0 (exec EZ30 0 cZ30_0 (St.of (hZ30_0 y0 y1 y2)) (leafRd EZ30 0)) = (g_SZ30_0 y0 y1 y2).bt (fun (y2:Int) => (hZ30_0 y0 y1 y2)) (xZ30_0 y0 y1) := by kernel_rfl
theorem kZ30_1:OrcOk EZ30 OZ30_1 lsZ30 1 := orc_add kZ30_0 (fun n p hp h ex h' ho => by
 obtain ⟨b,c⟩ := p
 obtain ⟨xt,h1,h2⟩ := ho
 have h1:OZ30_1 b h = some (true,xt) := h1
 unfold OZ30_1 at h1
 split at h1
 ·injection h1 with h1
  injection h1 with e1 e2
  subst e2
  have hc:c = cZ30_0 := mZ30_0 _ hp rfl
  subst hc
  right
  rename_i y0 y1 y2
  have key := LT_step kZ30_0 hp (fun q hq => loopsAll_in _ _ _ _ hp hq) (fun (y2:Int) => (hZ30_0 y0 y1 y2)) (xZ30_0 y0 y1) (g_SZ30_0 y0 y1) (fun x => by first | exact bZ30_0 y0 y1 x) n (x := y2) (okO_some e1)
  have hx:∀ r,XT.sel (.br (isL r) (.leaf .ret [(.T 4,.t (.val false [.bool (getL r)]))]) (.leaf (.exit 0) [(.T 4,.t (.val false [.undef]))])) = xZ30_0 y0 y1 r := fun r => by first | rfl | rcases r with r | r <;> rfl | rcases r with r | r | r <;> rfl | rcases r with r | r | r | r <;> rfl
  have h3 := (hx (valO (g_LZ30_0 y0 y1 y2))).symm.trans h2
  have e3 := congrArg Prod.fst h3
  have e4 := congrArg Prod.snd h3
  simp only at e3 e4
  rw [← e3,← e4]
  exact key
 ·exact .inl ⟨xt,h1,h2⟩)
noncomputable def g_AZ30 (a0:tL2) (a1:tL2):Bool := (a0.length:Int) != (a1.length:Int) || okO (g_LZ30_0 a0 a1 (0:Int))
noncomputable def g_VZ30_0 (a0:tL2) (a1:tL2):Bool := bif (a0.length:Int) != (a1.length:Int) then false else bif isL (valO (g_LZ30_0 a0 a1 (0:Int))) then getL (valO (g_LZ30_0 a0 a1 (0:Int))) else true
noncomputable def FZ30:FSem := fun ys => match ys with
 | [.val false [.sl .any 155 (.pair .str (.pair .bool (.sl 3 (.int .i64)))) a0],.val false [.sl .any 155 (.pair .str (.pair .bool (.sl 3 (.int .i64)))) a1]] => some ((g_AZ30 a0 a1),.val false [.bool (g_VZ30_0 a0 a1)],[])
 | _ => none
theorem vZ30 (a0:tL2) (a1:tL2):collapseH .std EZ30 OZ30_1 (execFn EZ30 Tryz.f167 msZ30 [.val false [.sl .any 155 (.pair .str (.pair .bool (.sl 3 (.int .i64)))) a0],.val false [.sl .any 155 (.pair .str (.pair .bool (.sl 3 (.int .i64)))) a1]]) = some ((g_AZ30 a0 a1),.val false [.bool (g_VZ30_0 a0 a1)],[]) := by kernel_rfl
theorem sZ30:Sound Tryz.prog 167 msZ30 FZ30 := by
 refine fn_gen goodZ30 (by kernel_rfl) .std (fn := Tryz.f167) (c := (Tryz.f167.body.getD .skip)) (o := OZ30_1) (k := 1) (by kernel_rfl) (by kernel_rfl) (by kernel_rfl) (by kernel_rfl) (by decide) kZ30_1 ?_
 intro ys r outs h
 unfold FZ30 at h
 split at h
 ·exact (vZ30 _ _).trans h
 ·cases h
noncomputable def EZ52:Env where
 tt := mkTI Tryz.prog
 fn := fun _ => none
 bxf := fun _ => none
 mv := []
 keep := fun b => match b with
  | 0 => [(0,false),(1,false),(5,false)]
  | _ => []
 keepB := fun b => match b with
  | 0 => []
  | _ => []
 keepX := fun b => match b with
  | 0 => [(4,false)]
  | _ => []
 keepXB := fun b => match b with
  | 0 => []
  | _ => []
theorem goodFZ52:∀ f ms F,EZ52.fn f = some (ms,F) → Sound Tryz.prog f ms F := fun f ms F h => by cases h
theorem goodZ52:Good Tryz.prog EZ52 := ⟨rfl,goodFZ52,fun f ms F h => by cases h⟩
noncomputable def OZ52_0:Orc := fun _ _ => none
noncomputable def msZ52:List PM := [.rd,.rd]
noncomputable def lsZ52:List (Nat×Code) := loopsAll 0 (Tryz.f166.body.getD .skip)
noncomputable def cZ52_0:Code := (loopOf 0 (Tryz.f166.body.getD .skip)).getD .skip
theorem lseqZ52:lsZ52 = [(0,cZ52_0)] := by kernel_rfl
theorem mZ52_0:∀ p,p ∈ lsZ52 → p.1 = 0 → p.2 = cZ52_0 := by
 intro p hp
 rw [lseqZ52] at hp
 simp only [List.mem_cons,List.not_mem_nil,or_false] at hp
 subst hp; simp
theorem kZ52_0:OrcOk EZ52 OZ52_0 lsZ52 0 := orcOk_none
noncomputable def hZ52_0 (y0:List ByteArray) (y1:List ByteArray) (y2:Int):List (Pl×LV) := [(.T 0,.t (.val false [.sl .any 9 .str y0])),(.T 1,.t (.val false [.sl .any 9 .str y1])),(.T 5,.t (.val false [.int .i64 y2]))]
noncomputable def g_SZ52_0 (y0:List ByteArray) (y1:List ByteArray):(Int) → RT (Int) ((Bool) ⊕ (Unit))
 | y2 => .br (true) (.br (decide (y2 < (y0.length:Int))) (.br (decide (0 ≤ y2 ∧ y2 < (y0.length:Int))) (.br (decide (0 ≤ y2 ∧ y2 < (y1.length:Int))) (.br (true) (.br (!ByteArray.toList (at_ Ty.str y0 (Int.toNat y2)) == ByteArray.toList (at_ Ty.str y1 (Int.toNat y2))) (.out (.inl false)) (.br (true) (.go (IntKind.i64.wrap (y2 + 1))) .bad)) .bad) .bad) .bad) (.out (.inr (())))) .bad
noncomputable def g_LZ52_0 (y0:List ByteArray) (y1:List ByteArray) (x:Int):Option ((Bool) ⊕ (Unit)) := loopO (g_SZ52_0 y0 y1) x
noncomputable def xZ52_0 (y0:List ByteArray) (y1:List ByteArray):((Bool) ⊕ (Unit)) → Ex×List (Pl×LV) := fun
 | .inl r => (.ret,[(.T 4,.t (.val false [.bool r]))])
 | .inr (r) => (.exit 0,[(.T 4,.t (.val false [.undef]))])
noncomputable def OZ52_1:Orc := fun b h => match b,h with
 | 0,[(.T 0,.t (.val false [.sl .any 9 .str y0])),(.T 1,.t (.val false [.sl .any 9 .str y1])),(.T 5,.t (.val false [.int .i64 y2]))] => some (okO (g_LZ52_0 y0 y1 y2),(.br (isL (valO (g_LZ52_0 y0 y1 y2))) (.leaf .ret [(.T 4,.t (.val false [.bool (getL (valO (g_LZ52_0 y0 y1 y2)))]))]) (.leaf (.exit 0) [(.T 4,.t (.val false [.undef]))])))
 | b,h => OZ52_0 b h
theorem bZ52_0 (y0:List ByteArray) (y1:List ByteArray) (y2:Int):Tr.bt EZ52 OZ52_0 (exec EZ52 0 cZ52_0 (St.of (hZ52_0 y0 y1 y2)) (leafRd EZ52 0)) = (g_SZ52_0 y0 y1 y2).bt (fun (y2:Int) => (hZ52_0 y0 y1 y2)) (xZ52_0 y0 y1) := by kernel_rfl
theorem kZ52_1:OrcOk EZ52 OZ52_1 lsZ52 1 := orc_add kZ52_0 (fun n p hp h ex h' ho => by
 obtain ⟨b,c⟩ := p
 obtain ⟨xt,h1,h2⟩ := ho
 have h1:OZ52_1 b h = some (true,xt) := h1
 unfold OZ52_1 at h1
 split at h1
 ·injection h1 with h1
  injection h1 with e1 e2
  subst e2
  have hc:c = cZ52_0 := mZ52_0 _ hp rfl
  subst hc
  right
  rename_i y0 y1 y2
  have key := LT_step kZ52_0 hp (fun q hq => loopsAll_in _ _ _ _ hp hq) (fun (y2:Int) => (hZ52_0 y0 y1 y2)) (xZ52_0 y0 y1) (g_SZ52_0 y0 y1) (fun x => by first | exact bZ52_0 y0 y1 x) n (x := y2) (okO_some e1)
  have hx:∀ r,XT.sel (.br (isL r) (.leaf .ret [(.T 4,.t (.val false [.bool (getL r)]))]) (.leaf (.exit 0) [(.T 4,.t (.val false [.undef]))])) = xZ52_0 y0 y1 r := fun r => by first | rfl | rcases r with r | r <;> rfl | rcases r with r | r | r <;> rfl | rcases r with r | r | r | r <;> rfl
  have h3 := (hx (valO (g_LZ52_0 y0 y1 y2))).symm.trans h2
  have e3 := congrArg Prod.fst h3
  have e4 := congrArg Prod.snd h3
  simp only at e3 e4
  rw [← e3,← e4]
  exact key
 ·exact .inl ⟨xt,h1,h2⟩)
noncomputable def g_AZ52 (a0:List ByteArray) (a1:List ByteArray):Bool := (a0.length:Int) != (a1.length:Int) || okO (g_LZ52_0 a0 a1 (0:Int))
noncomputable def g_VZ52_0 (a0:List ByteArray) (a1:List ByteArray):Bool := bif (a0.length:Int) != (a1.length:Int) then false else bif isL (valO (g_LZ52_0 a0 a1 (0:Int))) then getL (valO (g_LZ52_0 a0 a1 (0:Int))) else true
noncomputable def FZ52:FSem := fun ys => match ys with
 | [.val false [.sl .any 9 .str a0],.val false [.sl .any 9 .str a1]] => some ((g_AZ52 a0 a1),.val false [.bool (g_VZ52_0 a0 a1)],[])
 | _ => none
theorem vZ52 (a0:List ByteArray) (a1:List ByteArray):collapseH .std EZ52 OZ52_1 (execFn EZ52 Tryz.f166 msZ52 [.val false [.sl .any 9 .str a0],.val false [.sl .any 9 .str a1]]) = some ((g_AZ52 a0 a1),.val false [.bool (g_VZ52_0 a0 a1)],[]) := by kernel_rfl
theorem sZ52:Sound Tryz.prog 166 msZ52 FZ52 := by
 refine fn_gen goodZ52 (by kernel_rfl) .std (fn := Tryz.f166) (c := (Tryz.f166.body.getD .skip)) (o := OZ52_1) (k := 1) (by kernel_rfl) (by kernel_rfl) (by kernel_rfl) (by kernel_rfl) (by decide) kZ52_1 ?_
 intro ys r outs h
 unfold FZ52 at h
 split at h
 ·exact (vZ52 _ _).trans h
 ·cases h
noncomputable def EZ53:Env where
 tt := mkTI Tryz.prog
 fn := fun f => match f with
  | 166 => some (msZ52,FSem.wk msZ52 FZ52)
  | 167 => some (msZ30,FSem.wk msZ30 FZ30)
  | _ => none
 bxf := fun _ => none
 mv := []
 keep := fun _ => []
 keepB := fun _ => []
 keepX := fun _ => []
 keepXB := fun _ => []
theorem goodFZ53:∀ f ms F,EZ53.fn f = some (ms,F) → Sound Tryz.prog f ms F := fun f ms F h => by
 unfold EZ53 at h
 dsimp only at h
 split at h
 ·exact gF sZ52 h
 ·exact gF sZ30 h
 ·cases h
theorem goodZ53:Good Tryz.prog EZ53 := ⟨rfl,goodFZ53,fun f ms F h => by cases h⟩
noncomputable def OZ53_0:Orc := fun _ _ => none
noncomputable def msZ53:List PM := [.rd,.rd]
noncomputable def lsZ53:List (Nat×Code) := loopsAll 0 (Tryz.f141.body.getD .skip)
theorem kZ53_0:OrcOk EZ53 OZ53_0 lsZ53 0 := orcOk_none
noncomputable def g_AZ53 (a0:Int) (a1:Int) (a2:List ByteArray) (a3:tL2) (a4:Int) (a5:Int) (a6:List ByteArray) (a7:tL2):Bool := a0 != a4 || (a1 != a5 || g_AZ52 a2 a6&&(!g_VZ52_0 a2 a6 || g_AZ30 a3 a7))
noncomputable def g_VZ53_0 (a0:Int) (a1:Int) (a2:List ByteArray) (a3:tL2) (a4:Int) (a5:Int) (a6:List ByteArray) (a7:tL2):Bool := bif a0 != a4 then false else bif a1 != a5 then false else bif !g_VZ52_0 a2 a6 then false else bif !g_VZ30_0 a3 a7 then false else true
noncomputable def FZ53:FSem := fun ys => match ys with
 | [.val true [.int .i64 a0,.int .i64 a1,.sl .any 9 .str a2,.sl .any 155 (.pair .str (.pair .bool (.sl 3 (.int .i64)))) a3],.val true [.int .i64 a4,.int .i64 a5,.sl .any 9 .str a6,.sl .any 155 (.pair .str (.pair .bool (.sl 3 (.int .i64)))) a7]] => some ((g_AZ53 a0 a1 a2 a3 a4 a5 a6 a7),.val false [.bool (g_VZ53_0 a0 a1 a2 a3 a4 a5 a6 a7)],[])
 | _ => none
theorem vZ53 (a0:Int) (a1:Int) (a2:List ByteArray) (a3:tL2) (a4:Int) (a5:Int) (a6:List ByteArray) (a7:tL2):collapseH .std EZ53 OZ53_0 (execFn EZ53 Tryz.f141 msZ53 [.val true [.int .i64 a0,.int .i64 a1,.sl .any 9 .str a2,.sl .any 155 (.pair .str (.pair .bool (.sl 3 (.int .i64)))) a3],.val true [.int .i64 a4,.int .i64 a5,.sl .any 9 .str a6,.sl .any 155 (.pair .str (.pair .bool (.sl 3 (.int .i64)))) a7]]) = some ((g_AZ53 a0 a1 a2 a3 a4 a5 a6 a7),.val false [.bool (g_VZ53_0 a0 a1 a2 a3 a4 a5 a6 a7)],[]) := by kernel_rfl
theorem sZ53:Sound Tryz.prog 141 msZ53 FZ53 := by
 refine fn_gen goodZ53 (by kernel_rfl) .std (fn := Tryz.f141) (c := (Tryz.f141.body.getD .skip)) (o := OZ53_0) (k := 0) (by kernel_rfl) (by kernel_rfl) (by kernel_rfl) (by kernel_rfl) (by decide) kZ53_0 ?_
 intro ys r outs h
 unfold FZ53 at h
 split at h
 ·exact (vZ53 _ _ _ _ _ _ _ _).trans h
 ·cases h
noncomputable def EZ40:Env where
 tt := mkTI Tryz.prog
 fn := fun f => match f with
  | 141 => some (msZ53,FSem.wk msZ53 FZ53)
  | _ => none
 bxf := fun _ => none
 mv := []
 keep := fun b => match b with
  | 0 => [(0,false),(1,false),(5,false)]
  | _ => []
 keepB := fun b => match b with
  | 0 => []
  | _ => []
 keepX := fun b => match b with
  | 0 => [(4,false)]
  | _ => []
 keepXB := fun b => match b with
  | 0 => []
  | _ => []
theorem goodFZ40:∀ f ms F,EZ40.fn f = some (ms,F) → Sound Tryz.prog f ms F := fun f ms F h => by
 unfold EZ40 at h
 dsimp only at h
 split at h
 ·exact gF sZ53 h
 ·cases h
theorem goodZ40:Good Tryz.prog EZ40 := ⟨rfl,goodFZ40,fun f ms F h => by cases h⟩
noncomputable def OZ40_0:Orc := fun _ _ => none
noncomputable def msZ40:List PM := [.rd,.rd]
noncomputable def lsZ40:List (Nat×Code) := loopsAll 0 (Tryz.f103.body.getD .skip)
noncomputable def cZ40_0:Code := (loopOf 0 (Tryz.f103.body.getD .skip)).getD .skip
theorem lseqZ40:lsZ40 = [(0,cZ40_0)] := by kernel_rfl
theorem mZ40_0:∀ p,p ∈ lsZ40 → p.1 = 0 → p.2 = cZ40_0 := by
 intro p hp
 rw [lseqZ40] at hp
 simp only [List.mem_cons,List.not_mem_nil,or_false] at hp
 subst hp; simp
theorem kZ40_0:OrcOk EZ40 OZ40_0 lsZ40 0 := orcOk_none
noncomputable def hZ40_0 (y0:tL0) (y1:tL0) (y2:Int):List (Pl×LV) := [(.T 0,.t (.val false [.sl .any 92 (.pair (.int .i64) (.pair (.int .i64) (.pair (.sl 9 .str) (.sl 155 (.pair .str (.pair .bool (.sl 3 (.int .i64)))))))) y0])),(.T 1,.t (.val false [.sl .any 92 (.pair (.int .i64) (.pair (.int .i64) (.pair (.sl 9 .str) (.sl 155 (.pair .str (.pair .bool (.sl 3 (.int .i64)))))))) y1])),(.T 5,.t (.val false [.int .i64 y2]))]
noncomputable def g_SZ40_0 (y0:tL0) (y1:tL0):(Int) → RT (Int) ((Bool) ⊕ (Unit))
 | y2 => .br (true) (.br (decide (y2 < (y0.length:Int))) (.br (decide (0 ≤ y2 ∧ y2 < (y0.length:Int))) (.br (decide (0 ≤ y2 ∧ y2 < (y1.length:Int))) (.br (g_AZ53 (at_ yT1 y0 (Int.toNat y2)).1 (at_ yT1 y0 (Int.toNat y2)).2.1 (at_ yT1 y0 (Int.toNat y2)).2.2.1 (at_ yT1 y0 (Int.toNat y2)).2.2.2 (at_ yT1 y1 (Int.toNat y2)).1 (at_ yT1 y1 (Int.toNat y2)).2.1 (at_ yT1 y1 (Int.toNat y2)).2.2.1 (at_ yT1 y1 (Int.toNat y2)).2.2.2) (.br (!g_VZ53_0 (at_ yT1 y0 (Int.toNat y2)).1 (at_ yT1 y0 (Int.toNat y2)).2.1 (at_ yT1 y0 (Int.toNat y2)).2.2.1 (at_ yT1 y0 (Int.toNat y2)).2.2.2 (at_ yT1 y1 (Int.toNat y2)).1 (at_ yT1 y1 (Int.toNat y2)).2.1 (at_ yT1 y1 (Int.toNat y2)).2.2.1 (at_ yT1 y1 (Int.toNat y2)).2.2.2) (.out (.inl false)) (.br (true) (.go (IntKind.i64.wrap (y2 + 1))) .bad)) .bad) .bad) .bad) (.out (.inr (())))) .bad
noncomputable def g_LZ40_0 (y0:tL0) (y1:tL0) (x:Int):Option ((Bool) ⊕ (Unit)) := loopO (g_SZ40_0 y0 y1) x
noncomputable def xZ40_0 (y0:tL0) (y1:tL0):((Bool) ⊕ (Unit)) → Ex×List (Pl×LV) := fun
 | .inl r => (.ret,[(.T 4,.t (.val false [.bool r]))])
 | .inr (r) => (.exit 0,[(.T 4,.t (.val false [.undef]))])
noncomputable def OZ40_1:Orc := fun b h => match b,h with
 | 0,[(.T 0,.t (.val false [.sl .any 92 (.pair (.int .i64) (.pair (.int .i64) (.pair (.sl 9 .str) (.sl 155 (.pair .str (.pair .bool (.sl 3 (.int .i64)))))))) y0])),(.T 1,.t (.val false [.sl .any 92 (.pair (.int .i64) (.pair (.int .i64) (.pair (.sl 9 .str) (.sl 155 (.pair .str (.pair .bool (.sl 3 (.int .i64)))))))) y1])),(.T 5,.t (.val false [.int .i64 y2]))] => some (okO (g_LZ40_0 y0 y1 y2),(.br (isL (valO (g_LZ40_0 y0 y1 y2))) (.leaf .ret [(.T 4,.t (.val false [.bool (getL (valO (g_LZ40_0 y0 y1 y2)))]))]) (.leaf (.exit 0) [(.T 4,.t (.val false [.undef]))])))
 | b,h => OZ40_0 b h
theorem bZ40_0 (y0:tL0) (y1:tL0) (y2:Int):Tr.bt EZ40 OZ40_0 (exec EZ40 0 cZ40_0 (St.of (hZ40_0 y0 y1 y2)) (leafRd EZ40 0)) = (g_SZ40_0 y0 y1 y2).bt (fun (y2:Int) => (hZ40_0 y0 y1 y2)) (xZ40_0 y0 y1) := by kernel_rfl
theorem kZ40_1:OrcOk EZ40 OZ40_1 lsZ40 1 := orc_add kZ40_0 (fun n p hp h ex h' ho => by
 obtain ⟨b,c⟩ := p
 obtain ⟨xt,h1,h2⟩ := ho
 have h1:OZ40_1 b h = some (true,xt) := h1
 unfold OZ40_1 at h1
 split at h1
 ·injection h1 with h1
  injection h1 with e1 e2
  subst e2
  have hc:c = cZ40_0 := mZ40_0 _ hp rfl
  subst hc
  right
  rename_i y0 y1 y2
  have key := LT_step kZ40_0 hp (fun q hq => loopsAll_in _ _ _ _ hp hq) (fun (y2:Int) => (hZ40_0 y0 y1 y2)) (xZ40_0 y0 y1) (g_SZ40_0 y0 y1) (fun x => by first | exact bZ40_0 y0 y1 x) n (x := y2) (okO_some e1)
  have hx:∀ r,XT.sel (.br (isL r) (.leaf .ret [(.T 4,.t (.val false [.bool (getL r)]))]) (.leaf (.exit 0) [(.T 4,.t (.val false [.undef]))])) = xZ40_0 y0 y1 r := fun r => by first | rfl | rcases r with r | r <;> rfl | rcases r with r | r | r <;> rfl | rcases r with r | r | r | r <;> rfl
  have h3 := (hx (valO (g_LZ40_0 y0 y1 y2))).symm.trans h2
  have e3 := congrArg Prod.fst h3
  have e4 := congrArg Prod.snd h3
  simp only at e3 e4
  rw [← e3,← e4]
  exact key
 ·exact .inl ⟨xt,h1,h2⟩)
noncomputable def g_AZ40 (a0:tL0) (a1:tL0):Bool := (a0.length:Int) != (a1.length:Int) || okO (g_LZ40_0 a0 a1 (0:Int))
noncomputable def g_VZ40_0 (a0:tL0) (a1:tL0):Bool := bif (a0.length:Int) != (a1.length:Int) then false else bif isL (valO (g_LZ40_0 a0 a1 (0:Int))) then getL (valO (g_LZ40_0 a0 a1 (0:Int))) else true
noncomputable def FZ40:FSem := fun ys => match ys with
 | [.val false [.sl .any 92 (.pair (.int .i64) (.pair (.int .i64) (.pair (.sl 9 .str) (.sl 155 (.pair .str (.pair .bool (.sl 3 (.int .i64)))))))) a0],.val false [.sl .any 92 (.pair (.int .i64) (.pair (.int .i64) (.pair (.sl 9 .str) (.sl 155 (.pair .str (.pair .bool (.sl 3 (.int .i64)))))))) a1]] => some ((g_AZ40 a0 a1),.val false [.bool (g_VZ40_0 a0 a1)],[])
 | _ => none
theorem vZ40 (a0:tL0) (a1:tL0):collapseH .std EZ40 OZ40_1 (execFn EZ40 Tryz.f103 msZ40 [.val false [.sl .any 92 (.pair (.int .i64) (.pair (.int .i64) (.pair (.sl 9 .str) (.sl 155 (.pair .str (.pair .bool (.sl 3 (.int .i64)))))))) a0],.val false [.sl .any 92 (.pair (.int .i64) (.pair (.int .i64) (.pair (.sl 9 .str) (.sl 155 (.pair .str (.pair .bool (.sl 3 (.int .i64)))))))) a1]]) = some ((g_AZ40 a0 a1),.val false [.bool (g_VZ40_0 a0 a1)],[]) := by kernel_rfl
theorem sZ40:Sound Tryz.prog 103 msZ40 FZ40 := by
 refine fn_gen goodZ40 (by kernel_rfl) .std (fn := Tryz.f103) (c := (Tryz.f103.body.getD .skip)) (o := OZ40_1) (k := 1) (by kernel_rfl) (by kernel_rfl) (by kernel_rfl) (by kernel_rfl) (by decide) kZ40_1 ?_
 intro ys r outs h
 unfold FZ40 at h
 split at h
 ·exact (vZ40 _ _).trans h
 ·cases h
noncomputable def EZ54:Env where
 tt := mkTI Tryz.prog
 fn := fun f => match f with
  | 103 => some (msZ40,FSem.wk msZ40 FZ40)
  | _ => none
 bxf := fun _ => none
 mv := []
 keep := fun _ => []
 keepB := fun _ => []
 keepX := fun _ => []
 keepXB := fun _ => []
theorem goodFZ54:∀ f ms F,EZ54.fn f = some (ms,F) → Sound Tryz.prog f ms F := fun f ms F h => by
 unfold EZ54 at h
 dsimp only at h
 split at h
 ·exact gF sZ40 h
 ·cases h
theorem goodZ54:Good Tryz.prog EZ54 := ⟨rfl,goodFZ54,fun f ms F h => by cases h⟩
noncomputable def OZ54_0:Orc := fun _ _ => none
noncomputable def msZ54:List PM := [.rd,.rd]
noncomputable def lsZ54:List (Nat×Code) := loopsAll 0 (Tryz.f42.body.getD .skip)
theorem kZ54_0:OrcOk EZ54 OZ54_0 lsZ54 0 := orcOk_none
noncomputable def g_AZ54 (a0:tL0) (a1:Int) (a2:tL0) (a3:Int):Bool := g_AZ40 a0 a2&&(!g_VZ40_0 a0 a2 || true)
noncomputable def g_VZ54_0 (a0:tL0) (a1:Int) (a2:tL0) (a3:Int):Bool := bif !g_VZ40_0 a0 a2 then false else bif a1 != a3 then false else true
noncomputable def FZ54:FSem := fun ys => match ys with
 | [.val true [.sl .any 92 (.pair (.int .i64) (.pair (.int .i64) (.pair (.sl 9 .str) (.sl 155 (.pair .str (.pair .bool (.sl 3 (.int .i64)))))))) a0,.int .i64 a1],.val true [.sl .any 92 (.pair (.int .i64) (.pair (.int .i64) (.pair (.sl 9 .str) (.sl 155 (.pair .str (.pair .bool (.sl 3 (.int .i64)))))))) a2,.int .i64 a3]] => some ((g_AZ54 a0 a1 a2 a3),.val false [.bool (g_VZ54_0 a0 a1 a2 a3)],[])
 | _ => none
theorem vZ54 (a0:tL0) (a1:Int) (a2:tL0) (a3:Int):collapseH .std EZ54 OZ54_0 (execFn EZ54 Tryz.f42 msZ54 [.val true [.sl .any 92 (.pair (.int .i64) (.pair (.int .i64) (.pair (.sl 9 .str) (.sl 155 (.pair .str (.pair .bool (.sl 3 (.int .i64)))))))) a0,.int .i64 a1],.val true [.sl .any 92 (.pair (.int .i64) (.pair (.int .i64) (.pair (.sl 9 .str) (.sl 155 (.pair .str (.pair .bool (.sl 3 (.int .i64)))))))) a2,.int .i64 a3]]) = some ((g_AZ54 a0 a1 a2 a3),.val false [.bool (g_VZ54_0 a0 a1 a2 a3)],[]) := by kernel_rfl
theorem sZ54:Sound Tryz.prog 42 msZ54 FZ54 := by
 refine fn_gen goodZ54 (by kernel_rfl) .std (fn := Tryz.f42) (c := (Tryz.f42.body.getD .skip)) (o := OZ54_0) (k := 0) (by kernel_rfl) (by kernel_rfl) (by kernel_rfl) (by kernel_rfl) (by decide) kZ54_0 ?_
 intro ys r outs h
 unfold FZ54 at h
 split at h
 ·exact (vZ54 _ _ _ _).trans h
 ·cases h
noncomputable def EZ41:Env where
 tt := mkTI Tryz.prog
 fn := fun f => match f with
  | 42 => some (msZ54,FSem.wk msZ54 FZ54)
  | 43 => some (msZ68,FSem.wk msZ68 FZ68)
  | _ => none
 bxf := fun _ => none
 mv := []
 keep := fun _ => []
 keepB := fun _ => []
 keepX := fun _ => []
 keepXB := fun _ => []
theorem goodFZ41:∀ f ms F,EZ41.fn f = some (ms,F) → Sound Tryz.prog f ms F := fun f ms F h => by
 unfold EZ41 at h
 dsimp only at h
 split at h
 ·exact gF sZ54 h
 ·exact gF sZ68 h
 ·cases h
theorem goodZ41:Good Tryz.prog EZ41 := ⟨rfl,goodFZ41,fun f ms F h => by cases h⟩
noncomputable def OZ41_0:Orc := fun _ _ => none
noncomputable def msZ41:List PM := [.rd,.rd]
noncomputable def lsZ41:List (Nat×Code) := loopsAll 0 (Tryz.f12.body.getD .skip)
theorem kZ41_0:OrcOk EZ41 OZ41_0 lsZ41 0 := orcOk_none
noncomputable def g_AZ41 (a0:tL0) (a1:Int) (a2:tL1) (a3:tL0) (a4:Int) (a5:tL1):Bool := g_AZ54 a0 a1 a3 a4&&(!g_VZ54_0 a0 a1 a3 a4 || g_AZ68 a2 a5)
noncomputable def g_VZ41_0 (a0:tL0) (a1:Int) (a2:tL1) (a3:tL0) (a4:Int) (a5:tL1):Bool := bif !g_VZ54_0 a0 a1 a3 a4 then false else bif !g_VZ68_0 a2 a5 then false else true
noncomputable def FZ41:FSem := fun ys => match ys with
 | [.val true [.sl .any 92 (.pair (.int .i64) (.pair (.int .i64) (.pair (.sl 9 .str) (.sl 155 (.pair .str (.pair .bool (.sl 3 (.int .i64)))))))) a0,.int .i64 a1,.sl .any 73 (.pair (.int .i64) (.pair (.pair (.int .i64) (.pair (.int .i64) (.pair (.int .i64) (.pair (.int .i64) (.pair (.int .i64) (.pair (.int .i64) (.int .i64))))))) (.pair .bool (.pair (.sl 3 (.int .i64)) (.sl 3 (.int .i64)))))) a2],.val true [.sl .any 92 (.pair (.int .i64) (.pair (.int .i64) (.pair (.sl 9 .str) (.sl 155 (.pair .str (.pair .bool (.sl 3 (.int .i64)))))))) a3,.int .i64 a4,.sl .any 73 (.pair (.int .i64) (.pair (.pair (.int .i64) (.pair (.int .i64) (.pair (.int .i64) (.pair (.int .i64) (.pair (.int .i64) (.pair (.int .i64) (.int .i64))))))) (.pair .bool (.pair (.sl 3 (.int .i64)) (.sl 3 (.int .i64)))))) a5]] => some ((g_AZ41 a0 a1 a2 a3 a4 a5),.val false [.bool (g_VZ41_0 a0 a1 a2 a3 a4 a5)],[])
 | _ => none
theorem vZ41 (a0:tL0) (a1:Int) (a2:tL1) (a3:tL0) (a4:Int) (a5:tL1):collapseH .std EZ41 OZ41_0 (execFn EZ41 Tryz.f12 msZ41 [.val true [.sl .any 92 (.pair (.int .i64) (.pair (.int .i64) (.pair (.sl 9 .str) (.sl 155 (.pair .str (.pair .bool (.sl 3 (.int .i64)))))))) a0,.int .i64 a1,.sl .any 73 (.pair (.int .i64) (.pair (.pair (.int .i64) (.pair (.int .i64) (.pair (.int .i64) (.pair (.int .i64) (.pair (.int .i64) (.pair (.int .i64) (.int .i64))))))) (.pair .bool (.pair (.sl 3 (.int .i64)) (.sl 3 (.int .i64)))))) a2],.val true [.sl .any 92 (.pair (.int .i64) (.pair (.int .i64) (.pair (.sl 9 .str) (.sl 155 (.pair .str (.pair .bool (.sl 3 (.int .i64)))))))) a3,.int .i64 a4,.sl .any 73 (.pair (.int .i64) (.pair (.pair (.int .i64) (.pair (.int .i64) (.pair (.int .i64) (.pair (.int .i64) (.pair (.int .i64) (.pair (.int .i64) (.int .i64))))))) (.pair .bool (.pair (.sl 3 (.int .i64)) (.sl 3 (.int .i64)))))) a5]]) = some ((g_AZ41 a0 a1 a2 a3 a4 a5),.val false [.bool (g_VZ41_0 a0 a1 a2 a3 a4 a5)],[]) := by kernel_rfl
theorem sZ41:Sound Tryz.prog 12 msZ41 FZ41 := by
 refine fn_gen goodZ41 (by kernel_rfl) .std (fn := Tryz.f12) (c := (Tryz.f12.body.getD .skip)) (o := OZ41_0) (k := 0) (by kernel_rfl) (by kernel_rfl) (by kernel_rfl) (by kernel_rfl) (by decide) kZ41_0 ?_
 intro ys r outs h
 unfold FZ41 at h
 split at h
 ·exact (vZ41 _ _ _ _ _ _).trans h
 ·cases h
noncomputable def EZ69:Env where
 tt := mkTI Tryz.prog
 fn := fun _ => none
 bxf := fun _ => none
 mv := []
 keep := fun b => match b with
  | 0 => [(0,false),(1,false),(5,false)]
  | _ => []
 keepB := fun b => match b with
  | 0 => []
  | _ => []
 keepX := fun b => match b with
  | 0 => [(1,false),(4,false)]
  | _ => []
 keepXB := fun b => match b with
  | 0 => []
  | _ => []
theorem goodFZ69:∀ f ms F,EZ69.fn f = some (ms,F) → Sound Tryz.prog f ms F := fun f ms F h => by cases h
theorem goodZ69:Good Tryz.prog EZ69 := ⟨rfl,goodFZ69,fun f ms F h => by cases h⟩
noncomputable def OZ69_0:Orc := fun _ _ => none
noncomputable def msZ69:List PM := [.rd,.own]
noncomputable def lsZ69:List (Nat×Code) := loopsAll 0 (Tryz.f113.body.getD .skip)
noncomputable def cZ69_0:Code := (loopOf 0 (Tryz.f113.body.getD .skip)).getD .skip
theorem lseqZ69:lsZ69 = [(0,cZ69_0)] := by kernel_rfl
theorem mZ69_0:∀ p,p ∈ lsZ69 → p.1 = 0 → p.2 = cZ69_0 := by
 intro p hp
 rw [lseqZ69] at hp
 simp only [List.mem_cons,List.not_mem_nil,or_false] at hp
 subst hp; simp
theorem kZ69_0:OrcOk EZ69 OZ69_0 lsZ69 0 := orcOk_none
noncomputable def hZ69_0 (y0:List Int) (y1:Int) (y2:Int):List (Pl×LV) := [(.T 0,.t (.val false [.sl .any 3 (.int .i64) y0])),(.T 1,.t (.val false [.int .i64 y1])),(.T 5,.t (.val false [.int .i64 y2]))]
noncomputable def g_SZ69_0 (y0:List Int):(Int×Int) → RT (Int×Int) ((Int×Int) ⊕ (Int))
 | (y1,y2) => .br (true) (.br (decide (y2 < (y0.length:Int))) (.br (decide (0 ≤ y2 ∧ y2 < (y0.length:Int))) (.br (true) (.br (at_ (.int .i64) y0 (Int.toNat y2) != y1) (.out (.inl ((y1,(-1:Int))))) (.br (true) (.br (true) (.go ((IntKind.i64.wrap (y1 + 1),IntKind.i64.wrap (y2 + 1)))) .bad) .bad)) .bad) .bad) (.out (.inr (y1)))) .bad
noncomputable def g_LZ69_0 (y0:List Int) (x:Int×Int):Option ((Int×Int) ⊕ (Int)) := loopO (g_SZ69_0 y0) x
noncomputable def xZ69_0 (y0:List Int):((Int×Int) ⊕ (Int)) → Ex×List (Pl×LV) := fun
 | .inl r => (.ret,[(.T 1,.t (.val false [.int .i64 r.1])),(.T 4,.t (.val false [.int .i64 r.2]))])
 | .inr (r) => (.exit 0,[(.T 1,.t (.val false [.int .i64 r])),(.T 4,.t (.val false [.undef]))])
noncomputable def OZ69_1:Orc := fun b h => match b,h with
 | 0,[(.T 0,.t (.val false [.sl .any 3 (.int .i64) y0])),(.T 1,.t (.val false [.int .i64 y1])),(.T 5,.t (.val false [.int .i64 y2]))] => some (okO (g_LZ69_0 y0 (y1,y2)),(.br (isL (valO (g_LZ69_0 y0 (y1,y2)))) (.leaf .ret [(.T 1,.t (.val false [.int .i64 (getL (valO (g_LZ69_0 y0 (y1,y2)))).1])),(.T 4,.t (.val false [.int .i64 (getL (valO (g_LZ69_0 y0 (y1,y2)))).2]))]) (.leaf (.exit 0) [(.T 1,.t (.val false [.int .i64 (getR (valO (g_LZ69_0 y0 (y1,y2))))])),(.T 4,.t (.val false [.undef]))])))
 | b,h => OZ69_0 b h
theorem bZ69_0 (y0:List Int) (y1:Int) (y2:Int):Tr.bt EZ69 OZ69_0 (exec EZ69 0 cZ69_0 (St.of (hZ69_0 y0 y1 y2)) (leafRd EZ69 0)) = (g_SZ69_0 y0 (y1,y2)).bt (fun ((y1,y2):Int×Int) => (hZ69_0 y0 y1 y2)) (xZ69_0 y0) := by kernel_rfl
theorem kZ69_1:OrcOk EZ69 OZ69_1 lsZ69 1 := orc_add kZ69_0 (fun n p hp h ex h' ho => by
 obtain ⟨b,c⟩ := p
 obtain ⟨xt,h1,h2⟩ := ho
 have h1:OZ69_1 b h = some (true,xt) := h1
 unfold OZ69_1 at h1
 split at h1
 ·injection h1 with h1
  injection h1 with e1 e2
  subst e2
  have hc:c = cZ69_0 := mZ69_0 _ hp rfl
  subst hc
  right
  rename_i y0 y1 y2
  have key := LT_step kZ69_0 hp (fun q hq => loopsAll_in _ _ _ _ hp hq) (fun ((y1,y2):Int×Int) => (hZ69_0 y0 y1 y2)) (xZ69_0 y0) (g_SZ69_0 y0) (fun x => by first | exact bZ69_0 y0 x.1 x.2) n (x := (y1,y2)) (okO_some e1)
  have hx:∀ r,XT.sel (.br (isL r) (.leaf .ret [(.T 1,.t (.val false [.int .i64 (getL r).1])),(.T 4,.t (.val false [.int .i64 (getL r).2]))]) (.leaf (.exit 0) [(.T 1,.t (.val false [.int .i64 (getR r)])),(.T 4,.t (.val false [.undef]))])) = xZ69_0 y0 r := fun r => by first | rfl | rcases r with r | r <;> rfl | rcases r with r | r | r <;> rfl | rcases r with r | r | r | r <;> rfl
  have h3 := (hx (valO (g_LZ69_0 y0 (y1,y2)))).symm.trans h2
  have e3 := congrArg Prod.fst h3
  have e4 := congrArg Prod.snd h3
  simp only at e3 e4
  rw [← e3,← e4]
  exact key
 ·exact .inl ⟨xt,h1,h2⟩)
noncomputable def g_AZ69 (a0:List Int) (a1:Int):Bool := okO (g_LZ69_0 a0 (a1,(0:Int)))
noncomputable def g_VZ69_0 (a0:List Int) (a1:Int):Int := bif isL (valO (g_LZ69_0 a0 (a1,(0:Int)))) then (getL (valO (g_LZ69_0 a0 (a1,(0:Int))))).2 else getR (valO (g_LZ69_0 a0 (a1,(0:Int))))
noncomputable def FZ69:FSem := fun ys => match ys with
 | [.val false [.sl .any 3 (.int .i64) a0],.val false [.int .i64 a1]] => some ((g_AZ69 a0 a1),.val false [.int .i64 (g_VZ69_0 a0 a1)],[])
 | _ => none
theorem vZ69 (a0:List Int) (a1:Int):collapseH .std EZ69 OZ69_1 (execFn EZ69 Tryz.f113 msZ69 [.val false [.sl .any 3 (.int .i64) a0],.val false [.int .i64 a1]]) = some ((g_AZ69 a0 a1),.val false [.int .i64 (g_VZ69_0 a0 a1)],[]) := by kernel_rfl
theorem sZ69:Sound Tryz.prog 113 msZ69 FZ69 := by
 refine fn_gen goodZ69 (by kernel_rfl) .std (fn := Tryz.f113) (c := (Tryz.f113.body.getD .skip)) (o := OZ69_1) (k := 1) (by kernel_rfl) (by kernel_rfl) (by kernel_rfl) (by kernel_rfl) (by decide) kZ69_1 ?_
 intro ys r outs h
 unfold FZ69 at h
 split at h
 ·exact (vZ69 _ _).trans h
 ·cases h
noncomputable def EZ42:Env where
 tt := mkTI Tryz.prog
 fn := fun f => match f with
  | 113 => some (msZ69,FSem.wk msZ69 FZ69)
  | _ => none
 bxf := fun _ => none
 mv := []
 keep := fun b => match b with
  | 0 => [(0,false),(1,false),(5,false)]
  | _ => []
 keepB := fun b => match b with
  | 0 => []
  | _ => []
 keepX := fun b => match b with
  | 0 => [(1,false),(4,false)]
  | _ => []
 keepXB := fun b => match b with
  | 0 => []
  | _ => []
theorem goodFZ42:∀ f ms F,EZ42.fn f = some (ms,F) → Sound Tryz.prog f ms F := fun f ms F h => by
 unfold EZ42 at h
 dsimp only at h
 split at h
 ·exact gF sZ69 h
 ·cases h
theorem goodZ42:Good Tryz.prog EZ42 := ⟨rfl,goodFZ42,fun f ms F h => by cases h⟩
noncomputable def OZ42_0:Orc := fun _ _ => none
noncomputable def msZ42:List PM := [.rd,.own]
noncomputable def lsZ42:List (Nat×Code) := loopsAll 0 (Tryz.f54.body.getD .skip)
noncomputable def cZ42_0:Code := (loopOf 0 (Tryz.f54.body.getD .skip)).getD .skip
theorem lseqZ42:lsZ42 = [(0,cZ42_0)] := by kernel_rfl
theorem mZ42_0:∀ p,p ∈ lsZ42 → p.1 = 0 → p.2 = cZ42_0 := by
 intro p hp
 rw [lseqZ42] at hp
 simp only [List.mem_cons,List.not_mem_nil,or_false] at hp
 subst hp; simp
theorem kZ42_0:OrcOk EZ42 OZ42_0 lsZ42 0 := orcOk_none
noncomputable def hZ42_0 (y0:tL1) (y1:Int) (y2:Int):List (Pl×LV) := [(.T 0,.t (.val false [.sl .any 73 (.pair (.int .i64) (.pair (.pair (.int .i64) (.pair (.int .i64) (.pair (.int .i64) (.pair (.int .i64) (.pair (.int .i64) (.pair (.int .i64) (.int .i64))))))) (.pair .bool (.pair (.sl 3 (.int .i64)) (.sl 3 (.int .i64)))))) y0])),(.T 1,.t (.val false [.int .i64 y1])),(.T 5,.t (.val false [.int .i64 y2]))]
noncomputable def g_SZ42_0 (y0:tL1):(Int×Int) → RT (Int×Int) ((Int×Int) ⊕ (Int))
 | (y1,y2) => .br (true) (.br (decide (y2 < (y0.length:Int))) (.br (decide (0 ≤ y2 ∧ y2 < (y0.length:Int))) (.br (true) (.br ((at_ yT0 y0 (Int.toNat y2)).1 != y1) (.out (.inl ((y1,(-1:Int))))) (.br (true) (.br (decide (0 ≤ y2 ∧ y2 < (y0.length:Int))) (.br (true) (.br ((at_ yT0 y0 (Int.toNat y2)).2.1.1 != IntKind.i64.wrap (y1 + 1)) (.out (.inl ((IntKind.i64.wrap (y1 + 1),(-1:Int))))) (.br (true) (.br (decide (0 ≤ y2 ∧ y2 < (y0.length:Int))) (.br (true) (.br ((at_ yT0 y0 (Int.toNat y2)).2.1.2.1 != IntKind.i64.wrap (IntKind.i64.wrap (y1 + 1) + 1)) (.out (.inl ((IntKind.i64.wrap (IntKind.i64.wrap (y1 + 1) + 1),(-1:Int))))) (.br (true) (.br (decide (0 ≤ y2 ∧ y2 < (y0.length:Int))) (.br (true) (.br ((at_ yT0 y0 (Int.toNat y2)).2.1.2.2.1 != IntKind.i64.wrap (IntKind.i64.wrap (IntKind.i64.wrap (y1 + 1) + 1) + 1)) (.out (.inl ((IntKind.i64.wrap (IntKind.i64.wrap (IntKind.i64.wrap (y1 + 1) + 1) + 1),(-1:Int))))) (.br (true) (.br (decide (0 ≤ y2 ∧ y2 < (y0.length:Int))) (.br (true) (.br ((at_ yT0 y0 (Int.toNat y2)).2.1.2.2.2.1 != IntKind.i64.wrap (IntKind.i64.wrap (IntKind.i64.wrap (IntKind.i64.wrap (y1 + 1) + 1) + 1) + 1)) (.out (.inl ((IntKind.i64.wrap (IntKind.i64.wrap (IntKind.i64.wrap (IntKind.i64.wrap (y1 + 1) + 1) + 1) + 1),(-1:Int))))) (.br (true) (.br (decide (0 ≤ y2 ∧ y2 < (y0.length:Int))) (.br (true) (.br ((at_ yT0 y0 (Int.toNat y2)).2.1.2.2.2.2.1 != IntKind.i64.wrap (IntKind.i64.wrap (IntKind.i64.wrap (IntKind.i64.wrap (IntKind.i64.wrap (y1 + 1) + 1) + 1) + 1) + 1)) (.out (.inl ((IntKind.i64.wrap (IntKind.i64.wrap (IntKind.i64.wrap (IntKind.i64.wrap (IntKind.i64.wrap (y1 + 1) + 1) + 1) + 1) + 1),(-1:Int))))) (.br (true) (.br (decide (0 ≤ y2 ∧ y2 < (y0.length:Int))) (.br (true) (.br ((at_ yT0 y0 (Int.toNat y2)).2.1.2.2.2.2.2.1 != IntKind.i64.wrap (IntKind.i64.wrap (IntKind.i64.wrap (IntKind.i64.wrap (IntKind.i64.wrap (IntKind.i64.wrap (y1 + 1) + 1) + 1) + 1) + 1) + 1)) (.out (.inl ((IntKind.i64.wrap (IntKind.i64.wrap (IntKind.i64.wrap (IntKind.i64.wrap (IntKind.i64.wrap (IntKind.i64.wrap (y1 + 1) + 1) + 1) + 1) + 1) + 1),(-1:Int))))) (.br (true) (.br (decide (0 ≤ y2 ∧ y2 < (y0.length:Int))) (.br (true) (.br ((at_ yT0 y0 (Int.toNat y2)).2.1.2.2.2.2.2.2 != IntKind.i64.wrap (IntKind.i64.wrap (IntKind.i64.wrap (IntKind.i64.wrap (IntKind.i64.wrap (IntKind.i64.wrap (IntKind.i64.wrap (y1 + 1) + 1) + 1) + 1) + 1) + 1) + 1)) (.out (.inl ((IntKind.i64.wrap (IntKind.i64.wrap (IntKind.i64.wrap (IntKind.i64.wrap (IntKind.i64.wrap (IntKind.i64.wrap (IntKind.i64.wrap (y1 + 1) + 1) + 1) + 1) + 1) + 1) + 1),(-1:Int))))) (.br (true) (.br (decide (0 ≤ y2 ∧ y2 < (y0.length:Int))) (.br (true) (.br (true) (.br (!(at_ yT0 y0 (Int.toNat y2)).2.2.1 == (Int.tmod (IntKind.i64.wrap (IntKind.i64.wrap (IntKind.i64.wrap (IntKind.i64.wrap (IntKind.i64.wrap (IntKind.i64.wrap (IntKind.i64.wrap (IntKind.i64.wrap (y1 + 1) + 1) + 1) + 1) + 1) + 1) + 1) + 1)) (3:Int) == (0:Int))) (.out (.inl ((IntKind.i64.wrap (IntKind.i64.wrap (IntKind.i64.wrap (IntKind.i64.wrap (IntKind.i64.wrap (IntKind.i64.wrap (IntKind.i64.wrap (IntKind.i64.wrap (y1 + 1) + 1) + 1) + 1) + 1) + 1) + 1) + 1),(-1:Int))))) (.br (true) (.br (decide (0 ≤ y2 ∧ y2 < (y0.length:Int))) (.br (g_AZ69 (at_ yT0 y0 (Int.toNat y2)).2.2.2.1 (IntKind.i64.wrap (IntKind.i64.wrap (IntKind.i64.wrap (IntKind.i64.wrap (IntKind.i64.wrap (IntKind.i64.wrap (IntKind.i64.wrap (IntKind.i64.wrap (IntKind.i64.wrap (y1 + 1) + 1) + 1) + 1) + 1) + 1) + 1) + 1) + 1))) (.br (true) (.br (decide (g_VZ69_0 (at_ yT0 y0 (Int.toNat y2)).2.2.2.1 (IntKind.i64.wrap (IntKind.i64.wrap (IntKind.i64.wrap (IntKind.i64.wrap (IntKind.i64.wrap (IntKind.i64.wrap (IntKind.i64.wrap (IntKind.i64.wrap (IntKind.i64.wrap (y1 + 1) + 1) + 1) + 1) + 1) + 1) + 1) + 1) + 1)) < 0)) (.out (.inl ((g_VZ69_0 (at_ yT0 y0 (Int.toNat y2)).2.2.2.1 (IntKind.i64.wrap (IntKind.i64.wrap (IntKind.i64.wrap (IntKind.i64.wrap (IntKind.i64.wrap (IntKind.i64.wrap (IntKind.i64.wrap (IntKind.i64.wrap (IntKind.i64.wrap (y1 + 1) + 1) + 1) + 1) + 1) + 1) + 1) + 1) + 1)),(-1:Int))))) (.br (decide (0 ≤ y2 ∧ y2 < (y0.length:Int))) (.br (g_AZ69 (at_ yT0 y0 (Int.toNat y2)).2.2.2.2 (g_VZ69_0 (at_ yT0 y0 (Int.toNat y2)).2.2.2.1 (IntKind.i64.wrap (IntKind.i64.wrap (IntKind.i64.wrap (IntKind.i64.wrap (IntKind.i64.wrap (IntKind.i64.wrap (IntKind.i64.wrap (IntKind.i64.wrap (IntKind.i64.wrap (y1 + 1) + 1) + 1) + 1) + 1) + 1) + 1) + 1) + 1)))) (.br (true) (.br (decide (g_VZ69_0 (at_ yT0 y0 (Int.toNat y2)).2.2.2.2 (g_VZ69_0 (at_ yT0 y0 (Int.toNat y2)).2.2.2.1 (IntKind.i64.wrap (IntKind.i64.wrap (IntKind.i64.wrap (IntKind.i64.wrap (IntKind.i64.wrap (IntKind.i64.wrap (IntKind.i64.wrap (IntKind.i64.wrap (IntKind.i64.wrap (y1 + 1) + 1) + 1) + 1) + 1) + 1) + 1) + 1) + 1))) < 0)) (.out (.inl ((g_VZ69_0 (at_ yT0 y0 (Int.toNat y2)).2.2.2.2 (g_VZ69_0 (at_ yT0 y0 (Int.toNat y2)).2.2.2.1 (IntKind.i64.wrap (IntKind.i64.wrap (IntKind.i64.wrap (IntKind.i64.wrap (IntKind.i64.wrap (IntKind.i64.wrap (IntKind.i64.wrap (IntKind.i64.wrap (IntKind.i64.wrap (y1 + 1) + 1) + 1) + 1) + 1) + 1) + 1) + 1) + 1))),(-1:Int))))) (.br (true) (.go ((g_VZ69_0 (at_ yT0 y0 (Int.toNat y2)).2.2.2.2 (g_VZ69_0 (at_ yT0 y0 (Int.toNat y2)).2.2.2.1 (IntKind.i64.wrap (IntKind.i64.wrap (IntKind.i64.wrap (IntKind.i64.wrap (IntKind.i64.wrap (IntKind.i64.wrap (IntKind.i64.wrap (IntKind.i64.wrap (IntKind.i64.wrap (y1 + 1) + 1) + 1) + 1) + 1) + 1) + 1) + 1) + 1))),IntKind.i64.wrap (y2 + 1)))) .bad)) .bad) .bad) .bad)) .bad) .bad) .bad) .bad)) .bad) .bad) .bad) .bad)) .bad) .bad) .bad)) .bad) .bad) .bad)) .bad) .bad) .bad)) .bad) .bad) .bad)) .bad) .bad) .bad)) .bad) .bad) .bad)) .bad) .bad) .bad)) .bad) .bad) (.out (.inr (y1)))) .bad
noncomputable def g_LZ42_0 (y0:tL1) (x:Int×Int):Option ((Int×Int) ⊕ (Int)) := loopO (g_SZ42_0 y0) x
noncomputable def xZ42_0 (y0:tL1):((Int×Int) ⊕ (Int)) → Ex×List (Pl×LV) := fun
 | .inl r => (.ret,[(.T 1,.t (.val false [.int .i64 r.1])),(.T 4,.t (.val false [.int .i64 r.2]))])
 | .inr (r) => (.exit 0,[(.T 1,.t (.val false [.int .i64 r])),(.T 4,.t (.val false [.undef]))])
noncomputable def OZ42_1:Orc := fun b h => match b,h with
 | 0,[(.T 0,.t (.val false [.sl .any 73 (.pair (.int .i64) (.pair (.pair (.int .i64) (.pair (.int .i64) (.pair (.int .i64) (.pair (.int .i64) (.pair (.int .i64) (.pair (.int .i64) (.int .i64))))))) (.pair .bool (.pair (.sl 3 (.int .i64)) (.sl 3 (.int .i64)))))) y0])),(.T 1,.t (.val false [.int .i64 y1])),(.T 5,.t (.val false [.int .i64 y2]))] => some (okO (g_LZ42_0 y0 (y1,y2)),(.br (isL (valO (g_LZ42_0 y0 (y1,y2)))) (.leaf .ret [(.T 1,.t (.val false [.int .i64 (getL (valO (g_LZ42_0 y0 (y1,y2)))).1])),(.T 4,.t (.val false [.int .i64 (getL (valO (g_LZ42_0 y0 (y1,y2)))).2]))]) (.leaf (.exit 0) [(.T 1,.t (.val false [.int .i64 (getR (valO (g_LZ42_0 y0 (y1,y2))))])),(.T 4,.t (.val false [.undef]))])))
 | b,h => OZ42_0 b h
theorem bZ42_0 (y0:tL1) (y1:Int) (y2:Int):Tr.bt EZ42 OZ42_0 (exec EZ42 0 cZ42_0 (St.of (hZ42_0 y0 y1 y2)) (leafRd EZ42 0)) = (g_SZ42_0 y0 (y1,y2)).bt (fun ((y1,y2):Int×Int) => (hZ42_0 y0 y1 y2)) (xZ42_0 y0) := by kernel_rfl
theorem kZ42_1:OrcOk EZ42 OZ42_1 lsZ42 1 := orc_add kZ42_0 (fun n p hp h ex h' ho => by
 obtain ⟨b,c⟩ := p
 obtain ⟨xt,h1,h2⟩ := ho
 have h1:OZ42_1 b h = some (true,xt) := h1
 unfold OZ42_1 at h1
 split at h1
 ·injection h1 with h1
  injection h1 with e1 e2
  subst e2
  have hc:c = cZ42_0 := mZ42_0 _ hp rfl
  subst hc
  right
  rename_i y0 y1 y2
  have key := LT_step kZ42_0 hp (fun q hq => loopsAll_in _ _ _ _ hp hq) (fun ((y1,y2):Int×Int) => (hZ42_0 y0 y1 y2)) (xZ42_0 y0) (g_SZ42_0 y0) (fun x => by first | exact bZ42_0 y0 x.1 x.2) n (x := (y1,y2)) (okO_some e1)
  have hx:∀ r,XT.sel (.br (isL r) (.leaf .ret [(.T 1,.t (.val false [.int .i64 (getL r).1])),(.T 4,.t (.val false [.int .i64 (getL r).2]))]) (.leaf (.exit 0) [(.T 1,.t (.val false [.int .i64 (getR r)])),(.T 4,.t (.val false [.undef]))])) = xZ42_0 y0 r := fun r => by first | rfl | rcases r with r | r <;> rfl | rcases r with r | r | r <;> rfl | rcases r with r | r | r | r <;> rfl
  have h3 := (hx (valO (g_LZ42_0 y0 (y1,y2)))).symm.trans h2
  have e3 := congrArg Prod.fst h3
  have e4 := congrArg Prod.snd h3
  simp only at e3 e4
  rw [← e3,← e4]
  exact key
 ·exact .inl ⟨xt,h1,h2⟩)
noncomputable def g_AZ42 (a0:tL1) (a1:Int):Bool := okO (g_LZ42_0 a0 (a1,(0:Int)))
noncomputable def g_VZ42_0 (a0:tL1) (a1:Int):Int := bif isL (valO (g_LZ42_0 a0 (a1,(0:Int)))) then (getL (valO (g_LZ42_0 a0 (a1,(0:Int))))).2 else getR (valO (g_LZ42_0 a0 (a1,(0:Int))))
noncomputable def FZ42:FSem := fun ys => match ys with
 | [.val false [.sl .any 73 (.pair (.int .i64) (.pair (.pair (.int .i64) (.pair (.int .i64) (.pair (.int .i64) (.pair (.int .i64) (.pair (.int .i64) (.pair (.int .i64) (.int .i64))))))) (.pair .bool (.pair (.sl 3 (.int .i64)) (.sl 3 (.int .i64)))))) a0],.val false [.int .i64 a1]] => some ((g_AZ42 a0 a1),.val false [.int .i64 (g_VZ42_0 a0 a1)],[])
 | _ => none
theorem vZ42 (a0:tL1) (a1:Int):collapseH .std EZ42 OZ42_1 (execFn EZ42 Tryz.f54 msZ42 [.val false [.sl .any 73 (.pair (.int .i64) (.pair (.pair (.int .i64) (.pair (.int .i64) (.pair (.int .i64) (.pair (.int .i64) (.pair (.int .i64) (.pair (.int .i64) (.int .i64))))))) (.pair .bool (.pair (.sl 3 (.int .i64)) (.sl 3 (.int .i64)))))) a0],.val false [.int .i64 a1]]) = some ((g_AZ42 a0 a1),.val false [.int .i64 (g_VZ42_0 a0 a1)],[]) := by kernel_rfl
theorem sZ42:Sound Tryz.prog 54 msZ42 FZ42 := by
 refine fn_gen goodZ42 (by kernel_rfl) .std (fn := Tryz.f54) (c := (Tryz.f54.body.getD .skip)) (o := OZ42_1) (k := 1) (by kernel_rfl) (by kernel_rfl) (by kernel_rfl) (by kernel_rfl) (by decide) kZ42_1 ?_
 intro ys r outs h
 unfold FZ42 at h
 split at h
 ·exact (vZ42 _ _).trans h
 ·cases h
noncomputable def EZ70:Env where
 tt := mkTI Tryz.prog
 fn := fun _ => none
 bxf := fun _ => none
 mv := []
 keep := fun b => match b with
  | 0 => [(0,false),(3,false)]
  | _ => []
 keepB := fun b => match b with
  | 0 => []
  | _ => []
 keepX := fun b => match b with
  | 0 => [(3,false)]
  | _ => []
 keepXB := fun b => match b with
  | 0 => []
  | _ => []
theorem goodFZ70:∀ f ms F,EZ70.fn f = some (ms,F) → Sound Tryz.prog f ms F := fun f ms F h => by cases h
theorem goodZ70:Good Tryz.prog EZ70 := ⟨rfl,goodFZ70,fun f ms F h => by cases h⟩
noncomputable def OZ70_0:Orc := fun _ _ => none
noncomputable def msZ70:List PM := [.own]
noncomputable def lsZ70:List (Nat×Code) := loopsAll 0 (Tryz.f168.body.getD .skip)
noncomputable def cZ70_0:Code := (loopOf 0 (Tryz.f168.body.getD .skip)).getD .skip
theorem lseqZ70:lsZ70 = [(0,cZ70_0)] := by kernel_rfl
theorem mZ70_0:∀ p,p ∈ lsZ70 → p.1 = 0 → p.2 = cZ70_0 := by
 intro p hp
 rw [lseqZ70] at hp
 simp only [List.mem_cons,List.not_mem_nil,or_false] at hp
 subst hp; simp
theorem kZ70_0:OrcOk EZ70 OZ70_0 lsZ70 0 := orcOk_none
noncomputable def hZ70_0 (y0:Int) (y1:ByteArray):List (Pl×LV) := [(.T 0,.t (.val false [.int .i64 y0])),(.T 3,.t (.val false [.str y1]))]
noncomputable def g_SZ70_0:(Int×ByteArray) → RT (Int×ByteArray) ((ByteArray))
 | (y0,y1) => .br (true) (.br (decide (y0 > 0)) (.br (true) (.br (true) (.br (decide (ByteArray.size { data := List.toArray (List.map (fun n => UInt8.ofNat (Int.toNat n)) [IntKind.wrap IntKind.u8 (IntKind.i64.wrap (48 + Int.tmod y0 (10:Int)))]) } + ByteArray.size y1 ≤ nat_lit 9223372036854775807)) (.br (true) (.go ((IntKind.i64.wrap (Int.tdiv y0 (10:Int)),{ data := List.toArray (List.map (fun n => UInt8.ofNat (Int.toNat n)) [IntKind.wrap IntKind.u8 (IntKind.i64.wrap (48 + Int.tmod y0 (10:Int)))]) } ++ y1))) .bad) .bad) .bad) .bad) (.out (y1))) .bad
noncomputable def g_LZ70_0 (x:Int×ByteArray):Option ((ByteArray)) := loopO (g_SZ70_0) x
noncomputable def xZ70_0:((ByteArray)) → Ex×List (Pl×LV) := fun r => (.exit 0,[(.T 3,.t (.val false [.str r]))])
noncomputable def OZ70_1:Orc := fun b h => match b,h with
 | 0,[(.T 0,.t (.val false [.int .i64 y0])),(.T 3,.t (.val false [.str y1]))] => some (okO (g_LZ70_0 (y0,y1)),(.leaf (.exit 0) [(.T 3,.t (.val false [.str (valO (g_LZ70_0 (y0,y1)))]))]))
 | b,h => OZ70_0 b h
theorem bZ70_0 (y0:Int) (y1:ByteArray):Tr.bt EZ70 OZ70_0 (exec EZ70 0 cZ70_0 (St.of (hZ70_0 y0 y1)) (leafRd EZ70 0)) = (g_SZ70_0 (y0,y1)).bt (fun ((y0,y1):Int×ByteArray) => (hZ70_0 y0 y1)) (xZ70_0) := by kernel_rfl
theorem kZ70_1:OrcOk EZ70 OZ70_1 lsZ70 1 := orc_add kZ70_0 (fun n p hp h ex h' ho => by
 obtain ⟨b,c⟩ := p
 obtain ⟨xt,h1,h2⟩ := ho
 have h1:OZ70_1 b h = some (true,xt) := h1
 unfold OZ70_1 at h1
 split at h1
 ·injection h1 with h1
  injection h1 with e1 e2
  subst e2
  have hc:c = cZ70_0 := mZ70_0 _ hp rfl
  subst hc
  right
  rename_i y0 y1
  have key := LT_step kZ70_0 hp (fun q hq => loopsAll_in _ _ _ _ hp hq) (fun ((y0,y1):Int×ByteArray) => (hZ70_0 y0 y1)) (xZ70_0) (g_SZ70_0) (fun x => by first | exact bZ70_0 x.1 x.2) n (x := (y0,y1)) (okO_some e1)
  have hx:∀ r,XT.sel (.leaf (.exit 0) [(.T 3,.t (.val false [.str r]))]) = xZ70_0 r := fun r => by first | rfl | rcases r with r | r <;> rfl | rcases r with r | r | r <;> rfl | rcases r with r | r | r | r <;> rfl
  have h3 := (hx (valO (g_LZ70_0 (y0,y1)))).symm.trans h2
  have e3 := congrArg Prod.fst h3
  have e4 := congrArg Prod.snd h3
  simp only at e3 e4
  rw [← e3,← e4]
  exact key
 ·exact .inl ⟨xt,h1,h2⟩)
noncomputable def g_AZ70 (a0:Int):Bool := decide (a0 ≤ 0) || okO (g_LZ70_0 (a0,lit []))&&decide (nat_lit 1 + ByteArray.size (valO (g_LZ70_0 (a0,lit []))) ≤ nat_lit 9223372036854775807)
noncomputable def g_VZ70_0 (a0:Int):ByteArray := bif decide (a0 ≤ 0) then lit [(109:Nat),(48:Nat)] else lit [(109:Nat)] ++ valO (g_LZ70_0 (a0,lit []))
noncomputable def FZ70:FSem := fun ys => match ys with
 | [.val false [.int .i64 a0]] => some ((g_AZ70 a0),.val false [.str (g_VZ70_0 a0)],[])
 | _ => none
theorem vZ70 (a0:Int):collapseH .std EZ70 OZ70_1 (execFn EZ70 Tryz.f168 msZ70 [.val false [.int .i64 a0]]) = some ((g_AZ70 a0),.val false [.str (g_VZ70_0 a0)],[]) := by kernel_rfl
theorem sZ70:Sound Tryz.prog 168 msZ70 FZ70 := by
 refine fn_gen goodZ70 (by kernel_rfl) .std (fn := Tryz.f168) (c := (Tryz.f168.body.getD .skip)) (o := OZ70_1) (k := 1) (by kernel_rfl) (by kernel_rfl) (by kernel_rfl) (by kernel_rfl) (by decide) kZ70_1 ?_
 intro ys r outs h
 unfold FZ70 at h
 split at h
 ·exact (vZ70 _).trans h
 ·cases h
noncomputable def EZ24:Env where
 tt := mkTI Tryz.prog
 fn := fun f => match f with
  | 113 => some (msZ69,FSem.wk msZ69 FZ69)
  | 168 => some (msZ70,FSem.wk msZ70 FZ70)
  | _ => none
 bxf := fun _ => none
 mv := []
 keep := fun b => match b with
  | 0 => [(0,false),(1,false),(5,false)]
  | _ => []
 keepB := fun b => match b with
  | 0 => []
  | _ => []
 keepX := fun b => match b with
  | 0 => [(1,false),(4,false)]
  | _ => []
 keepXB := fun b => match b with
  | 0 => []
  | _ => []
theorem goodFZ24:∀ f ms F,EZ24.fn f = some (ms,F) → Sound Tryz.prog f ms F := fun f ms F h => by
 unfold EZ24 at h
 dsimp only at h
 split at h
 ·exact gF sZ69 h
 ·exact gF sZ70 h
 ·cases h
theorem goodZ24:Good Tryz.prog EZ24 := ⟨rfl,goodFZ24,fun f ms F h => by cases h⟩
noncomputable def OZ24_0:Orc := fun _ _ => none
noncomputable def msZ24:List PM := [.rd,.own]
noncomputable def lsZ24:List (Nat×Code) := loopsAll 0 (Tryz.f149.body.getD .skip)
noncomputable def cZ24_0:Code := (loopOf 0 (Tryz.f149.body.getD .skip)).getD .skip
theorem lseqZ24:lsZ24 = [(0,cZ24_0)] := by kernel_rfl
theorem mZ24_0:∀ p,p ∈ lsZ24 → p.1 = 0 → p.2 = cZ24_0 := by
 intro p hp
 rw [lseqZ24] at hp
 simp only [List.mem_cons,List.not_mem_nil,or_false] at hp
 subst hp; simp
theorem kZ24_0:OrcOk EZ24 OZ24_0 lsZ24 0 := orcOk_none
noncomputable def hZ24_0 (y0:tL2) (y1:Int) (y2:Int):List (Pl×LV) := [(.T 0,.t (.val false [.sl .any 155 (.pair .str (.pair .bool (.sl 3 (.int .i64)))) y0])),(.T 1,.t (.val false [.int .i64 y1])),(.T 5,.t (.val false [.int .i64 y2]))]
noncomputable def g_SZ24_0 (y0:tL2):(Int×Int) → RT (Int×Int) ((Int×Int) ⊕ (Int))
 | (y1,y2) => .br (true) (.br (decide (y2 < (y0.length:Int))) (.br (decide (0 ≤ y2 ∧ y2 < (y0.length:Int))) (.br (g_AZ70 y1) (.br (true) (.br (!ByteArray.toList (at_ yT2 y0 (Int.toNat y2)).1 == ByteArray.toList (g_VZ70_0 y1)) (.out (.inl ((y1,(-1:Int))))) (.br (true) (.br (decide (0 ≤ y2 ∧ y2 < (y0.length:Int))) (.br (true) (.br (true) (.br (!(at_ yT2 y0 (Int.toNat y2)).2.1 == (Int.tmod (IntKind.i64.wrap (y1 + 1)) (3:Int) == (0:Int))) (.out (.inl ((IntKind.i64.wrap (y1 + 1),(-1:Int))))) (.br (true) (.br (decide (0 ≤ y2 ∧ y2 < (y0.length:Int))) (.br (g_AZ69 (at_ yT2 y0 (Int.toNat y2)).2.2 (IntKind.i64.wrap (IntKind.i64.wrap (y1 + 1) + 1))) (.br (true) (.br (decide (g_VZ69_0 (at_ yT2 y0 (Int.toNat y2)).2.2 (IntKind.i64.wrap (IntKind.i64.wrap (y1 + 1) + 1)) < 0)) (.out (.inl ((g_VZ69_0 (at_ yT2 y0 (Int.toNat y2)).2.2 (IntKind.i64.wrap (IntKind.i64.wrap (y1 + 1) + 1)),(-1:Int))))) (.br (true) (.go ((g_VZ69_0 (at_ yT2 y0 (Int.toNat y2)).2.2 (IntKind.i64.wrap (IntKind.i64.wrap (y1 + 1) + 1)),IntKind.i64.wrap (y2 + 1)))) .bad)) .bad) .bad) .bad) .bad)) .bad) .bad) .bad) .bad)) .bad) .bad) .bad) (.out (.inr (y1)))) .bad
noncomputable def g_LZ24_0 (y0:tL2) (x:Int×Int):Option ((Int×Int) ⊕ (Int)) := loopO (g_SZ24_0 y0) x
noncomputable def xZ24_0 (y0:tL2):((Int×Int) ⊕ (Int)) → Ex×List (Pl×LV) := fun
 | .inl r => (.ret,[(.T 1,.t (.val false [.int .i64 r.1])),(.T 4,.t (.val false [.int .i64 r.2]))])
 | .inr (r) => (.exit 0,[(.T 1,.t (.val false [.int .i64 r])),(.T 4,.t (.val false [.undef]))])
noncomputable def OZ24_1:Orc := fun b h => match b,h with
 | 0,[(.T 0,.t (.val false [.sl .any 155 (.pair .str (.pair .bool (.sl 3 (.int .i64)))) y0])),(.T 1,.t (.val false [.int .i64 y1])),(.T 5,.t (.val false [.int .i64 y2]))] => some (okO (g_LZ24_0 y0 (y1,y2)),(.br (isL (valO (g_LZ24_0 y0 (y1,y2)))) (.leaf .ret [(.T 1,.t (.val false [.int .i64 (getL (valO (g_LZ24_0 y0 (y1,y2)))).1])),(.T 4,.t (.val false [.int .i64 (getL (valO (g_LZ24_0 y0 (y1,y2)))).2]))]) (.leaf (.exit 0) [(.T 1,.t (.val false [.int .i64 (getR (valO (g_LZ24_0 y0 (y1,y2))))])),(.T 4,.t (.val false [.undef]))])))
 | b,h => OZ24_0 b h
theorem bZ24_0 (y0:tL2) (y1:Int) (y2:Int):Tr.bt EZ24 OZ24_0 (exec EZ24 0 cZ24_0 (St.of (hZ24_0 y0 y1 y2)) (leafRd EZ24 0)) = (g_SZ24_0 y0 (y1,y2)).bt (fun ((y1,y2):Int×Int) => (hZ24_0 y0 y1 y2)) (xZ24_0 y0) := by kernel_rfl
theorem kZ24_1:OrcOk EZ24 OZ24_1 lsZ24 1 := orc_add kZ24_0 (fun n p hp h ex h' ho => by
 obtain ⟨b,c⟩ := p
 obtain ⟨xt,h1,h2⟩ := ho
 have h1:OZ24_1 b h = some (true,xt) := h1
 unfold OZ24_1 at h1
 split at h1
 ·injection h1 with h1
  injection h1 with e1 e2
  subst e2
  have hc:c = cZ24_0 := mZ24_0 _ hp rfl
  subst hc
  right
  rename_i y0 y1 y2
  have key := LT_step kZ24_0 hp (fun q hq => loopsAll_in _ _ _ _ hp hq) (fun ((y1,y2):Int×Int) => (hZ24_0 y0 y1 y2)) (xZ24_0 y0) (g_SZ24_0 y0) (fun x => by first | exact bZ24_0 y0 x.1 x.2) n (x := (y1,y2)) (okO_some e1)
  have hx:∀ r,XT.sel (.br (isL r) (.leaf .ret [(.T 1,.t (.val false [.int .i64 (getL r).1])),(.T 4,.t (.val false [.int .i64 (getL r).2]))]) (.leaf (.exit 0) [(.T 1,.t (.val false [.int .i64 (getR r)])),(.T 4,.t (.val false [.undef]))])) = xZ24_0 y0 r := fun r => by first | rfl | rcases r with r | r <;> rfl | rcases r with r | r | r <;> rfl | rcases r with r | r | r | r <;> rfl
  have h3 := (hx (valO (g_LZ24_0 y0 (y1,y2)))).symm.trans h2
  have e3 := congrArg Prod.fst h3
  have e4 := congrArg Prod.snd h3
  simp only at e3 e4
  rw [← e3,← e4]
  exact key
 ·exact .inl ⟨xt,h1,h2⟩)
noncomputable def g_AZ24 (a0:tL2) (a1:Int):Bool := okO (g_LZ24_0 a0 (a1,(0:Int)))
noncomputable def g_VZ24_0 (a0:tL2) (a1:Int):Int := bif isL (valO (g_LZ24_0 a0 (a1,(0:Int)))) then (getL (valO (g_LZ24_0 a0 (a1,(0:Int))))).2 else getR (valO (g_LZ24_0 a0 (a1,(0:Int))))
noncomputable def FZ24:FSem := fun ys => match ys with
 | [.val false [.sl .any 155 (.pair .str (.pair .bool (.sl 3 (.int .i64)))) a0],.val false [.int .i64 a1]] => some ((g_AZ24 a0 a1),.val false [.int .i64 (g_VZ24_0 a0 a1)],[])
 | _ => none
theorem vZ24 (a0:tL2) (a1:Int):collapseH .std EZ24 OZ24_1 (execFn EZ24 Tryz.f149 msZ24 [.val false [.sl .any 155 (.pair .str (.pair .bool (.sl 3 (.int .i64)))) a0],.val false [.int .i64 a1]]) = some ((g_AZ24 a0 a1),.val false [.int .i64 (g_VZ24_0 a0 a1)],[]) := by kernel_rfl
theorem sZ24:Sound Tryz.prog 149 msZ24 FZ24 := by
 refine fn_gen goodZ24 (by kernel_rfl) .std (fn := Tryz.f149) (c := (Tryz.f149.body.getD .skip)) (o := OZ24_1) (k := 1) (by kernel_rfl) (by kernel_rfl) (by kernel_rfl) (by kernel_rfl) (by decide) kZ24_1 ?_
 intro ys r outs h
 unfold FZ24 at h
 split at h
 ·exact (vZ24 _ _).trans h
 ·cases h
noncomputable def EZ31:Env where
 tt := mkTI Tryz.prog
 fn := fun f => match f with
  | 168 => some (msZ70,FSem.wk msZ70 FZ70)
  | _ => none
 bxf := fun _ => none
 mv := []
 keep := fun b => match b with
  | 0 => [(0,false),(1,false),(5,false)]
  | _ => []
 keepB := fun b => match b with
  | 0 => []
  | _ => []
 keepX := fun b => match b with
  | 0 => [(1,false),(4,false)]
  | _ => []
 keepXB := fun b => match b with
  | 0 => []
  | _ => []
theorem goodFZ31:∀ f ms F,EZ31.fn f = some (ms,F) → Sound Tryz.prog f ms F := fun f ms F h => by
 unfold EZ31 at h
 dsimp only at h
 split at h
 ·exact gF sZ70 h
 ·cases h
theorem goodZ31:Good Tryz.prog EZ31 := ⟨rfl,goodFZ31,fun f ms F h => by cases h⟩
noncomputable def OZ31_0:Orc := fun _ _ => none
noncomputable def msZ31:List PM := [.rd,.own]
noncomputable def lsZ31:List (Nat×Code) := loopsAll 0 (Tryz.f148.body.getD .skip)
noncomputable def cZ31_0:Code := (loopOf 0 (Tryz.f148.body.getD .skip)).getD .skip
theorem lseqZ31:lsZ31 = [(0,cZ31_0)] := by kernel_rfl
theorem mZ31_0:∀ p,p ∈ lsZ31 → p.1 = 0 → p.2 = cZ31_0 := by
 intro p hp
 rw [lseqZ31] at hp
 simp only [List.mem_cons,List.not_mem_nil,or_false] at hp
 subst hp; simp
theorem kZ31_0:OrcOk EZ31 OZ31_0 lsZ31 0 := orcOk_none
noncomputable def hZ31_0 (y0:List ByteArray) (y1:Int) (y2:Int):List (Pl×LV) := [(.T 0,.t (.val false [.sl .any 9 .str y0])),(.T 1,.t (.val false [.int .i64 y1])),(.T 5,.t (.val false [.int .i64 y2]))]
noncomputable def g_SZ31_0 (y0:List ByteArray):(Int×Int) → RT (Int×Int) ((Int×Int) ⊕ (Int))
 | (y1,y2) => .br (true) (.br (decide (y2 < (y0.length:Int))) (.br (decide (0 ≤ y2 ∧ y2 < (y0.length:Int))) (.br (g_AZ70 y1) (.br (true) (.br (!ByteArray.toList (at_ Ty.str y0 (Int.toNat y2)) == ByteArray.toList (g_VZ70_0 y1)) (.out (.inl ((y1,(-1:Int))))) (.br (true) (.br (true) (.go ((IntKind.i64.wrap (y1 + 1),IntKind.i64.wrap (y2 + 1)))) .bad) .bad)) .bad) .bad) .bad) (.out (.inr (y1)))) .bad
noncomputable def g_LZ31_0 (y0:List ByteArray) (x:Int×Int):Option ((Int×Int) ⊕ (Int)) := loopO (g_SZ31_0 y0) x
noncomputable def xZ31_0 (y0:List ByteArray):((Int×Int) ⊕ (Int)) → Ex×List (Pl×LV) := fun
 | .inl r => (.ret,[(.T 1,.t (.val false [.int .i64 r.1])),(.T 4,.t (.val false [.int .i64 r.2]))])
 | .inr (r) => (.exit 0,[(.T 1,.t (.val false [.int .i64 r])),(.T 4,.t (.val false [.undef]))])
noncomputable def OZ31_1:Orc := fun b h => match b,h with
 | 0,[(.T 0,.t (.val false [.sl .any 9 .str y0])),(.T 1,.t (.val false [.int .i64 y1])),(.T 5,.t (.val false [.int .i64 y2]))] => some (okO (g_LZ31_0 y0 (y1,y2)),(.br (isL (valO (g_LZ31_0 y0 (y1,y2)))) (.leaf .ret [(.T 1,.t (.val false [.int .i64 (getL (valO (g_LZ31_0 y0 (y1,y2)))).1])),(.T 4,.t (.val false [.int .i64 (getL (valO (g_LZ31_0 y0 (y1,y2)))).2]))]) (.leaf (.exit 0) [(.T 1,.t (.val false [.int .i64 (getR (valO (g_LZ31_0 y0 (y1,y2))))])),(.T 4,.t (.val false [.undef]))])))
 | b,h => OZ31_0 b h
theorem bZ31_0 (y0:List ByteArray) (y1:Int) (y2:Int):Tr.bt EZ31 OZ31_0 (exec EZ31 0 cZ31_0 (St.of (hZ31_0 y0 y1 y2)) (leafRd EZ31 0)) = (g_SZ31_0 y0 (y1,y2)).bt (fun ((y1,y2):Int×Int) => (hZ31_0 y0 y1 y2)) (xZ31_0 y0) := by kernel_rfl
theorem kZ31_1:OrcOk EZ31 OZ31_1 lsZ31 1 := orc_add kZ31_0 (fun n p hp h ex h' ho => by
 obtain ⟨b,c⟩ := p
 obtain ⟨xt,h1,h2⟩ := ho
 have h1:OZ31_1 b h = some (true,xt) := h1
 unfold OZ31_1 at h1
 split at h1
 ·injection h1 with h1
  injection h1 with e1 e2
  subst e2
  have hc:c = cZ31_0 := mZ31_0 _ hp rfl
  subst hc
  right
  rename_i y0 y1 y2
  have key := LT_step kZ31_0 hp (fun q hq => loopsAll_in _ _ _ _ hp hq) (fun ((y1,y2):Int×Int) => (hZ31_0 y0 y1 y2)) (xZ31_0 y0) (g_SZ31_0 y0) (fun x => by first | exact bZ31_0 y0 x.1 x.2) n (x := (y1,y2)) (okO_some e1)
  have hx:∀ r,XT.sel (.br (isL r) (.leaf .ret [(.T 1,.t (.val false [.int .i64 (getL r).1])),(.T 4,.t (.val false [.int .i64 (getL r).2]))]) (.leaf (.exit 0) [(.T 1,.t (.val false [.int .i64 (getR r)])),(.T 4,.t (.val false [.undef]))])) = xZ31_0 y0 r := fun r => by first | rfl | rcases r with r | r <;> rfl | rcases r with r | r | r <;> rfl | rcases r with r | r | r | r <;> rfl
  have h3 := (hx (valO (g_LZ31_0 y0 (y1,y2)))).symm.trans h2
  have e3 := congrArg Prod.fst h3
  have e4 := congrArg Prod.snd h3
  simp only at e3 e4
  rw [← e3,← e4]
  exact key
 ·exact .inl ⟨xt,h1,h2⟩)
noncomputable def g_AZ31 (a0:List ByteArray) (a1:Int):Bool := okO (g_LZ31_0 a0 (a1,(0:Int)))
noncomputable def g_VZ31_0 (a0:List ByteArray) (a1:Int):Int := bif isL (valO (g_LZ31_0 a0 (a1,(0:Int)))) then (getL (valO (g_LZ31_0 a0 (a1,(0:Int))))).2 else getR (valO (g_LZ31_0 a0 (a1,(0:Int))))
noncomputable def FZ31:FSem := fun ys => match ys with
 | [.val false [.sl .any 9 .str a0],.val false [.int .i64 a1]] => some ((g_AZ31 a0 a1),.val false [.int .i64 (g_VZ31_0 a0 a1)],[])
 | _ => none
theorem vZ31 (a0:List ByteArray) (a1:Int):collapseH .std EZ31 OZ31_1 (execFn EZ31 Tryz.f148 msZ31 [.val false [.sl .any 9 .str a0],.val false [.int .i64 a1]]) = some ((g_AZ31 a0 a1),.val false [.int .i64 (g_VZ31_0 a0 a1)],[]) := by kernel_rfl
theorem sZ31:Sound Tryz.prog 148 msZ31 FZ31 := by
 refine fn_gen goodZ31 (by kernel_rfl) .std (fn := Tryz.f148) (c := (Tryz.f148.body.getD .skip)) (o := OZ31_1) (k := 1) (by kernel_rfl) (by kernel_rfl) (by kernel_rfl) (by kernel_rfl) (by decide) kZ31_1 ?_
 intro ys r outs h
 unfold FZ31 at h
 split at h
 ·exact (vZ31 _ _).trans h
 ·cases h
noncomputable def EZ26:Env where
 tt := mkTI Tryz.prog
 fn := fun f => match f with
  | 148 => some (msZ31,FSem.wk msZ31 FZ31)
  | 149 => some (msZ24,FSem.wk msZ24 FZ24)
  | _ => none
 bxf := fun _ => none
 mv := []
 keep := fun b => match b with
  | 0 => [(0,false),(1,false),(5,false)]
  | _ => []
 keepB := fun b => match b with
  | 0 => []
  | _ => []
 keepX := fun b => match b with
  | 0 => [(1,false),(4,false)]
  | _ => []
 keepXB := fun b => match b with
  | 0 => []
  | _ => []
theorem goodFZ26:∀ f ms F,EZ26.fn f = some (ms,F) → Sound Tryz.prog f ms F := fun f ms F h => by
 unfold EZ26 at h
 dsimp only at h
 split at h
 ·exact gF sZ31 h
 ·exact gF sZ24 h
 ·cases h
theorem goodZ26:Good Tryz.prog EZ26 := ⟨rfl,goodFZ26,fun f ms F h => by cases h⟩
noncomputable def OZ26_0:Orc := fun _ _ => none
noncomputable def msZ26:List PM := [.rd,.own]
noncomputable def lsZ26:List (Nat×Code) := loopsAll 0 (Tryz.f112.body.getD .skip)
noncomputable def cZ26_0:Code := (loopOf 0 (Tryz.f112.body.getD .skip)).getD .skip
theorem lseqZ26:lsZ26 = [(0,cZ26_0)] := by kernel_rfl
theorem mZ26_0:∀ p,p ∈ lsZ26 → p.1 = 0 → p.2 = cZ26_0 := by
 intro p hp
 rw [lseqZ26] at hp
 simp only [List.mem_cons,List.not_mem_nil,or_false] at hp
 subst hp; simp
theorem kZ26_0:OrcOk EZ26 OZ26_0 lsZ26 0 := orcOk_none
noncomputable def hZ26_0 (y0:tL0) (y1:Int) (y2:Int):List (Pl×LV) := [(.T 0,.t (.val false [.sl .any 92 (.pair (.int .i64) (.pair (.int .i64) (.pair (.sl 9 .str) (.sl 155 (.pair .str (.pair .bool (.sl 3 (.int .i64)))))))) y0])),(.T 1,.t (.val false [.int .i64 y1])),(.T 5,.t (.val false [.int .i64 y2]))]
noncomputable def g_SZ26_0 (y0:tL0):(Int×Int) → RT (Int×Int) ((Int×Int) ⊕ (Int))
 | (y1,y2) => .br (true) (.br (decide (y2 < (y0.length:Int))) (.br (decide (0 ≤ y2 ∧ y2 < (y0.length:Int))) (.br (true) (.br ((at_ yT1 y0 (Int.toNat y2)).1 != y1) (.out (.inl ((y1,(-1:Int))))) (.br (true) (.br (decide (0 ≤ y2 ∧ y2 < (y0.length:Int))) (.br (true) (.br ((at_ yT1 y0 (Int.toNat y2)).2.1 != IntKind.i64.wrap (y1 + 1)) (.out (.inl ((IntKind.i64.wrap (y1 + 1),(-1:Int))))) (.br (true) (.br (decide (0 ≤ y2 ∧ y2 < (y0.length:Int))) (.br (g_AZ31 (at_ yT1 y0 (Int.toNat y2)).2.2.1 (IntKind.i64.wrap (IntKind.i64.wrap (y1 + 1) + 1))) (.br (true) (.br (decide (g_VZ31_0 (at_ yT1 y0 (Int.toNat y2)).2.2.1 (IntKind.i64.wrap (IntKind.i64.wrap (y1 + 1) + 1)) < 0)) (.out (.inl ((g_VZ31_0 (at_ yT1 y0 (Int.toNat y2)).2.2.1 (IntKind.i64.wrap (IntKind.i64.wrap (y1 + 1) + 1)),(-1:Int))))) (.br (decide (0 ≤ y2 ∧ y2 < (y0.length:Int))) (.br (g_AZ24 (at_ yT1 y0 (Int.toNat y2)).2.2.2 (g_VZ31_0 (at_ yT1 y0 (Int.toNat y2)).2.2.1 (IntKind.i64.wrap (IntKind.i64.wrap (y1 + 1) + 1)))) (.br (true) (.br (decide (g_VZ24_0 (at_ yT1 y0 (Int.toNat y2)).2.2.2 (g_VZ31_0 (at_ yT1 y0 (Int.toNat y2)).2.2.1 (IntKind.i64.wrap (IntKind.i64.wrap (y1 + 1) + 1))) < 0)) (.out (.inl ((g_VZ24_0 (at_ yT1 y0 (Int.toNat y2)).2.2.2 (g_VZ31_0 (at_ yT1 y0 (Int.toNat y2)).2.2.1 (IntKind.i64.wrap (IntKind.i64.wrap (y1 + 1) + 1))),(-1:Int))))) (.br (true) (.go ((g_VZ24_0 (at_ yT1 y0 (Int.toNat y2)).2.2.2 (g_VZ31_0 (at_ yT1 y0 (Int.toNat y2)).2.2.1 (IntKind.i64.wrap (IntKind.i64.wrap (y1 + 1) + 1))),IntKind.i64.wrap (y2 + 1)))) .bad)) .bad) .bad) .bad)) .bad) .bad) .bad) .bad)) .bad) .bad) .bad)) .bad) .bad) (.out (.inr (y1)))) .bad
noncomputable def g_LZ26_0 (y0:tL0) (x:Int×Int):Option ((Int×Int) ⊕ (Int)) := loopO (g_SZ26_0 y0) x
noncomputable def xZ26_0 (y0:tL0):((Int×Int) ⊕ (Int)) → Ex×List (Pl×LV) := fun
 | .inl r => (.ret,[(.T 1,.t (.val false [.int .i64 r.1])),(.T 4,.t (.val false [.int .i64 r.2]))])
 | .inr (r) => (.exit 0,[(.T 1,.t (.val false [.int .i64 r])),(.T 4,.t (.val false [.undef]))])
noncomputable def OZ26_1:Orc := fun b h => match b,h with
 | 0,[(.T 0,.t (.val false [.sl .any 92 (.pair (.int .i64) (.pair (.int .i64) (.pair (.sl 9 .str) (.sl 155 (.pair .str (.pair .bool (.sl 3 (.int .i64)))))))) y0])),(.T 1,.t (.val false [.int .i64 y1])),(.T 5,.t (.val false [.int .i64 y2]))] => some (okO (g_LZ26_0 y0 (y1,y2)),(.br (isL (valO (g_LZ26_0 y0 (y1,y2)))) (.leaf .ret [(.T 1,.t (.val false [.int .i64 (getL (valO (g_LZ26_0 y0 (y1,y2)))).1])),(.T 4,.t (.val false [.int .i64 (getL (valO (g_LZ26_0 y0 (y1,y2)))).2]))]) (.leaf (.exit 0) [(.T 1,.t (.val false [.int .i64 (getR (valO (g_LZ26_0 y0 (y1,y2))))])),(.T 4,.t (.val false [.undef]))])))
 | b,h => OZ26_0 b h
theorem bZ26_0 (y0:tL0) (y1:Int) (y2:Int):Tr.bt EZ26 OZ26_0 (exec EZ26 0 cZ26_0 (St.of (hZ26_0 y0 y1 y2)) (leafRd EZ26 0)) = (g_SZ26_0 y0 (y1,y2)).bt (fun ((y1,y2):Int×Int) => (hZ26_0 y0 y1 y2)) (xZ26_0 y0) := by kernel_rfl
theorem kZ26_1:OrcOk EZ26 OZ26_1 lsZ26 1 := orc_add kZ26_0 (fun n p hp h ex h' ho => by
 obtain ⟨b,c⟩ := p
 obtain ⟨xt,h1,h2⟩ := ho
 have h1:OZ26_1 b h = some (true,xt) := h1
 unfold OZ26_1 at h1
 split at h1
 ·injection h1 with h1
  injection h1 with e1 e2
  subst e2
  have hc:c = cZ26_0 := mZ26_0 _ hp rfl
  subst hc
  right
  rename_i y0 y1 y2
  have key := LT_step kZ26_0 hp (fun q hq => loopsAll_in _ _ _ _ hp hq) (fun ((y1,y2):Int×Int) => (hZ26_0 y0 y1 y2)) (xZ26_0 y0) (g_SZ26_0 y0) (fun x => by first | exact bZ26_0 y0 x.1 x.2) n (x := (y1,y2)) (okO_some e1)
  have hx:∀ r,XT.sel (.br (isL r) (.leaf .ret [(.T 1,.t (.val false [.int .i64 (getL r).1])),(.T 4,.t (.val false [.int .i64 (getL r).2]))]) (.leaf (.exit 0) [(.T 1,.t (.val false [.int .i64 (getR r)])),(.T 4,.t (.val false [.undef]))])) = xZ26_0 y0 r := fun r => by first | rfl | rcases r with r | r <;> rfl | rcases r with r | r | r <;> rfl | rcases r with r | r | r | r <;> rfl
  have h3 := (hx (valO (g_LZ26_0 y0 (y1,y2)))).symm.trans h2
  have e3 := congrArg Prod.fst h3
  have e4 := congrArg Prod.snd h3
  simp only at e3 e4
  rw [← e3,← e4]
  exact key
 ·exact .inl ⟨xt,h1,h2⟩)
noncomputable def g_AZ26 (a0:tL0) (a1:Int):Bool := okO (g_LZ26_0 a0 (a1,(0:Int)))
noncomputable def g_VZ26_0 (a0:tL0) (a1:Int):Int := bif isL (valO (g_LZ26_0 a0 (a1,(0:Int)))) then (getL (valO (g_LZ26_0 a0 (a1,(0:Int))))).2 else getR (valO (g_LZ26_0 a0 (a1,(0:Int))))
noncomputable def FZ26:FSem := fun ys => match ys with
 | [.val false [.sl .any 92 (.pair (.int .i64) (.pair (.int .i64) (.pair (.sl 9 .str) (.sl 155 (.pair .str (.pair .bool (.sl 3 (.int .i64)))))))) a0],.val false [.int .i64 a1]] => some ((g_AZ26 a0 a1),.val false [.int .i64 (g_VZ26_0 a0 a1)],[])
 | _ => none
theorem vZ26 (a0:tL0) (a1:Int):collapseH .std EZ26 OZ26_1 (execFn EZ26 Tryz.f112 msZ26 [.val false [.sl .any 92 (.pair (.int .i64) (.pair (.int .i64) (.pair (.sl 9 .str) (.sl 155 (.pair .str (.pair .bool (.sl 3 (.int .i64)))))))) a0],.val false [.int .i64 a1]]) = some ((g_AZ26 a0 a1),.val false [.int .i64 (g_VZ26_0 a0 a1)],[]) := by kernel_rfl
theorem sZ26:Sound Tryz.prog 112 msZ26 FZ26 := by
 refine fn_gen goodZ26 (by kernel_rfl) .std (fn := Tryz.f112) (c := (Tryz.f112.body.getD .skip)) (o := OZ26_1) (k := 1) (by kernel_rfl) (by kernel_rfl) (by kernel_rfl) (by kernel_rfl) (by decide) kZ26_1 ?_
 intro ys r outs h
 unfold FZ26 at h
 split at h
 ·exact (vZ26 _ _).trans h
 ·cases h
noncomputable def EZ32:Env where
 tt := mkTI Tryz.prog
 fn := fun f => match f with
  | 112 => some (msZ26,FSem.wk msZ26 FZ26)
  | _ => none
 bxf := fun _ => none
 mv := []
 keep := fun _ => []
 keepB := fun _ => []
 keepX := fun _ => []
 keepXB := fun _ => []
theorem goodFZ32:∀ f ms F,EZ32.fn f = some (ms,F) → Sound Tryz.prog f ms F := fun f ms F h => by
 unfold EZ32 at h
 dsimp only at h
 split at h
 ·exact gF sZ26 h
 ·cases h
theorem goodZ32:Good Tryz.prog EZ32 := ⟨rfl,goodFZ32,fun f ms F h => by cases h⟩
noncomputable def OZ32_0:Orc := fun _ _ => none
noncomputable def msZ32:List PM := [.rd,.own]
noncomputable def lsZ32:List (Nat×Code) := loopsAll 0 (Tryz.f53.body.getD .skip)
theorem kZ32_0:OrcOk EZ32 OZ32_0 lsZ32 0 := orcOk_none
noncomputable def g_AZ32 (a0:tL0) (a1:Int) (a2:Int):Bool := g_AZ26 a0 a2&&true
noncomputable def g_VZ32_0 (a0:tL0) (a1:Int) (a2:Int):Int := bif decide (g_VZ26_0 a0 a2 < 0) then (-1:Int) else g_VZ26_0 a0 a2
noncomputable def FZ32:FSem := fun ys => match ys with
 | [.val true [.sl .any 92 (.pair (.int .i64) (.pair (.int .i64) (.pair (.sl 9 .str) (.sl 155 (.pair .str (.pair .bool (.sl 3 (.int .i64)))))))) a0,.int .i64 a1],.val false [.int .i64 a2]] => some ((g_AZ32 a0 a1 a2),.val false [.int .i64 (g_VZ32_0 a0 a1 a2)],[])
 | _ => none
theorem vZ32 (a0:tL0) (a1:Int) (a2:Int):collapseH .std EZ32 OZ32_0 (execFn EZ32 Tryz.f53 msZ32 [.val true [.sl .any 92 (.pair (.int .i64) (.pair (.int .i64) (.pair (.sl 9 .str) (.sl 155 (.pair .str (.pair .bool (.sl 3 (.int .i64)))))))) a0,.int .i64 a1],.val false [.int .i64 a2]]) = some ((g_AZ32 a0 a1 a2),.val false [.int .i64 (g_VZ32_0 a0 a1 a2)],[]) := by kernel_rfl
theorem sZ32:Sound Tryz.prog 53 msZ32 FZ32 := by
 refine fn_gen goodZ32 (by kernel_rfl) .std (fn := Tryz.f53) (c := (Tryz.f53.body.getD .skip)) (o := OZ32_0) (k := 0) (by kernel_rfl) (by kernel_rfl) (by kernel_rfl) (by kernel_rfl) (by decide) kZ32_0 ?_
 intro ys r outs h
 unfold FZ32 at h
 split at h
 ·exact (vZ32 _ _ _).trans h
 ·cases h
noncomputable def EZ27:Env where
 tt := mkTI Tryz.prog
 fn := fun f => match f with
  | 53 => some (msZ32,FSem.wk msZ32 FZ32)
  | 54 => some (msZ42,FSem.wk msZ42 FZ42)
  | _ => none
 bxf := fun _ => none
 mv := []
 keep := fun _ => []
 keepB := fun _ => []
 keepX := fun _ => []
 keepXB := fun _ => []
theorem goodFZ27:∀ f ms F,EZ27.fn f = some (ms,F) → Sound Tryz.prog f ms F := fun f ms F h => by
 unfold EZ27 at h
 dsimp only at h
 split at h
 ·exact gF sZ32 h
 ·exact gF sZ42 h
 ·cases h
theorem goodZ27:Good Tryz.prog EZ27 := ⟨rfl,goodFZ27,fun f ms F h => by cases h⟩
noncomputable def OZ27_0:Orc := fun _ _ => none
noncomputable def msZ27:List PM := [.rd,.own]
noncomputable def lsZ27:List (Nat×Code) := loopsAll 0 (Tryz.f18.body.getD .skip)
theorem kZ27_0:OrcOk EZ27 OZ27_0 lsZ27 0 := orcOk_none
noncomputable def g_AZ27 (a0:tL0) (a1:Int) (a2:tL1) (a3:Int):Bool := g_AZ32 a0 a1 a3&&(decide (g_VZ32_0 a0 a1 a3 < 0) || g_AZ42 a2 (g_VZ32_0 a0 a1 a3)&&true)
noncomputable def g_VZ27_0 (a0:tL0) (a1:Int) (a2:tL1) (a3:Int):Int := bif decide (g_VZ32_0 a0 a1 a3 < 0) then (-1:Int) else bif decide (g_VZ42_0 a2 (g_VZ32_0 a0 a1 a3) < 0) then (-1:Int) else g_VZ42_0 a2 (g_VZ32_0 a0 a1 a3)
noncomputable def FZ27:FSem := fun ys => match ys with
 | [.val true [.sl .any 92 (.pair (.int .i64) (.pair (.int .i64) (.pair (.sl 9 .str) (.sl 155 (.pair .str (.pair .bool (.sl 3 (.int .i64)))))))) a0,.int .i64 a1,.sl .any 73 (.pair (.int .i64) (.pair (.pair (.int .i64) (.pair (.int .i64) (.pair (.int .i64) (.pair (.int .i64) (.pair (.int .i64) (.pair (.int .i64) (.int .i64))))))) (.pair .bool (.pair (.sl 3 (.int .i64)) (.sl 3 (.int .i64)))))) a2],.val false [.int .i64 a3]] => some ((g_AZ27 a0 a1 a2 a3),.val false [.int .i64 (g_VZ27_0 a0 a1 a2 a3)],[])
 | _ => none
theorem vZ27 (a0:tL0) (a1:Int) (a2:tL1) (a3:Int):collapseH .std EZ27 OZ27_0 (execFn EZ27 Tryz.f18 msZ27 [.val true [.sl .any 92 (.pair (.int .i64) (.pair (.int .i64) (.pair (.sl 9 .str) (.sl 155 (.pair .str (.pair .bool (.sl 3 (.int .i64)))))))) a0,.int .i64 a1,.sl .any 73 (.pair (.int .i64) (.pair (.pair (.int .i64) (.pair (.int .i64) (.pair (.int .i64) (.pair (.int .i64) (.pair (.int .i64) (.pair (.int .i64) (.int .i64))))))) (.pair .bool (.pair (.sl 3 (.int .i64)) (.sl 3 (.int .i64)))))) a2],.val false [.int .i64 a3]]) = some ((g_AZ27 a0 a1 a2 a3),.val false [.int .i64 (g_VZ27_0 a0 a1 a2 a3)],[]) := by kernel_rfl
theorem sZ27:Sound Tryz.prog 18 msZ27 FZ27 := by
 refine fn_gen goodZ27 (by kernel_rfl) .std (fn := Tryz.f18) (c := (Tryz.f18.body.getD .skip)) (o := OZ27_0) (k := 0) (by kernel_rfl) (by kernel_rfl) (by kernel_rfl) (by kernel_rfl) (by decide) kZ27_0 ?_
 intro ys r outs h
 unfold FZ27 at h
 split at h
 ·exact (vZ27 _ _ _ _).trans h
 ·cases h
noncomputable def EZ71:Env where
 tt := mkTI Tryz.prog
 fn := fun _ => none
 bxf := fun _ => none
 mv := []
 keep := fun b => match b with
  | 0 => [(0,false),(1,false),(5,false)]
  | _ => []
 keepB := fun b => match b with
  | 0 => []
  | _ => []
 keepX := fun b => match b with
  | 0 => [(0,false),(1,false)]
  | _ => []
 keepXB := fun b => match b with
  | 0 => []
  | _ => []
theorem goodFZ71:∀ f ms F,EZ71.fn f = some (ms,F) → Sound Tryz.prog f ms F := fun f ms F h => by cases h
theorem goodZ71:Good Tryz.prog EZ71 := ⟨rfl,goodFZ71,fun f ms F h => by cases h⟩
noncomputable def OZ71_0:Orc := fun _ _ => none
noncomputable def msZ71:List PM := [.«mut»,.own]
noncomputable def lsZ71:List (Nat×Code) := loopsAll 0 (Tryz.f106.body.getD .skip)
noncomputable def cZ71_0:Code := (loopOf 0 (Tryz.f106.body.getD .skip)).getD .skip
theorem lseqZ71:lsZ71 = [(0,cZ71_0)] := by kernel_rfl
theorem mZ71_0:∀ p,p ∈ lsZ71 → p.1 = 0 → p.2 = cZ71_0 := by
 intro p hp
 rw [lseqZ71] at hp
 simp only [List.mem_cons,List.not_mem_nil,or_false] at hp
 subst hp; simp
theorem kZ71_0:OrcOk EZ71 OZ71_0 lsZ71 0 := orcOk_none
noncomputable def hZ71_0 (y0:List Int) (y1:Int) (y2:Int):List (Pl×LV) := [(.T 0,.t (.val false [.row 0 0 0])),(.R 0 0,.r 0 (some ⟨false,.any,true,3,(.int .i64),y0⟩)),(.T 1,.t (.val false [.int .i64 y1])),(.T 5,.t (.val false [.int .i64 y2]))]
noncomputable def g_SZ71_0:((List Int)×Int×Int) → RT ((List Int)×Int×Int) (((List Int)×Int))
 | (y0,y1,y2) => .br (true) (.br (decide (y2 < (y0.length:Int))) (.br (decide (0 ≤ y2 ∧ y2 < (y0.length:Int))) (.br (decide (Int.toNat y2 < List.length y0)) (.br (true) (.br (true) (.go ((List.set y0 (Int.toNat y2) y1,IntKind.i64.wrap (y1 + 1),IntKind.i64.wrap (y2 + 1)))) .bad) .bad) .bad) .bad) (.out ((y0,y1)))) .bad
noncomputable def g_LZ71_0 (x:(List Int)×Int×Int):Option (((List Int)×Int)) := loopO (g_SZ71_0) x
noncomputable def xZ71_0:(((List Int)×Int)) → Ex×List (Pl×LV) := fun r => (.exit 0,[(.T 0,.t (.val false [.row 0 0 0])),(.R 0 0,.r 0 (some ⟨false,.any,true,3,(.int .i64),r.1⟩)),(.T 1,.t (.val false [.int .i64 r.2]))])
noncomputable def OZ71_1:Orc := fun b h => match b,h with
 | 0,[(.T 0,.t (.val false [.row 0 0 0])),(.R 0 0,.r 0 (some ⟨false,.any,true,3,(.int .i64),y0⟩)),(.T 1,.t (.val false [.int .i64 y1])),(.T 5,.t (.val false [.int .i64 y2]))] => some (okO (g_LZ71_0 (y0,y1,y2)),(.leaf (.exit 0) [(.T 0,.t (.val false [.row 0 0 0])),(.R 0 0,.r 0 (some ⟨false,.any,true,3,(.int .i64),(valO (g_LZ71_0 (y0,y1,y2))).1⟩)),(.T 1,.t (.val false [.int .i64 (valO (g_LZ71_0 (y0,y1,y2))).2]))]))
 | b,h => OZ71_0 b h
theorem bZ71_0 (y0:List Int) (y1:Int) (y2:Int):Tr.bt EZ71 OZ71_0 (exec EZ71 0 cZ71_0 (St.of (hZ71_0 y0 y1 y2)) (leafRd EZ71 0)) = (g_SZ71_0 (y0,y1,y2)).bt (fun ((y0,y1,y2):(List Int)×Int×Int) => (hZ71_0 y0 y1 y2)) (xZ71_0) := by kernel_rfl
theorem kZ71_1:OrcOk EZ71 OZ71_1 lsZ71 1 := orc_add kZ71_0 (fun n p hp h ex h' ho => by
 obtain ⟨b,c⟩ := p
 obtain ⟨xt,h1,h2⟩ := ho
 have h1:OZ71_1 b h = some (true,xt) := h1
 unfold OZ71_1 at h1
 split at h1
 ·injection h1 with h1
  injection h1 with e1 e2
  subst e2
  have hc:c = cZ71_0 := mZ71_0 _ hp rfl
  subst hc
  right
  rename_i y0 y1 y2
  have key := LT_step kZ71_0 hp (fun q hq => loopsAll_in _ _ _ _ hp hq) (fun ((y0,y1,y2):(List Int)×Int×Int) => (hZ71_0 y0 y1 y2)) (xZ71_0) (g_SZ71_0) (fun x => by first | exact bZ71_0 x.1 x.2.1 x.2.2) n (x := (y0,y1,y2)) (okO_some e1)
  have hx:∀ r,XT.sel (.leaf (.exit 0) [(.T 0,.t (.val false [.row 0 0 0])),(.R 0 0,.r 0 (some ⟨false,.any,true,3,(.int .i64),r.1⟩)),(.T 1,.t (.val false [.int .i64 r.2]))]) = xZ71_0 r := fun r => by first | rfl | rcases r with r | r <;> rfl | rcases r with r | r | r <;> rfl | rcases r with r | r | r | r <;> rfl
  have h3 := (hx (valO (g_LZ71_0 (y0,y1,y2)))).symm.trans h2
  have e3 := congrArg Prod.fst h3
  have e4 := congrArg Prod.snd h3
  simp only at e3 e4
  rw [← e3,← e4]
  exact key
 ·exact .inl ⟨xt,h1,h2⟩)
noncomputable def g_AZ71 (a0:List Int) (a1:Int):Bool := okO (g_LZ71_0 (a0,a1,(0:Int)))
noncomputable def g_VZ71_0 (a0:List Int) (a1:Int):Int := (valO (g_LZ71_0 (a0,a1,(0:Int)))).2
noncomputable def g_VZ71_1 (a0:List Int) (a1:Int):List Int := (valO (g_LZ71_0 (a0,a1,(0:Int)))).1
noncomputable def FZ71:FSem := fun ys => match ys with
 | [.val false [.own .any true 3 (.int .i64) a0],.val false [.int .i64 a1]] => some ((g_AZ71 a0 a1),.val false [.int .i64 (g_VZ71_0 a0 a1)],[[.own .any true 3 (.int .i64) (g_VZ71_1 a0 a1)]])
 | _ => none
theorem vZ71 (a0:List Int) (a1:Int):collapseH .std EZ71 OZ71_1 (execFn EZ71 Tryz.f106 msZ71 [.val false [.own .any true 3 (.int .i64) a0],.val false [.int .i64 a1]]) = some ((g_AZ71 a0 a1),.val false [.int .i64 (g_VZ71_0 a0 a1)],[[.own .any true 3 (.int .i64) (g_VZ71_1 a0 a1)]]) := by kernel_rfl
theorem sZ71:Sound Tryz.prog 106 msZ71 FZ71 := by
 refine fn_gen goodZ71 (by kernel_rfl) .std (fn := Tryz.f106) (c := (Tryz.f106.body.getD .skip)) (o := OZ71_1) (k := 1) (by kernel_rfl) (by kernel_rfl) (by kernel_rfl) (by kernel_rfl) (by decide) kZ71_1 ?_
 intro ys r outs h
 unfold FZ71 at h
 split at h
 ·exact (vZ71 _ _).trans h
 ·cases h
noncomputable def EZ43:Env where
 tt := mkTI Tryz.prog
 fn := fun f => match f with
  | 106 => some (msZ71,FSem.wk msZ71 FZ71)
  | _ => none
 bxf := fun _ => none
 mv := []
 keep := fun b => match b with
  | 0 => [(0,false),(1,false),(5,false)]
  | _ => []
 keepB := fun b => match b with
  | 0 => []
  | _ => []
 keepX := fun b => match b with
  | 0 => [(0,false),(1,false)]
  | _ => []
 keepXB := fun b => match b with
  | 0 => []
  | _ => []
 nest := [88,95]
theorem goodFZ43:∀ f ms F,EZ43.fn f = some (ms,F) → Sound Tryz.prog f ms F := fun f ms F h => by
 unfold EZ43 at h
 dsimp only at h
 split at h
 ·exact gF sZ71 h
 ·cases h
theorem goodZ43:Good Tryz.prog EZ43 := ⟨rfl,goodFZ43,fun f ms F h => by cases h⟩
noncomputable def OZ43_0:Orc := fun _ _ => none
noncomputable def msZ43:List PM := [.«mut»,.own]
noncomputable def lsZ43:List (Nat×Code) := loopsAll 0 (Tryz.f45.body.getD .skip)
noncomputable def cZ43_0:Code := (loopOf 0 (Tryz.f45.body.getD .skip)).getD .skip
theorem lseqZ43:lsZ43 = [(0,cZ43_0)] := by kernel_rfl
theorem mZ43_0:∀ p,p ∈ lsZ43 → p.1 = 0 → p.2 = cZ43_0 := by
 intro p hp
 rw [lseqZ43] at hp
 simp only [List.mem_cons,List.not_mem_nil,or_false] at hp
 subst hp; simp
theorem kZ43_0:OrcOk EZ43 OZ43_0 lsZ43 0 := orcOk_none
noncomputable def hZ43_0 (y0:tL1) (y1:Int) (y2:Int):List (Pl×LV) := [(.T 0,.t (.val false [.row 0 0 0])),(.R 0 0,.r 0 (some ⟨false,.any,true,73,(.pair (.int .i64) (.pair (.pair (.int .i64) (.pair (.int .i64) (.pair (.int .i64) (.pair (.int .i64) (.pair (.int .i64) (.pair (.int .i64) (.int .i64))))))) (.pair .bool (.pair (.sl 3 (.int .i64)) (.sl 3 (.int .i64)))))),y0⟩)),(.T 1,.t (.val false [.int .i64 y1])),(.T 5,.t (.val false [.int .i64 y2]))]
noncomputable abbrev uq1250 (y0:tL1) (y1 y2:Int):tL1 := updE yT0 y0 (Int.toNat y2) fun x => (y1,(x.2.1.1,x.2.1.2.1,x.2.1.2.2.1,x.2.1.2.2.2.1,x.2.1.2.2.2.2.1,x.2.1.2.2.2.2.2.1,x.2.1.2.2.2.2.2.2),x.2.2.1,x.2.2.2.1,x.2.2.2.2)
noncomputable abbrev uq1251 (y0:tL1) (y1 y2:Int):tL1 := updE yT0 (uq1250 y0 y1 y2) (Int.toNat y2) fun x => (x.1,(IntKind.i64.wrap (y1 + 1),x.2.1.2.1,x.2.1.2.2.1,x.2.1.2.2.2.1,x.2.1.2.2.2.2.1,x.2.1.2.2.2.2.2.1,x.2.1.2.2.2.2.2.2),x.2.2.1,x.2.2.2.1,x.2.2.2.2)
noncomputable abbrev uq1252 (y0:tL1) (y1 y2:Int):tL1 := updE yT0 (uq1251 y0 y1 y2) (Int.toNat y2) fun x => (x.1,(x.2.1.1,IntKind.i64.wrap (IntKind.i64.wrap (y1 + 1) + 1),x.2.1.2.2.1,x.2.1.2.2.2.1,x.2.1.2.2.2.2.1,x.2.1.2.2.2.2.2.1,x.2.1.2.2.2.2.2.2),x.2.2.1,x.2.2.2.1,x.2.2.2.2)
noncomputable abbrev uq1253 (y0:tL1) (y1 y2:Int):tL1 := updE yT0 (uq1252 y0 y1 y2) (Int.toNat y2) fun x => (x.1,(x.2.1.1,x.2.1.2.1,IntKind.i64.wrap (IntKind.i64.wrap (IntKind.i64.wrap (y1 + 1) + 1) + 1),x.2.1.2.2.2.1,x.2.1.2.2.2.2.1,x.2.1.2.2.2.2.2.1,x.2.1.2.2.2.2.2.2),x.2.2.1,x.2.2.2.1,x.2.2.2.2)
noncomputable abbrev uq1254 (y0:tL1) (y1 y2:Int):tL1 := updE yT0 (uq1253 y0 y1 y2) (Int.toNat y2) fun x => (x.1,(x.2.1.1,x.2.1.2.1,x.2.1.2.2.1,IntKind.i64.wrap (IntKind.i64.wrap (IntKind.i64.wrap (IntKind.i64.wrap (y1 + 1) + 1) + 1) + 1),x.2.1.2.2.2.2.1,x.2.1.2.2.2.2.2.1,x.2.1.2.2.2.2.2.2),x.2.2.1,x.2.2.2.1,x.2.2.2.2)
noncomputable abbrev uq1255 (y0:tL1) (y1 y2:Int):tL1 := updE yT0 (uq1254 y0 y1 y2) (Int.toNat y2) fun x => (x.1,(x.2.1.1,x.2.1.2.1,x.2.1.2.2.1,x.2.1.2.2.2.1,IntKind.i64.wrap (IntKind.i64.wrap (IntKind.i64.wrap (IntKind.i64.wrap (IntKind.i64.wrap (y1 + 1) + 1) + 1) + 1) + 1),x.2.1.2.2.2.2.2.1,x.2.1.2.2.2.2.2.2),x.2.2.1,x.2.2.2.1,x.2.2.2.2)
noncomputable abbrev uq1256 (y0:tL1) (y1 y2:Int):tL1 := updE yT0 (uq1255 y0 y1 y2) (Int.toNat y2) fun x => (x.1,(x.2.1.1,x.2.1.2.1,x.2.1.2.2.1,x.2.1.2.2.2.1,x.2.1.2.2.2.2.1,IntKind.i64.wrap (IntKind.i64.wrap (IntKind.i64.wrap (IntKind.i64.wrap (IntKind.i64.wrap (IntKind.i64.wrap (y1 + 1) + 1) + 1) + 1) + 1) + 1),x.2.1.2.2.2.2.2.2),x.2.2.1,x.2.2.2.1,x.2.2.2.2)
noncomputable abbrev uq1257 (y0:tL1) (y1 y2:Int):tL1 := updE yT0 (uq1256 y0 y1 y2) (Int.toNat y2) fun x => (x.1,(x.2.1.1,x.2.1.2.1,x.2.1.2.2.1,x.2.1.2.2.2.1,x.2.1.2.2.2.2.1,x.2.1.2.2.2.2.2.1,IntKind.i64.wrap (IntKind.i64.wrap (IntKind.i64.wrap (IntKind.i64.wrap (IntKind.i64.wrap (IntKind.i64.wrap (IntKind.i64.wrap (y1 + 1) + 1) + 1) + 1) + 1) + 1) + 1)),x.2.2.1,x.2.2.2.1,x.2.2.2.2)
noncomputable abbrev uq1258 (y0:tL1) (y1 y2:Int):tL1 := updE yT0 (uq1257 y0 y1 y2) (Int.toNat y2) fun x => (x.1,(x.2.1.1,x.2.1.2.1,x.2.1.2.2.1,x.2.1.2.2.2.1,x.2.1.2.2.2.2.1,x.2.1.2.2.2.2.2.1,x.2.1.2.2.2.2.2.2),Int.tmod (IntKind.i64.wrap (IntKind.i64.wrap (IntKind.i64.wrap (IntKind.i64.wrap (IntKind.i64.wrap (IntKind.i64.wrap (IntKind.i64.wrap (IntKind.i64.wrap (y1 + 1) + 1) + 1) + 1) + 1) + 1) + 1) + 1)) (3:Int) == (0:Int),x.2.2.2.1,x.2.2.2.2)
noncomputable abbrev uq1259 (y0:tL1) (y1 y2:Int):tL1 := updE yT0 (uq1258 y0 y1 y2) (Int.toNat y2) fun q => (q.1,(q.2.1.1,q.2.1.2.1,q.2.1.2.2.1,q.2.1.2.2.2.1,q.2.1.2.2.2.2.1,q.2.1.2.2.2.2.2.1,q.2.1.2.2.2.2.2.2),q.2.2.1,g_VZ71_1 q.2.2.2.1 (IntKind.i64.wrap (IntKind.i64.wrap (IntKind.i64.wrap (IntKind.i64.wrap (IntKind.i64.wrap (IntKind.i64.wrap (IntKind.i64.wrap (IntKind.i64.wrap (IntKind.i64.wrap (y1 + 1) + 1) + 1) + 1) + 1) + 1) + 1) + 1) + 1)),q.2.2.2.2)
noncomputable def g_SZ43_0:(tL1×Int×Int) → RT (tL1×Int×Int) ((tL1×Int))
 | (y0,y1,y2) => .br (true) (.br (decide (y2 < (y0.length:Int))) (.br (decide (0 ≤ y2 ∧ y2 < (y0.length:Int))) (.br (decide (Int.toNat y2 < List.length y0)) (.br (true) (.br (decide (0 ≤ y2 ∧ y2 < (↑(List.length (uq1250 y0 y1 y2)):Int))) (.br (decide (Int.toNat y2 < List.length (uq1250 y0 y1 y2))) (.br (true) (.br (decide (0 ≤ y2 ∧ y2 < (↑(List.length (uq1251 y0 y1 y2)):Int))) (.br (decide (Int.toNat y2 < List.length (uq1251 y0 y1 y2))) (.br (true) (.br (decide (0 ≤ y2 ∧ y2 < (↑(List.length (uq1252 y0 y1 y2)):Int))) (.br (decide (Int.toNat y2 < List.length (uq1252 y0 y1 y2))) (.br (true) (.br (decide (0 ≤ y2 ∧ y2 < (↑(List.length (uq1253 y0 y1 y2)):Int))) (.br (decide (Int.toNat y2 < List.length (uq1253 y0 y1 y2))) (.br (true) (.br (decide (0 ≤ y2 ∧ y2 < (↑(List.length (uq1254 y0 y1 y2)):Int))) (.br (decide (Int.toNat y2 < List.length (uq1254 y0 y1 y2))) (.br (true) (.br (decide (0 ≤ y2 ∧ y2 < (↑(List.length (uq1255 y0 y1 y2)):Int))) (.br (decide (Int.toNat y2 < List.length (uq1255 y0 y1 y2))) (.br (true) (.br (decide (0 ≤ y2 ∧ y2 < (↑(List.length (uq1256 y0 y1 y2)):Int))) (.br (decide (Int.toNat y2 < List.length (uq1256 y0 y1 y2))) (.br (true) (.br (true) (.br (true) (.br (decide (0 ≤ y2 ∧ y2 < (↑(List.length (uq1257 y0 y1 y2)):Int))) (.br (decide (Int.toNat y2 < List.length (uq1257 y0 y1 y2))) (.br (true) (.br (decide (0 ≤ y2 ∧ y2 < (↑(List.length (uq1258 y0 y1 y2)):Int))) (.br (decide (Int.toNat y2 < List.length (uq1258 y0 y1 y2))) (.br (g_AZ71 (at_ yT0 (uq1258 y0 y1 y2) (Int.toNat y2)).2.2.2.1 (IntKind.i64.wrap (IntKind.i64.wrap (IntKind.i64.wrap (IntKind.i64.wrap (IntKind.i64.wrap (IntKind.i64.wrap (IntKind.i64.wrap (IntKind.i64.wrap (IntKind.i64.wrap (y1 + 1) + 1) + 1) + 1) + 1) + 1) + 1) + 1) + 1))) (.br (decide (0 ≤ y2 ∧ y2 < (↑(List.length (uq1259 y0 y1 y2)):Int))) (.br (decide (Int.toNat y2 < List.length (uq1259 y0 y1 y2))) (.br (g_AZ71 (at_ yT0 (uq1259 y0 y1 y2) (Int.toNat y2)).2.2.2.2 (g_VZ71_0 (at_ yT0 (uq1258 y0 y1 y2) (Int.toNat y2)).2.2.2.1 (IntKind.i64.wrap (IntKind.i64.wrap (IntKind.i64.wrap (IntKind.i64.wrap (IntKind.i64.wrap (IntKind.i64.wrap (IntKind.i64.wrap (IntKind.i64.wrap (IntKind.i64.wrap (y1 + 1) + 1) + 1) + 1) + 1) + 1) + 1) + 1) + 1)))) (.br (true) (.go ((updE yT0 (uq1259 y0 y1 y2) (Int.toNat y2) fun q => (q.1,(q.2.1.1,q.2.1.2.1,q.2.1.2.2.1,q.2.1.2.2.2.1,q.2.1.2.2.2.2.1,q.2.1.2.2.2.2.2.1,q.2.1.2.2.2.2.2.2),q.2.2.1,q.2.2.2.1,g_VZ71_1 q.2.2.2.2 (g_VZ71_0 (at_ yT0 (uq1258 y0 y1 y2) (Int.toNat y2)).2.2.2.1 (IntKind.i64.wrap (IntKind.i64.wrap (IntKind.i64.wrap (IntKind.i64.wrap (IntKind.i64.wrap (IntKind.i64.wrap (IntKind.i64.wrap (IntKind.i64.wrap (IntKind.i64.wrap (y1 + 1) + 1) + 1) + 1) + 1) + 1) + 1) + 1) + 1)))),g_VZ71_0 (at_ yT0 (uq1259 y0 y1 y2) (Int.toNat y2)).2.2.2.2 (g_VZ71_0 (at_ yT0 (uq1258 y0 y1 y2) (Int.toNat y2)).2.2.2.1 (IntKind.i64.wrap (IntKind.i64.wrap (IntKind.i64.wrap (IntKind.i64.wrap (IntKind.i64.wrap (IntKind.i64.wrap (IntKind.i64.wrap (IntKind.i64.wrap (IntKind.i64.wrap (y1 + 1) + 1) + 1) + 1) + 1) + 1) + 1) + 1) + 1))),IntKind.i64.wrap (y2 + 1)))) .bad) .bad) .bad) .bad) .bad) .bad) .bad) .bad) .bad) .bad) .bad) .bad) .bad) .bad) .bad) .bad) .bad) .bad) .bad) .bad) .bad) .bad) .bad) .bad) .bad) .bad) .bad) .bad) .bad) .bad) .bad) .bad) .bad) .bad) .bad) .bad) (.out ((y0,y1)))) .bad
noncomputable def g_LZ43_0 (x:tL1×Int×Int):Option ((tL1×Int)) := loopO (g_SZ43_0) x
noncomputable def xZ43_0:((tL1×Int)) → Ex×List (Pl×LV) := fun r => (.exit 0,[(.T 0,.t (.val false [.row 0 0 0])),(.R 0 0,.r 0 (some ⟨false,.any,true,73,(.pair (.int .i64) (.pair (.pair (.int .i64) (.pair (.int .i64) (.pair (.int .i64) (.pair (.int .i64) (.pair (.int .i64) (.pair (.int .i64) (.int .i64))))))) (.pair .bool (.pair (.sl 3 (.int .i64)) (.sl 3 (.int .i64)))))),r.1⟩)),(.T 1,.t (.val false [.int .i64 r.2]))])
noncomputable def OZ43_1:Orc := fun b h => match b,h with
 | 0,[(.T 0,.t (.val false [.row 0 0 0])),(.R 0 0,.r 0 (some ⟨false,.any,true,73,(.pair (.int .i64) (.pair (.pair (.int .i64) (.pair (.int .i64) (.pair (.int .i64) (.pair (.int .i64) (.pair (.int .i64) (.pair (.int .i64) (.int .i64))))))) (.pair .bool (.pair (.sl 3 (.int .i64)) (.sl 3 (.int .i64)))))),y0⟩)),(.T 1,.t (.val false [.int .i64 y1])),(.T 5,.t (.val false [.int .i64 y2]))] => some (okO (g_LZ43_0 (y0,y1,y2)),(.leaf (.exit 0) [(.T 0,.t (.val false [.row 0 0 0])),(.R 0 0,.r 0 (some ⟨false,.any,true,73,(.pair (.int .i64) (.pair (.pair (.int .i64) (.pair (.int .i64) (.pair (.int .i64) (.pair (.int .i64) (.pair (.int .i64) (.pair (.int .i64) (.int .i64))))))) (.pair .bool (.pair (.sl 3 (.int .i64)) (.sl 3 (.int .i64)))))),(valO (g_LZ43_0 (y0,y1,y2))).1⟩)),(.T 1,.t (.val false [.int .i64 (valO (g_LZ43_0 (y0,y1,y2))).2]))]))
 | b,h => OZ43_0 b h
theorem bZ43_0 (y0:tL1) (y1:Int) (y2:Int):Tr.bt EZ43 OZ43_0 (exec EZ43 0 cZ43_0 (St.of (hZ43_0 y0 y1 y2)) (leafRd EZ43 0)) = (g_SZ43_0 (y0,y1,y2)).bt (fun ((y0,y1,y2):tL1×Int×Int) => (hZ43_0 y0 y1 y2)) (xZ43_0) := by kernel_rfl
theorem kZ43_1:OrcOk EZ43 OZ43_1 lsZ43 1 := orc_add kZ43_0 (fun n p hp h ex h' ho => by
 obtain ⟨b,c⟩ := p
 obtain ⟨xt,h1,h2⟩ := ho
 have h1:OZ43_1 b h = some (true,xt) := h1
 unfold OZ43_1 at h1
 split at h1
 ·injection h1 with h1
  injection h1 with e1 e2
  subst e2
  have hc:c = cZ43_0 := mZ43_0 _ hp rfl
  subst hc
  right
  rename_i y0 y1 y2
  have key := LT_step kZ43_0 hp (fun q hq => loopsAll_in _ _ _ _ hp hq) (fun ((y0,y1,y2):tL1×Int×Int) => (hZ43_0 y0 y1 y2)) (xZ43_0) (g_SZ43_0) (fun x => by first | exact bZ43_0 x.1 x.2.1 x.2.2) n (x := (y0,y1,y2)) (okO_some e1)
  have hx:∀ r,XT.sel (.leaf (.exit 0) [(.T 0,.t (.val false [.row 0 0 0])),(.R 0 0,.r 0 (some ⟨false,.any,true,73,(.pair (.int .i64) (.pair (.pair (.int .i64) (.pair (.int .i64) (.pair (.int .i64) (.pair (.int .i64) (.pair (.int .i64) (.pair (.int .i64) (.int .i64))))))) (.pair .bool (.pair (.sl 3 (.int .i64)) (.sl 3 (.int .i64)))))),r.1⟩)),(.T 1,.t (.val false [.int .i64 r.2]))]) = xZ43_0 r := fun r => by first | rfl | rcases r with r | r <;> rfl | rcases r with r | r | r <;> rfl | rcases r with r | r | r | r <;> rfl
  have h3 := (hx (valO (g_LZ43_0 (y0,y1,y2)))).symm.trans h2
  have e3 := congrArg Prod.fst h3
  have e4 := congrArg Prod.snd h3
  simp only at e3 e4
  rw [← e3,← e4]
  exact key
 ·exact .inl ⟨xt,h1,h2⟩)
noncomputable def g_AZ43 (a0:tL1) (a1:Int):Bool := okO (g_LZ43_0 (a0,a1,(0:Int)))
noncomputable def g_VZ43_0 (a0:tL1) (a1:Int):Int := (valO (g_LZ43_0 (a0,a1,(0:Int)))).2
noncomputable def g_VZ43_1 (a0:tL1) (a1:Int):tL1 := (valO (g_LZ43_0 (a0,a1,(0:Int)))).1
noncomputable def FZ43:FSem := fun ys => match ys with
 | [.val false [.own .any true 73 (.pair (.int .i64) (.pair (.pair (.int .i64) (.pair (.int .i64) (.pair (.int .i64) (.pair (.int .i64) (.pair (.int .i64) (.pair (.int .i64) (.int .i64))))))) (.pair .bool (.pair (.sl 3 (.int .i64)) (.sl 3 (.int .i64)))))) a0],.val false [.int .i64 a1]] => some ((g_AZ43 a0 a1),.val false [.int .i64 (g_VZ43_0 a0 a1)],[[.own .any true 73 (.pair (.int .i64) (.pair (.pair (.int .i64) (.pair (.int .i64) (.pair (.int .i64) (.pair (.int .i64) (.pair (.int .i64) (.pair (.int .i64) (.int .i64))))))) (.pair .bool (.pair (.sl 3 (.int .i64)) (.sl 3 (.int .i64)))))) (g_VZ43_1 a0 a1)]])
 | _ => none
theorem vZ43 (a0:tL1) (a1:Int):collapseH .std EZ43 OZ43_1 (execFn EZ43 Tryz.f45 msZ43 [.val false [.own .any true 73 (.pair (.int .i64) (.pair (.pair (.int .i64) (.pair (.int .i64) (.pair (.int .i64) (.pair (.int .i64) (.pair (.int .i64) (.pair (.int .i64) (.int .i64))))))) (.pair .bool (.pair (.sl 3 (.int .i64)) (.sl 3 (.int .i64)))))) a0],.val false [.int .i64 a1]]) = some ((g_AZ43 a0 a1),.val false [.int .i64 (g_VZ43_0 a0 a1)],[[.own .any true 73 (.pair (.int .i64) (.pair (.pair (.int .i64) (.pair (.int .i64) (.pair (.int .i64) (.pair (.int .i64) (.pair (.int .i64) (.pair (.int .i64) (.int .i64))))))) (.pair .bool (.pair (.sl 3 (.int .i64)) (.sl 3 (.int .i64)))))) (g_VZ43_1 a0 a1)]]) := by kernel_rfl
theorem sZ43:Sound Tryz.prog 45 msZ43 FZ43 := by
 refine fn_gen goodZ43 (by kernel_rfl) .std (fn := Tryz.f45) (c := (Tryz.f45.body.getD .skip)) (o := OZ43_1) (k := 1) (by kernel_rfl) (by kernel_rfl) (by kernel_rfl) (by kernel_rfl) (by decide) kZ43_1 ?_
 intro ys r outs h
 unfold FZ43 at h
 split at h
 ·exact (vZ43 _ _).trans h
 ·cases h
noncomputable def EZ25:Env where
 tt := mkTI Tryz.prog
 fn := fun f => match f with
  | 106 => some (msZ71,FSem.wk msZ71 FZ71)
  | 168 => some (msZ70,FSem.wk msZ70 FZ70)
  | _ => none
 bxf := fun _ => none
 mv := []
 keep := fun b => match b with
  | 0 => [(0,false),(1,false),(5,false)]
  | _ => []
 keepB := fun b => match b with
  | 0 => []
  | _ => []
 keepX := fun b => match b with
  | 0 => [(0,false),(1,false)]
  | _ => []
 keepXB := fun b => match b with
  | 0 => []
  | _ => []
 nest := [33]
theorem goodFZ25:∀ f ms F,EZ25.fn f = some (ms,F) → Sound Tryz.prog f ms F := fun f ms F h => by
 unfold EZ25 at h
 dsimp only at h
 split at h
 ·exact gF sZ71 h
 ·exact gF sZ70 h
 ·cases h
theorem goodZ25:Good Tryz.prog EZ25 := ⟨rfl,goodFZ25,fun f ms F h => by cases h⟩
noncomputable def OZ25_0:Orc := fun _ _ => none
noncomputable def msZ25:List PM := [.«mut»,.own]
noncomputable def lsZ25:List (Nat×Code) := loopsAll 0 (Tryz.f144.body.getD .skip)
noncomputable def cZ25_0:Code := (loopOf 0 (Tryz.f144.body.getD .skip)).getD .skip
theorem lseqZ25:lsZ25 = [(0,cZ25_0)] := by kernel_rfl
theorem mZ25_0:∀ p,p ∈ lsZ25 → p.1 = 0 → p.2 = cZ25_0 := by
 intro p hp
 rw [lseqZ25] at hp
 simp only [List.mem_cons,List.not_mem_nil,or_false] at hp
 subst hp; simp
theorem kZ25_0:OrcOk EZ25 OZ25_0 lsZ25 0 := orcOk_none
noncomputable def hZ25_0 (y0:tL2) (y1:Int) (y2:Int):List (Pl×LV) := [(.T 0,.t (.val false [.row 0 0 0])),(.R 0 0,.r 0 (some ⟨false,.any,true,155,(.pair .str (.pair .bool (.sl 3 (.int .i64)))),y0⟩)),(.T 1,.t (.val false [.int .i64 y1])),(.T 5,.t (.val false [.int .i64 y2]))]
noncomputable abbrev uq1260 (y0:tL2) (y1 y2:Int):tL2 := updE yT2 y0 (Int.toNat y2) fun x => (g_VZ70_0 y1,x.2.1,x.2.2)
noncomputable abbrev uq1261 (y0:tL2) (y1 y2:Int):tL2 := updE yT2 (uq1260 y0 y1 y2) (Int.toNat y2) fun x => (x.1,Int.tmod (IntKind.i64.wrap (y1 + 1)) (3:Int) == (0:Int),x.2.2)
noncomputable def g_SZ25_0:(tL2×Int×Int) → RT (tL2×Int×Int) ((tL2×Int))
 | (y0,y1,y2) => .br (true) (.br (decide (y2 < (y0.length:Int))) (.br (g_AZ70 y1) (.br (decide (0 ≤ y2 ∧ y2 < (y0.length:Int))) (.br (decide (Int.toNat y2 < List.length y0)) (.br (true) (.br (true) (.br (true) (.br (decide (0 ≤ y2 ∧ y2 < (↑(List.length (uq1260 y0 y1 y2)):Int))) (.br (decide (Int.toNat y2 < List.length (uq1260 y0 y1 y2))) (.br (true) (.br (decide (0 ≤ y2 ∧ y2 < (↑(List.length (uq1261 y0 y1 y2)):Int))) (.br (decide (Int.toNat y2 < List.length (uq1261 y0 y1 y2))) (.br (g_AZ71 (at_ yT2 (uq1261 y0 y1 y2) (Int.toNat y2)).2.2 (IntKind.i64.wrap (IntKind.i64.wrap (y1 + 1) + 1))) (.br (true) (.go ((updE yT2 (uq1261 y0 y1 y2) (Int.toNat y2) fun q => (q.1,q.2.1,g_VZ71_1 q.2.2 (IntKind.i64.wrap (IntKind.i64.wrap (y1 + 1) + 1))),g_VZ71_0 (at_ yT2 (uq1261 y0 y1 y2) (Int.toNat y2)).2.2 (IntKind.i64.wrap (IntKind.i64.wrap (y1 + 1) + 1)),IntKind.i64.wrap (y2 + 1)))) .bad) .bad) .bad) .bad) .bad) .bad) .bad) .bad) .bad) .bad) .bad) .bad) .bad) (.out ((y0,y1)))) .bad
noncomputable def g_LZ25_0 (x:tL2×Int×Int):Option ((tL2×Int)) := loopO (g_SZ25_0) x
noncomputable def xZ25_0:((tL2×Int)) → Ex×List (Pl×LV) := fun r => (.exit 0,[(.T 0,.t (.val false [.row 0 0 0])),(.R 0 0,.r 0 (some ⟨false,.any,true,155,(.pair .str (.pair .bool (.sl 3 (.int .i64)))),r.1⟩)),(.T 1,.t (.val false [.int .i64 r.2]))])
noncomputable def OZ25_1:Orc := fun b h => match b,h with
 | 0,[(.T 0,.t (.val false [.row 0 0 0])),(.R 0 0,.r 0 (some ⟨false,.any,true,155,(.pair .str (.pair .bool (.sl 3 (.int .i64)))),y0⟩)),(.T 1,.t (.val false [.int .i64 y1])),(.T 5,.t (.val false [.int .i64 y2]))] => some (okO (g_LZ25_0 (y0,y1,y2)),(.leaf (.exit 0) [(.T 0,.t (.val false [.row 0 0 0])),(.R 0 0,.r 0 (some ⟨false,.any,true,155,(.pair .str (.pair .bool (.sl 3 (.int .i64)))),(valO (g_LZ25_0 (y0,y1,y2))).1⟩)),(.T 1,.t (.val false [.int .i64 (valO (g_LZ25_0 (y0,y1,y2))).2]))]))
 | b,h => OZ25_0 b h
theorem bZ25_0 (y0:tL2) (y1:Int) (y2:Int):Tr.bt EZ25 OZ25_0 (exec EZ25 0 cZ25_0 (St.of (hZ25_0 y0 y1 y2)) (leafRd EZ25 0)) = (g_SZ25_0 (y0,y1,y2)).bt (fun ((y0,y1,y2):tL2×Int×Int) => (hZ25_0 y0 y1 y2)) (xZ25_0) := by kernel_rfl
theorem kZ25_1:OrcOk EZ25 OZ25_1 lsZ25 1 := orc_add kZ25_0 (fun n p hp h ex h' ho => by
 obtain ⟨b,c⟩ := p
 obtain ⟨xt,h1,h2⟩ := ho
 have h1:OZ25_1 b h = some (true,xt) := h1
 unfold OZ25_1 at h1
 split at h1
 ·injection h1 with h1
  injection h1 with e1 e2
  subst e2
  have hc:c = cZ25_0 := mZ25_0 _ hp rfl
  subst hc
  right
  rename_i y0 y1 y2
  have key := LT_step kZ25_0 hp (fun q hq => loopsAll_in _ _ _ _ hp hq) (fun ((y0,y1,y2):tL2×Int×Int) => (hZ25_0 y0 y1 y2)) (xZ25_0) (g_SZ25_0) (fun x => by first | exact bZ25_0 x.1 x.2.1 x.2.2) n (x := (y0,y1,y2)) (okO_some e1)
  have hx:∀ r,XT.sel (.leaf (.exit 0) [(.T 0,.t (.val false [.row 0 0 0])),(.R 0 0,.r 0 (some ⟨false,.any,true,155,(.pair .str (.pair .bool (.sl 3 (.int .i64)))),r.1⟩)),(.T 1,.t (.val false [.int .i64 r.2]))]) = xZ25_0 r := fun r => by first | rfl | rcases r with r | r <;> rfl | rcases r with r | r | r <;> rfl | rcases r with r | r | r | r <;> rfl
  have h3 := (hx (valO (g_LZ25_0 (y0,y1,y2)))).symm.trans h2
  have e3 := congrArg Prod.fst h3
  have e4 := congrArg Prod.snd h3
  simp only at e3 e4
  rw [← e3,← e4]
  exact key
 ·exact .inl ⟨xt,h1,h2⟩)
noncomputable def g_AZ25 (a0:tL2) (a1:Int):Bool := okO (g_LZ25_0 (a0,a1,(0:Int)))
noncomputable def g_VZ25_0 (a0:tL2) (a1:Int):Int := (valO (g_LZ25_0 (a0,a1,(0:Int)))).2
noncomputable def g_VZ25_1 (a0:tL2) (a1:Int):tL2 := (valO (g_LZ25_0 (a0,a1,(0:Int)))).1
noncomputable def FZ25:FSem := fun ys => match ys with
 | [.val false [.own .any true 155 (.pair .str (.pair .bool (.sl 3 (.int .i64)))) a0],.val false [.int .i64 a1]] => some ((g_AZ25 a0 a1),.val false [.int .i64 (g_VZ25_0 a0 a1)],[[.own .any true 155 (.pair .str (.pair .bool (.sl 3 (.int .i64)))) (g_VZ25_1 a0 a1)]])
 | _ => none
theorem vZ25 (a0:tL2) (a1:Int):collapseH .std EZ25 OZ25_1 (execFn EZ25 Tryz.f144 msZ25 [.val false [.own .any true 155 (.pair .str (.pair .bool (.sl 3 (.int .i64)))) a0],.val false [.int .i64 a1]]) = some ((g_AZ25 a0 a1),.val false [.int .i64 (g_VZ25_0 a0 a1)],[[.own .any true 155 (.pair .str (.pair .bool (.sl 3 (.int .i64)))) (g_VZ25_1 a0 a1)]]) := by kernel_rfl
theorem sZ25:Sound Tryz.prog 144 msZ25 FZ25 := by
 refine fn_gen goodZ25 (by kernel_rfl) .std (fn := Tryz.f144) (c := (Tryz.f144.body.getD .skip)) (o := OZ25_1) (k := 1) (by kernel_rfl) (by kernel_rfl) (by kernel_rfl) (by kernel_rfl) (by decide) kZ25_1 ?_
 intro ys r outs h
 unfold FZ25 at h
 split at h
 ·exact (vZ25 _ _).trans h
 ·cases h
noncomputable def EZ33:Env where
 tt := mkTI Tryz.prog
 fn := fun f => match f with
  | 168 => some (msZ70,FSem.wk msZ70 FZ70)
  | _ => none
 bxf := fun _ => none
 mv := []
 keep := fun b => match b with
  | 0 => [(0,false),(1,false),(5,false)]
  | _ => []
 keepB := fun b => match b with
  | 0 => []
  | _ => []
 keepX := fun b => match b with
  | 0 => [(0,false),(1,false)]
  | _ => []
 keepXB := fun b => match b with
  | 0 => []
  | _ => []
theorem goodFZ33:∀ f ms F,EZ33.fn f = some (ms,F) → Sound Tryz.prog f ms F := fun f ms F h => by
 unfold EZ33 at h
 dsimp only at h
 split at h
 ·exact gF sZ70 h
 ·cases h
theorem goodZ33:Good Tryz.prog EZ33 := ⟨rfl,goodFZ33,fun f ms F h => by cases h⟩
noncomputable def OZ33_0:Orc := fun _ _ => none
noncomputable def msZ33:List PM := [.«mut»,.own]
noncomputable def lsZ33:List (Nat×Code) := loopsAll 0 (Tryz.f143.body.getD .skip)
noncomputable def cZ33_0:Code := (loopOf 0 (Tryz.f143.body.getD .skip)).getD .skip
theorem lseqZ33:lsZ33 = [(0,cZ33_0)] := by kernel_rfl
theorem mZ33_0:∀ p,p ∈ lsZ33 → p.1 = 0 → p.2 = cZ33_0 := by
 intro p hp
 rw [lseqZ33] at hp
 simp only [List.mem_cons,List.not_mem_nil,or_false] at hp
 subst hp; simp
theorem kZ33_0:OrcOk EZ33 OZ33_0 lsZ33 0 := orcOk_none
noncomputable def hZ33_0 (y0:List ByteArray) (y1:Int) (y2:Int):List (Pl×LV) := [(.T 0,.t (.val false [.row 0 0 0])),(.R 0 0,.r 0 (some ⟨false,.any,true,9,.str,y0⟩)),(.T 1,.t (.val false [.int .i64 y1])),(.T 5,.t (.val false [.int .i64 y2]))]
noncomputable def g_SZ33_0:((List ByteArray)×Int×Int) → RT ((List ByteArray)×Int×Int) (((List ByteArray)×Int))
 | (y0,y1,y2) => .br (true) (.br (decide (y2 < (y0.length:Int))) (.br (g_AZ70 y1) (.br (decide (0 ≤ y2 ∧ y2 < (y0.length:Int))) (.br (decide (Int.toNat y2 < List.length y0)) (.br (true) (.br (true) (.go ((List.set y0 (Int.toNat y2) (g_VZ70_0 y1),IntKind.i64.wrap (y1 + 1),IntKind.i64.wrap (y2 + 1)))) .bad) .bad) .bad) .bad) .bad) (.out ((y0,y1)))) .bad
noncomputable def g_LZ33_0 (x:(List ByteArray)×Int×Int):Option (((List ByteArray)×Int)) := loopO (g_SZ33_0) x
noncomputable def xZ33_0:(((List ByteArray)×Int)) → Ex×List (Pl×LV) := fun r => (.exit 0,[(.T 0,.t (.val false [.row 0 0 0])),(.R 0 0,.r 0 (some ⟨false,.any,true,9,.str,r.1⟩)),(.T 1,.t (.val false [.int .i64 r.2]))])
noncomputable def OZ33_1:Orc := fun b h => match b,h with
 | 0,[(.T 0,.t (.val false [.row 0 0 0])),(.R 0 0,.r 0 (some ⟨false,.any,true,9,.str,y0⟩)),(.T 1,.t (.val false [.int .i64 y1])),(.T 5,.t (.val false [.int .i64 y2]))] => some (okO (g_LZ33_0 (y0,y1,y2)),(.leaf (.exit 0) [(.T 0,.t (.val false [.row 0 0 0])),(.R 0 0,.r 0 (some ⟨false,.any,true,9,.str,(valO (g_LZ33_0 (y0,y1,y2))).1⟩)),(.T 1,.t (.val false [.int .i64 (valO (g_LZ33_0 (y0,y1,y2))).2]))]))
 | b,h => OZ33_0 b h
theorem bZ33_0 (y0:List ByteArray) (y1:Int) (y2:Int):Tr.bt EZ33 OZ33_0 (exec EZ33 0 cZ33_0 (St.of (hZ33_0 y0 y1 y2)) (leafRd EZ33 0)) = (g_SZ33_0 (y0,y1,y2)).bt (fun ((y0,y1,y2):(List ByteArray)×Int×Int) => (hZ33_0 y0 y1 y2)) (xZ33_0) := by kernel_rfl
theorem kZ33_1:OrcOk EZ33 OZ33_1 lsZ33 1 := orc_add kZ33_0 (fun n p hp h ex h' ho => by
 obtain ⟨b,c⟩ := p
 obtain ⟨xt,h1,h2⟩ := ho
 have h1:OZ33_1 b h = some (true,xt) := h1
 unfold OZ33_1 at h1
 split at h1
 ·injection h1 with h1
  injection h1 with e1 e2
  subst e2
  have hc:c = cZ33_0 := mZ33_0 _ hp rfl
  subst hc
  right
  rename_i y0 y1 y2
  have key := LT_step kZ33_0 hp (fun q hq => loopsAll_in _ _ _ _ hp hq) (fun ((y0,y1,y2):(List ByteArray)×Int×Int) => (hZ33_0 y0 y1 y2)) (xZ33_0) (g_SZ33_0) (fun x => by first | exact bZ33_0 x.1 x.2.1 x.2.2) n (x := (y0,y1,y2)) (okO_some e1)
  have hx:∀ r,XT.sel (.leaf (.exit 0) [(.T 0,.t (.val false [.row 0 0 0])),(.R 0 0,.r 0 (some ⟨false,.any,true,9,.str,r.1⟩)),(.T 1,.t (.val false [.int .i64 r.2]))]) = xZ33_0 r := fun r => by first | rfl | rcases r with r | r <;> rfl | rcases r with r | r | r <;> rfl | rcases r with r | r | r | r <;> rfl
  have h3 := (hx (valO (g_LZ33_0 (y0,y1,y2)))).symm.trans h2
  have e3 := congrArg Prod.fst h3
  have e4 := congrArg Prod.snd h3
  simp only at e3 e4
  rw [← e3,← e4]
  exact key
 ·exact .inl ⟨xt,h1,h2⟩)
noncomputable def g_AZ33 (a0:List ByteArray) (a1:Int):Bool := okO (g_LZ33_0 (a0,a1,(0:Int)))
noncomputable def g_VZ33_0 (a0:List ByteArray) (a1:Int):Int := (valO (g_LZ33_0 (a0,a1,(0:Int)))).2
noncomputable def g_VZ33_1 (a0:List ByteArray) (a1:Int):List ByteArray := (valO (g_LZ33_0 (a0,a1,(0:Int)))).1
noncomputable def FZ33:FSem := fun ys => match ys with
 | [.val false [.own .any true 9 .str a0],.val false [.int .i64 a1]] => some ((g_AZ33 a0 a1),.val false [.int .i64 (g_VZ33_0 a0 a1)],[[.own .any true 9 .str (g_VZ33_1 a0 a1)]])
 | _ => none
theorem vZ33 (a0:List ByteArray) (a1:Int):collapseH .std EZ33 OZ33_1 (execFn EZ33 Tryz.f143 msZ33 [.val false [.own .any true 9 .str a0],.val false [.int .i64 a1]]) = some ((g_AZ33 a0 a1),.val false [.int .i64 (g_VZ33_0 a0 a1)],[[.own .any true 9 .str (g_VZ33_1 a0 a1)]]) := by kernel_rfl
theorem sZ33:Sound Tryz.prog 143 msZ33 FZ33 := by
 refine fn_gen goodZ33 (by kernel_rfl) .std (fn := Tryz.f143) (c := (Tryz.f143.body.getD .skip)) (o := OZ33_1) (k := 1) (by kernel_rfl) (by kernel_rfl) (by kernel_rfl) (by kernel_rfl) (by decide) kZ33_1 ?_
 intro ys r outs h
 unfold FZ33 at h
 split at h
 ·exact (vZ33 _ _).trans h
 ·cases h
noncomputable def EZ28:Env where
 tt := mkTI Tryz.prog
 fn := fun f => match f with
  | 143 => some (msZ33,FSem.wk msZ33 FZ33)
  | 144 => some (msZ25,FSem.wk msZ25 FZ25)
  | _ => none
 bxf := fun _ => none
 mv := []
 keep := fun b => match b with
  | 0 => [(0,false),(1,false),(5,false)]
  | _ => []
 keepB := fun b => match b with
  | 0 => []
  | _ => []
 keepX := fun b => match b with
  | 0 => [(0,false),(1,false)]
  | _ => []
 keepXB := fun b => match b with
  | 0 => []
  | _ => []
 nest := [30,37]
theorem goodFZ28:∀ f ms F,EZ28.fn f = some (ms,F) → Sound Tryz.prog f ms F := fun f ms F h => by
 unfold EZ28 at h
 dsimp only at h
 split at h
 ·exact gF sZ33 h
 ·exact gF sZ25 h
 ·cases h
theorem goodZ28:Good Tryz.prog EZ28 := ⟨rfl,goodFZ28,fun f ms F h => by cases h⟩
noncomputable def OZ28_0:Orc := fun _ _ => none
noncomputable def msZ28:List PM := [.«mut»,.own]
noncomputable def lsZ28:List (Nat×Code) := loopsAll 0 (Tryz.f105.body.getD .skip)
noncomputable def cZ28_0:Code := (loopOf 0 (Tryz.f105.body.getD .skip)).getD .skip
theorem lseqZ28:lsZ28 = [(0,cZ28_0)] := by kernel_rfl
theorem mZ28_0:∀ p,p ∈ lsZ28 → p.1 = 0 → p.2 = cZ28_0 := by
 intro p hp
 rw [lseqZ28] at hp
 simp only [List.mem_cons,List.not_mem_nil,or_false] at hp
 subst hp; simp
theorem kZ28_0:OrcOk EZ28 OZ28_0 lsZ28 0 := orcOk_none
noncomputable def hZ28_0 (y0:tL0) (y1:Int) (y2:Int):List (Pl×LV) := [(.T 0,.t (.val false [.row 0 0 0])),(.R 0 0,.r 0 (some ⟨false,.any,true,92,(.pair (.int .i64) (.pair (.int .i64) (.pair (.sl 9 .str) (.sl 155 (.pair .str (.pair .bool (.sl 3 (.int .i64)))))))),y0⟩)),(.T 1,.t (.val false [.int .i64 y1])),(.T 5,.t (.val false [.int .i64 y2]))]
noncomputable abbrev uq1280 (y0:tL0) (y1 y2:Int):tL0 := updE yT1 y0 (Int.toNat y2) fun x => (y1,x.2.1,x.2.2.1,x.2.2.2)
noncomputable abbrev uq1281 (y0:tL0) (y1 y2:Int):tL0 := updE yT1 (uq1280 y0 y1 y2) (Int.toNat y2) fun x => (x.1,IntKind.i64.wrap (y1 + 1),x.2.2.1,x.2.2.2)
noncomputable abbrev uq1282 (y0:tL0) (y1 y2:Int):tL0 := updE yT1 (uq1281 y0 y1 y2) (Int.toNat y2) fun q => (q.1,q.2.1,g_VZ33_1 q.2.2.1 (IntKind.i64.wrap (IntKind.i64.wrap (y1 + 1) + 1)),q.2.2.2)
noncomputable def g_SZ28_0:(tL0×Int×Int) → RT (tL0×Int×Int) ((tL0×Int))
 | (y0,y1,y2) => .br (true) (.br (decide (y2 < (y0.length:Int))) (.br (decide (0 ≤ y2 ∧ y2 < (y0.length:Int))) (.br (decide (Int.toNat y2 < List.length y0)) (.br (true) (.br (decide (0 ≤ y2 ∧ y2 < (↑(List.length (uq1280 y0 y1 y2)):Int))) (.br (decide (Int.toNat y2 < List.length (uq1280 y0 y1 y2))) (.br (true) (.br (decide (0 ≤ y2 ∧ y2 < (↑(List.length (uq1281 y0 y1 y2)):Int))) (.br (decide (Int.toNat y2 < List.length (uq1281 y0 y1 y2))) (.br (g_AZ33 (at_ yT1 (uq1281 y0 y1 y2) (Int.toNat y2)).2.2.1 (IntKind.i64.wrap (IntKind.i64.wrap (y1 + 1) + 1))) (.br (decide (0 ≤ y2 ∧ y2 < (↑(List.length (uq1282 y0 y1 y2)):Int))) (.br (decide (Int.toNat y2 < List.length (uq1282 y0 y1 y2))) (.br (g_AZ25 (at_ yT1 (uq1282 y0 y1 y2) (Int.toNat y2)).2.2.2 (g_VZ33_0 (at_ yT1 (uq1281 y0 y1 y2) (Int.toNat y2)).2.2.1 (IntKind.i64.wrap (IntKind.i64.wrap (y1 + 1) + 1)))) (.br (true) (.go ((updE yT1 (uq1282 y0 y1 y2) (Int.toNat y2) fun q => (q.1,q.2.1,q.2.2.1,g_VZ25_1 q.2.2.2 (g_VZ33_0 (at_ yT1 (uq1281 y0 y1 y2) (Int.toNat y2)).2.2.1 (IntKind.i64.wrap (IntKind.i64.wrap (y1 + 1) + 1)))),g_VZ25_0 (at_ yT1 (uq1282 y0 y1 y2) (Int.toNat y2)).2.2.2 (g_VZ33_0 (at_ yT1 (uq1281 y0 y1 y2) (Int.toNat y2)).2.2.1 (IntKind.i64.wrap (IntKind.i64.wrap (y1 + 1) + 1))),IntKind.i64.wrap (y2 + 1)))) .bad) .bad) .bad) .bad) .bad) .bad) .bad) .bad) .bad) .bad) .bad) .bad) .bad) (.out ((y0,y1)))) .bad
noncomputable def g_LZ28_0 (x:tL0×Int×Int):Option ((tL0×Int)) := loopO (g_SZ28_0) x
noncomputable def xZ28_0:((tL0×Int)) → Ex×List (Pl×LV) := fun r => (.exit 0,[(.T 0,.t (.val false [.row 0 0 0])),(.R 0 0,.r 0 (some ⟨false,.any,true,92,(.pair (.int .i64) (.pair (.int .i64) (.pair (.sl 9 .str) (.sl 155 (.pair .str (.pair .bool (.sl 3 (.int .i64)))))))),r.1⟩)),(.T 1,.t (.val false [.int .i64 r.2]))])
noncomputable def OZ28_1:Orc := fun b h => match b,h with
 | 0,[(.T 0,.t (.val false [.row 0 0 0])),(.R 0 0,.r 0 (some ⟨false,.any,true,92,(.pair (.int .i64) (.pair (.int .i64) (.pair (.sl 9 .str) (.sl 155 (.pair .str (.pair .bool (.sl 3 (.int .i64)))))))),y0⟩)),(.T 1,.t (.val false [.int .i64 y1])),(.T 5,.t (.val false [.int .i64 y2]))] => some (okO (g_LZ28_0 (y0,y1,y2)),(.leaf (.exit 0) [(.T 0,.t (.val false [.row 0 0 0])),(.R 0 0,.r 0 (some ⟨false,.any,true,92,(.pair (.int .i64) (.pair (.int .i64) (.pair (.sl 9 .str) (.sl 155 (.pair .str (.pair .bool (.sl 3 (.int .i64)))))))),(valO (g_LZ28_0 (y0,y1,y2))).1⟩)),(.T 1,.t (.val false [.int .i64 (valO (g_LZ28_0 (y0,y1,y2))).2]))]))
 | b,h => OZ28_0 b h
theorem bZ28_0 (y0:tL0) (y1:Int) (y2:Int):Tr.bt EZ28 OZ28_0 (exec EZ28 0 cZ28_0 (St.of (hZ28_0 y0 y1 y2)) (leafRd EZ28 0)) = (g_SZ28_0 (y0,y1,y2)).bt (fun ((y0,y1,y2):tL0×Int×Int) => (hZ28_0 y0 y1 y2)) (xZ28_0) := by kernel_rfl
theorem kZ28_1:OrcOk EZ28 OZ28_1 lsZ28 1 := orc_add kZ28_0 (fun n p hp h ex h' ho => by
 obtain ⟨b,c⟩ := p
 obtain ⟨xt,h1,h2⟩ := ho
 have h1:OZ28_1 b h = some (true,xt) := h1
 unfold OZ28_1 at h1
 split at h1
 ·injection h1 with h1
  injection h1 with e1 e2
  subst e2
  have hc:c = cZ28_0 := mZ28_0 _ hp rfl
  subst hc
  right
  rename_i y0 y1 y2
  have key := LT_step kZ28_0 hp (fun q hq => loopsAll_in _ _ _ _ hp hq) (fun ((y0,y1,y2):tL0×Int×Int) => (hZ28_0 y0 y1 y2)) (xZ28_0) (g_SZ28_0) (fun x => by first | exact bZ28_0 x.1 x.2.1 x.2.2) n (x := (y0,y1,y2)) (okO_some e1)
  have hx:∀ r,XT.sel (.leaf (.exit 0) [(.T 0,.t (.val false [.row 0 0 0])),(.R 0 0,.r 0 (some ⟨false,.any,true,92,(.pair (.int .i64) (.pair (.int .i64) (.pair (.sl 9 .str) (.sl 155 (.pair .str (.pair .bool (.sl 3 (.int .i64)))))))),r.1⟩)),(.T 1,.t (.val false [.int .i64 r.2]))]) = xZ28_0 r := fun r => by first | rfl | rcases r with r | r <;> rfl | rcases r with r | r | r <;> rfl | rcases r with r | r | r | r <;> rfl
  have h3 := (hx (valO (g_LZ28_0 (y0,y1,y2)))).symm.trans h2
  have e3 := congrArg Prod.fst h3
  have e4 := congrArg Prod.snd h3
  simp only at e3 e4
  rw [← e3,← e4]
  exact key
 ·exact .inl ⟨xt,h1,h2⟩)
noncomputable def g_AZ28 (a0:tL0) (a1:Int):Bool := okO (g_LZ28_0 (a0,a1,(0:Int)))
noncomputable def g_VZ28_0 (a0:tL0) (a1:Int):Int := (valO (g_LZ28_0 (a0,a1,(0:Int)))).2
noncomputable def g_VZ28_1 (a0:tL0) (a1:Int):tL0 := (valO (g_LZ28_0 (a0,a1,(0:Int)))).1
noncomputable def FZ28:FSem := fun ys => match ys with
 | [.val false [.own .any true 92 (.pair (.int .i64) (.pair (.int .i64) (.pair (.sl 9 .str) (.sl 155 (.pair .str (.pair .bool (.sl 3 (.int .i64)))))))) a0],.val false [.int .i64 a1]] => some ((g_AZ28 a0 a1),.val false [.int .i64 (g_VZ28_0 a0 a1)],[[.own .any true 92 (.pair (.int .i64) (.pair (.int .i64) (.pair (.sl 9 .str) (.sl 155 (.pair .str (.pair .bool (.sl 3 (.int .i64)))))))) (g_VZ28_1 a0 a1)]])
 | _ => none
theorem vZ28 (a0:tL0) (a1:Int):collapseH .std EZ28 OZ28_1 (execFn EZ28 Tryz.f105 msZ28 [.val false [.own .any true 92 (.pair (.int .i64) (.pair (.int .i64) (.pair (.sl 9 .str) (.sl 155 (.pair .str (.pair .bool (.sl 3 (.int .i64)))))))) a0],.val false [.int .i64 a1]]) = some ((g_AZ28 a0 a1),.val false [.int .i64 (g_VZ28_0 a0 a1)],[[.own .any true 92 (.pair (.int .i64) (.pair (.int .i64) (.pair (.sl 9 .str) (.sl 155 (.pair .str (.pair .bool (.sl 3 (.int .i64)))))))) (g_VZ28_1 a0 a1)]]) := by kernel_rfl
theorem sZ28:Sound Tryz.prog 105 msZ28 FZ28 := by
 refine fn_gen goodZ28 (by kernel_rfl) .std (fn := Tryz.f105) (c := (Tryz.f105.body.getD .skip)) (o := OZ28_1) (k := 1) (by kernel_rfl) (by kernel_rfl) (by kernel_rfl) (by kernel_rfl) (by decide) kZ28_1 ?_
 intro ys r outs h
 unfold FZ28 at h
 split at h
 ·exact (vZ28 _ _).trans h
 ·cases h
noncomputable def EZ34:Env where
 tt := mkTI Tryz.prog
 fn := fun f => match f with
  | 105 => some (msZ28,FSem.wk msZ28 FZ28)
  | _ => none
 bxf := fun _ => none
 mv := []
 keep := fun _ => []
 keepB := fun _ => []
 keepX := fun _ => []
 keepXB := fun _ => []
theorem goodFZ34:∀ f ms F,EZ34.fn f = some (ms,F) → Sound Tryz.prog f ms F := fun f ms F h => by
 unfold EZ34 at h
 dsimp only at h
 split at h
 ·exact gF sZ28 h
 ·cases h
theorem goodZ34:Good Tryz.prog EZ34 := ⟨rfl,goodFZ34,fun f ms F h => by cases h⟩
noncomputable def OZ34_0:Orc := fun _ _ => none
noncomputable def msZ34:List PM := [.«mut»,.own]
noncomputable def lsZ34:List (Nat×Code) := loopsAll 0 (Tryz.f44.body.getD .skip)
theorem kZ34_0:OrcOk EZ34 OZ34_0 lsZ34 0 := orcOk_none
noncomputable def g_AZ34 (a0:tL0) (a1:Int) (a2:Int):Bool := g_AZ28 a0 a2
noncomputable def FZ34:FSem := fun ys => match ys with
 | [.val true [.own .any true 92 (.pair (.int .i64) (.pair (.int .i64) (.pair (.sl 9 .str) (.sl 155 (.pair .str (.pair .bool (.sl 3 (.int .i64)))))))) a0,.int .i64 a1],.val false [.int .i64 a2]] => some ((g_AZ34 a0 a1 a2),.val false [.int .i64 (g_VZ28_0 a0 a2)],[[.own .any true 92 (.pair (.int .i64) (.pair (.int .i64) (.pair (.sl 9 .str) (.sl 155 (.pair .str (.pair .bool (.sl 3 (.int .i64)))))))) (g_VZ28_1 a0 a2),.int .i64 a1]])
 | _ => none
theorem vZ34 (a0:tL0) (a1:Int) (a2:Int):collapseH .std EZ34 OZ34_0 (execFn EZ34 Tryz.f44 msZ34 [.val true [.own .any true 92 (.pair (.int .i64) (.pair (.int .i64) (.pair (.sl 9 .str) (.sl 155 (.pair .str (.pair .bool (.sl 3 (.int .i64)))))))) a0,.int .i64 a1],.val false [.int .i64 a2]]) = some ((g_AZ34 a0 a1 a2),.val false [.int .i64 (g_VZ28_0 a0 a2)],[[.own .any true 92 (.pair (.int .i64) (.pair (.int .i64) (.pair (.sl 9 .str) (.sl 155 (.pair .str (.pair .bool (.sl 3 (.int .i64)))))))) (g_VZ28_1 a0 a2),.int .i64 a1]]) := by kernel_rfl
theorem sZ34:Sound Tryz.prog 44 msZ34 FZ34 := by
 refine fn_gen goodZ34 (by kernel_rfl) .std (fn := Tryz.f44) (c := (Tryz.f44.body.getD .skip)) (o := OZ34_0) (k := 0) (by kernel_rfl) (by kernel_rfl) (by kernel_rfl) (by kernel_rfl) (by decide) kZ34_0 ?_
 intro ys r outs h
 unfold FZ34 at h
 split at h
 ·exact (vZ34 _ _ _).trans h
 ·cases h
noncomputable def EZ29:Env where
 tt := mkTI Tryz.prog
 fn := fun f => match f with
  | 44 => some (msZ34,FSem.wk msZ34 FZ34)
  | 45 => some (msZ43,FSem.wk msZ43 FZ43)
  | _ => none
 bxf := fun _ => none
 mv := []
 keep := fun _ => []
 keepB := fun _ => []
 keepX := fun _ => []
 keepXB := fun _ => []
theorem goodFZ29:∀ f ms F,EZ29.fn f = some (ms,F) → Sound Tryz.prog f ms F := fun f ms F h => by
 unfold EZ29 at h
 dsimp only at h
 split at h
 ·exact gF sZ34 h
 ·exact gF sZ43 h
 ·cases h
theorem goodZ29:Good Tryz.prog EZ29 := ⟨rfl,goodFZ29,fun f ms F h => by cases h⟩
noncomputable def OZ29_0:Orc := fun _ _ => none
noncomputable def msZ29:List PM := [.«mut»,.own]
noncomputable def lsZ29:List (Nat×Code) := loopsAll 0 (Tryz.f13.body.getD .skip)
theorem kZ29_0:OrcOk EZ29 OZ29_0 lsZ29 0 := orcOk_none
noncomputable def g_AZ29 (a0:tL0) (a1:Int) (a2:tL1) (a3:Int):Bool := g_AZ34 a0 a1 a3&&g_AZ43 a2 (g_VZ28_0 a0 a3)
noncomputable def FZ29:FSem := fun ys => match ys with
 | [.val true [.own .any true 92 (.pair (.int .i64) (.pair (.int .i64) (.pair (.sl 9 .str) (.sl 155 (.pair .str (.pair .bool (.sl 3 (.int .i64)))))))) a0,.int .i64 a1,.own .any true 73 (.pair (.int .i64) (.pair (.pair (.int .i64) (.pair (.int .i64) (.pair (.int .i64) (.pair (.int .i64) (.pair (.int .i64) (.pair (.int .i64) (.int .i64))))))) (.pair .bool (.pair (.sl 3 (.int .i64)) (.sl 3 (.int .i64)))))) a2],.val false [.int .i64 a3]] => some ((g_AZ29 a0 a1 a2 a3),.val false [.int .i64 (g_VZ43_0 a2 (g_VZ28_0 a0 a3))],[[.own .any true 92 (.pair (.int .i64) (.pair (.int .i64) (.pair (.sl 9 .str) (.sl 155 (.pair .str (.pair .bool (.sl 3 (.int .i64)))))))) (g_VZ28_1 a0 a3),.int .i64 a1,.own .any true 73 (.pair (.int .i64) (.pair (.pair (.int .i64) (.pair (.int .i64) (.pair (.int .i64) (.pair (.int .i64) (.pair (.int .i64) (.pair (.int .i64) (.int .i64))))))) (.pair .bool (.pair (.sl 3 (.int .i64)) (.sl 3 (.int .i64)))))) (g_VZ43_1 a2 (g_VZ28_0 a0 a3))]])
 | _ => none
theorem vZ29 (a0:tL0) (a1:Int) (a2:tL1) (a3:Int):collapseH .std EZ29 OZ29_0 (execFn EZ29 Tryz.f13 msZ29 [.val true [.own .any true 92 (.pair (.int .i64) (.pair (.int .i64) (.pair (.sl 9 .str) (.sl 155 (.pair .str (.pair .bool (.sl 3 (.int .i64)))))))) a0,.int .i64 a1,.own .any true 73 (.pair (.int .i64) (.pair (.pair (.int .i64) (.pair (.int .i64) (.pair (.int .i64) (.pair (.int .i64) (.pair (.int .i64) (.pair (.int .i64) (.int .i64))))))) (.pair .bool (.pair (.sl 3 (.int .i64)) (.sl 3 (.int .i64)))))) a2],.val false [.int .i64 a3]]) = some ((g_AZ29 a0 a1 a2 a3),.val false [.int .i64 (g_VZ43_0 a2 (g_VZ28_0 a0 a3))],[[.own .any true 92 (.pair (.int .i64) (.pair (.int .i64) (.pair (.sl 9 .str) (.sl 155 (.pair .str (.pair .bool (.sl 3 (.int .i64)))))))) (g_VZ28_1 a0 a3),.int .i64 a1,.own .any true 73 (.pair (.int .i64) (.pair (.pair (.int .i64) (.pair (.int .i64) (.pair (.int .i64) (.pair (.int .i64) (.pair (.int .i64) (.pair (.int .i64) (.int .i64))))))) (.pair .bool (.pair (.sl 3 (.int .i64)) (.sl 3 (.int .i64)))))) (g_VZ43_1 a2 (g_VZ28_0 a0 a3))]]) := by kernel_rfl
theorem sZ29:Sound Tryz.prog 13 msZ29 FZ29 := by
 refine fn_gen goodZ29 (by kernel_rfl) .std (fn := Tryz.f13) (c := (Tryz.f13.body.getD .skip)) (o := OZ29_0) (k := 0) (by kernel_rfl) (by kernel_rfl) (by kernel_rfl) (by kernel_rfl) (by decide) kZ29_0 ?_
 intro ys r outs h
 unfold FZ29 at h
 split at h
 ·exact (vZ29 _ _ _ _).trans h
 ·cases h
noncomputable def Ew_szIntS:Env where
 tt := mkTI Tryz.prog
 fn := fun _ => none
 bxf := fun _ => none
 mv := []
 keep := fun _ => []
 keepB := fun _ => []
 keepX := fun _ => []
 keepXB := fun _ => []
theorem goodFw_szIntS:∀ f ms F,Ew_szIntS.fn f = some (ms,F) → Sound Tryz.prog f ms F := fun f ms F h => by cases h
theorem goodw_szIntS:Good Tryz.prog Ew_szIntS := ⟨rfl,goodFw_szIntS,fun f ms F h => by cases h⟩
noncomputable def Ow_szIntS_0:Orc := fun _ _ => none
noncomputable def msw_szIntS:List PM := [.rd,.own]
noncomputable def lsw_szIntS:List (Nat×Code) := loopsAll 0 (Tryz.f133.body.getD .skip)
theorem kw_szIntS_0:OrcOk Ew_szIntS Ow_szIntS_0 lsw_szIntS 0 := orcOk_none
noncomputable def g_Vw_szIntS_0 (a0:List Int) (a1:Int):Int := bif decide (IntKind.i64.wrap (a1 - (a0.length:Int)) < 0) then (-1:Int) else IntKind.i64.wrap (a1 - (a0.length:Int))
noncomputable def Fw_szIntS:FSem := fun ys => match ys with
 | [.val false [.sl .any 3 (.int .i64) a0],.val false [.int .i64 a1]] => some (true,.val false [.int .i64 (g_Vw_szIntS_0 a0 a1)],[])
 | _ => none
theorem vw_szIntS (a0:List Int) (a1:Int):collapseH .std Ew_szIntS Ow_szIntS_0 (execFn Ew_szIntS Tryz.f133 msw_szIntS [.val false [.sl .any 3 (.int .i64) a0],.val false [.int .i64 a1]]) = some (true,.val false [.int .i64 (g_Vw_szIntS_0 a0 a1)],[]) := by kernel_rfl
theorem sw_szIntS:Sound Tryz.prog 133 msw_szIntS Fw_szIntS := by
 refine fn_gen goodw_szIntS (by kernel_rfl) .std (fn := Tryz.f133) (c := (Tryz.f133.body.getD .skip)) (o := Ow_szIntS_0) (k := 0) (by kernel_rfl) (by kernel_rfl) (by kernel_rfl) (by kernel_rfl) (by decide) kw_szIntS_0 ?_
 intro ys r outs h
 unfold Fw_szIntS at h
 split at h
 ·exact (vw_szIntS _ _).trans h
 ·cases h
noncomputable def Ew_szFroTx:Env where
 tt := mkTI Tryz.prog
 fn := fun f => match f with
  | 133 => some (msw_szIntS,FSem.wk msw_szIntS Fw_szIntS)
  | _ => none
 bxf := fun _ => none
 mv := []
 keep := fun _ => []
 keepB := fun _ => []
 keepX := fun _ => []
 keepXB := fun _ => []
theorem goodFw_szFroTx:∀ f ms F,Ew_szFroTx.fn f = some (ms,F) → Sound Tryz.prog f ms F := fun f ms F h => by
 unfold Ew_szFroTx at h
 dsimp only at h
 split at h
 ·exact gF sw_szIntS h
 ·cases h
theorem goodw_szFroTx:Good Tryz.prog Ew_szFroTx := ⟨rfl,goodFw_szFroTx,fun f ms F h => by cases h⟩
noncomputable def Ow_szFroTx_0:Orc := fun _ _ => none
noncomputable def msw_szFroTx:List PM := [.rd,.own]
noncomputable def lsw_szFroTx:List (Nat×Code) := loopsAll 0 (Tryz.f89.body.getD .skip)
theorem kw_szFroTx_0:OrcOk Ew_szFroTx Ow_szFroTx_0 lsw_szFroTx 0 := orcOk_none
noncomputable def g_Aw_szFroTx (a0:Int) (a1:Int) (a2:Int) (a3:Int) (a4:Int) (a5:Int) (a6:Int) (a7:Int) (a8:Bool) (a9:List Int) (a10:List Int) (a11:Int):Bool := decide (g_Vw_szIntS_0 a9 a11 < 0) || true
noncomputable def g_Vw_szFroTx_0 (a0:Int) (a1:Int) (a2:Int) (a3:Int) (a4:Int) (a5:Int) (a6:Int) (a7:Int) (a8:Bool) (a9:List Int) (a10:List Int) (a11:Int):Int := bif decide (g_Vw_szIntS_0 a9 a11 < 0) then (-1:Int) else bif decide (g_Vw_szIntS_0 a10 (g_Vw_szIntS_0 a9 a11) < 0) then (-1:Int) else g_Vw_szIntS_0 a10 (g_Vw_szIntS_0 a9 a11)
noncomputable def Fw_szFroTx:FSem := fun ys => match ys with
 | [.val true [.int .i64 a0,.int .i64 a1,.int .i64 a2,.int .i64 a3,.int .i64 a4,.int .i64 a5,.int .i64 a6,.int .i64 a7,.bool a8,.sl .any 3 (.int .i64) a9,.sl .any 3 (.int .i64) a10],.val false [.int .i64 a11]] => some ((g_Aw_szFroTx a0 a1 a2 a3 a4 a5 a6 a7 a8 a9 a10 a11),.val false [.int .i64 (g_Vw_szFroTx_0 a0 a1 a2 a3 a4 a5 a6 a7 a8 a9 a10 a11)],[])
 | _ => none
theorem vw_szFroTx (a0:Int) (a1:Int) (a2:Int) (a3:Int) (a4:Int) (a5:Int) (a6:Int) (a7:Int) (a8:Bool) (a9:List Int) (a10:List Int) (a11:Int):collapseH .std Ew_szFroTx Ow_szFroTx_0 (execFn Ew_szFroTx Tryz.f89 msw_szFroTx [.val true [.int .i64 a0,.int .i64 a1,.int .i64 a2,.int .i64 a3,.int .i64 a4,.int .i64 a5,.int .i64 a6,.int .i64 a7,.bool a8,.sl .any 3 (.int .i64) a9,.sl .any 3 (.int .i64) a10],.val false [.int .i64 a11]]) = some ((g_Aw_szFroTx a0 a1 a2 a3 a4 a5 a6 a7 a8 a9 a10 a11),.val false [.int .i64 (g_Vw_szFroTx_0 a0 a1 a2 a3 a4 a5 a6 a7 a8 a9 a10 a11)],[]) := by kernel_rfl
theorem sw_szFroTx:Sound Tryz.prog 89 msw_szFroTx Fw_szFroTx := by
 refine fn_gen goodw_szFroTx (by kernel_rfl) .std (fn := Tryz.f89) (c := (Tryz.f89.body.getD .skip)) (o := Ow_szFroTx_0) (k := 0) (by kernel_rfl) (by kernel_rfl) (by kernel_rfl) (by kernel_rfl) (by decide) kw_szFroTx_0 ?_
 intro ys r outs h
 unfold Fw_szFroTx at h
 split at h
 ·exact (vw_szFroTx _ _ _ _ _ _ _ _ _ _ _ _).trans h
 ·cases h
noncomputable def EZ72:Env where
 tt := mkTI Tryz.prog
 fn := fun f => match f with
  | 89 => some (msw_szFroTx,FSem.wk msw_szFroTx Fw_szFroTx)
  | _ => none
 bxf := fun _ => none
 mv := []
 keep := fun b => match b with
  | 0 => [(0,false),(1,false),(5,false)]
  | _ => []
 keepB := fun b => match b with
  | 0 => []
  | _ => []
 keepX := fun b => match b with
  | 0 => [(1,false),(4,false)]
  | _ => []
 keepXB := fun b => match b with
  | 0 => []
  | _ => []
theorem goodFZ72:∀ f ms F,EZ72.fn f = some (ms,F) → Sound Tryz.prog f ms F := fun f ms F h => by
 unfold EZ72 at h
 dsimp only at h
 split at h
 ·exact gF sw_szFroTx h
 ·cases h
theorem goodZ72:Good Tryz.prog EZ72 := ⟨rfl,goodFZ72,fun f ms F h => by cases h⟩
noncomputable def OZ72_0:Orc := fun _ _ => none
noncomputable def msZ72:List PM := [.rd,.own]
noncomputable def lsZ72:List (Nat×Code) := loopsAll 0 (Tryz.f28.body.getD .skip)
noncomputable def cZ72_0:Code := (loopOf 0 (Tryz.f28.body.getD .skip)).getD .skip
theorem lseqZ72:lsZ72 = [(0,cZ72_0)] := by kernel_rfl
theorem mZ72_0:∀ p,p ∈ lsZ72 → p.1 = 0 → p.2 = cZ72_0 := by
 intro p hp
 rw [lseqZ72] at hp
 simp only [List.mem_cons,List.not_mem_nil,or_false] at hp
 subst hp; simp
theorem kZ72_0:OrcOk EZ72 OZ72_0 lsZ72 0 := orcOk_none
noncomputable def hZ72_0 (y0:tL1) (y1:Int) (y2:Int):List (Pl×LV) := [(.T 0,.t (.val false [.sl .any 129 (.pair (.int .i64) (.pair (.pair (.int .i64) (.pair (.int .i64) (.pair (.int .i64) (.pair (.int .i64) (.pair (.int .i64) (.pair (.int .i64) (.int .i64))))))) (.pair .bool (.pair (.sl 3 (.int .i64)) (.sl 3 (.int .i64)))))) y0])),(.T 1,.t (.val false [.int .i64 y1])),(.T 5,.t (.val false [.int .i64 y2]))]
noncomputable def g_SZ72_0 (y0:tL1):(Int×Int) → RT (Int×Int) ((Int×Int) ⊕ (Int))
 | (y1,y2) => .br (true) (.br (decide (y2 < (y0.length:Int))) (.br (decide (0 ≤ y2 ∧ y2 < (y0.length:Int))) (.br (g_Aw_szFroTx (at_ yT0 y0 (Int.toNat y2)).1 (at_ yT0 y0 (Int.toNat y2)).2.1.1 (at_ yT0 y0 (Int.toNat y2)).2.1.2.1 (at_ yT0 y0 (Int.toNat y2)).2.1.2.2.1 (at_ yT0 y0 (Int.toNat y2)).2.1.2.2.2.1 (at_ yT0 y0 (Int.toNat y2)).2.1.2.2.2.2.1 (at_ yT0 y0 (Int.toNat y2)).2.1.2.2.2.2.2.1 (at_ yT0 y0 (Int.toNat y2)).2.1.2.2.2.2.2.2 (at_ yT0 y0 (Int.toNat y2)).2.2.1 (at_ yT0 y0 (Int.toNat y2)).2.2.2.1 (at_ yT0 y0 (Int.toNat y2)).2.2.2.2 y1) (.br (true) (.br (decide (g_Vw_szFroTx_0 (at_ yT0 y0 (Int.toNat y2)).1 (at_ yT0 y0 (Int.toNat y2)).2.1.1 (at_ yT0 y0 (Int.toNat y2)).2.1.2.1 (at_ yT0 y0 (Int.toNat y2)).2.1.2.2.1 (at_ yT0 y0 (Int.toNat y2)).2.1.2.2.2.1 (at_ yT0 y0 (Int.toNat y2)).2.1.2.2.2.2.1 (at_ yT0 y0 (Int.toNat y2)).2.1.2.2.2.2.2.1 (at_ yT0 y0 (Int.toNat y2)).2.1.2.2.2.2.2.2 (at_ yT0 y0 (Int.toNat y2)).2.2.1 (at_ yT0 y0 (Int.toNat y2)).2.2.2.1 (at_ yT0 y0 (Int.toNat y2)).2.2.2.2 y1 < 0)) (.out (.inl ((g_Vw_szFroTx_0 (at_ yT0 y0 (Int.toNat y2)).1 (at_ yT0 y0 (Int.toNat y2)).2.1.1 (at_ yT0 y0 (Int.toNat y2)).2.1.2.1 (at_ yT0 y0 (Int.toNat y2)).2.1.2.2.1 (at_ yT0 y0 (Int.toNat y2)).2.1.2.2.2.1 (at_ yT0 y0 (Int.toNat y2)).2.1.2.2.2.2.1 (at_ yT0 y0 (Int.toNat y2)).2.1.2.2.2.2.2.1 (at_ yT0 y0 (Int.toNat y2)).2.1.2.2.2.2.2.2 (at_ yT0 y0 (Int.toNat y2)).2.2.1 (at_ yT0 y0 (Int.toNat y2)).2.2.2.1 (at_ yT0 y0 (Int.toNat y2)).2.2.2.2 y1,(-1:Int))))) (.br (true) (.go ((g_Vw_szFroTx_0 (at_ yT0 y0 (Int.toNat y2)).1 (at_ yT0 y0 (Int.toNat y2)).2.1.1 (at_ yT0 y0 (Int.toNat y2)).2.1.2.1 (at_ yT0 y0 (Int.toNat y2)).2.1.2.2.1 (at_ yT0 y0 (Int.toNat y2)).2.1.2.2.2.1 (at_ yT0 y0 (Int.toNat y2)).2.1.2.2.2.2.1 (at_ yT0 y0 (Int.toNat y2)).2.1.2.2.2.2.2.1 (at_ yT0 y0 (Int.toNat y2)).2.1.2.2.2.2.2.2 (at_ yT0 y0 (Int.toNat y2)).2.2.1 (at_ yT0 y0 (Int.toNat y2)).2.2.2.1 (at_ yT0 y0 (Int.toNat y2)).2.2.2.2 y1,IntKind.i64.wrap (y2 + 1)))) .bad)) .bad) .bad) .bad) (.out (.inr (y1)))) .bad
noncomputable def g_LZ72_0 (y0:tL1) (x:Int×Int):Option ((Int×Int) ⊕ (Int)) := loopO (g_SZ72_0 y0) x
noncomputable def xZ72_0 (y0:tL1):((Int×Int) ⊕ (Int)) → Ex×List (Pl×LV) := fun
 | .inl r => (.ret,[(.T 1,.t (.val false [.int .i64 r.1])),(.T 4,.t (.val false [.int .i64 r.2]))])
 | .inr (r) => (.exit 0,[(.T 1,.t (.val false [.int .i64 r])),(.T 4,.t (.val false [.undef]))])
noncomputable def OZ72_1:Orc := fun b h => match b,h with
 | 0,[(.T 0,.t (.val false [.sl .any 129 (.pair (.int .i64) (.pair (.pair (.int .i64) (.pair (.int .i64) (.pair (.int .i64) (.pair (.int .i64) (.pair (.int .i64) (.pair (.int .i64) (.int .i64))))))) (.pair .bool (.pair (.sl 3 (.int .i64)) (.sl 3 (.int .i64)))))) y0])),(.T 1,.t (.val false [.int .i64 y1])),(.T 5,.t (.val false [.int .i64 y2]))] => some (okO (g_LZ72_0 y0 (y1,y2)),(.br (isL (valO (g_LZ72_0 y0 (y1,y2)))) (.leaf .ret [(.T 1,.t (.val false [.int .i64 (getL (valO (g_LZ72_0 y0 (y1,y2)))).1])),(.T 4,.t (.val false [.int .i64 (getL (valO (g_LZ72_0 y0 (y1,y2)))).2]))]) (.leaf (.exit 0) [(.T 1,.t (.val false [.int .i64 (getR (valO (g_LZ72_0 y0 (y1,y2))))])),(.T 4,.t (.val false [.undef]))])))
 | b,h => OZ72_0 b h
theorem bZ72_0 (y0:tL1) (y1:Int) (y2:Int):Tr.bt EZ72 OZ72_0 (exec EZ72 0 cZ72_0 (St.of (hZ72_0 y0 y1 y2)) (leafRd EZ72 0)) = (g_SZ72_0 y0 (y1,y2)).bt (fun ((y1,y2):Int×Int) => (hZ72_0 y0 y1 y2)) (xZ72_0 y0) := by kernel_rfl
theorem kZ72_1:OrcOk EZ72 OZ72_1 lsZ72 1 := orc_add kZ72_0 (fun n p hp h ex h' ho => by
 obtain ⟨b,c⟩ := p
 obtain ⟨xt,h1,h2⟩ := ho
 have h1:OZ72_1 b h = some (true,xt) := h1
 unfold OZ72_1 at h1
 split at h1
 ·injection h1 with h1
  injection h1 with e1 e2
  subst e2
  have hc:c = cZ72_0 := mZ72_0 _ hp rfl
  subst hc
  right
  rename_i y0 y1 y2
  have key := LT_step kZ72_0 hp (fun q hq => loopsAll_in _ _ _ _ hp hq) (fun ((y1,y2):Int×Int) => (hZ72_0 y0 y1 y2)) (xZ72_0 y0) (g_SZ72_0 y0) (fun x => by first | exact bZ72_0 y0 x.1 x.2) n (x := (y1,y2)) (okO_some e1)
  have hx:∀ r,XT.sel (.br (isL r) (.leaf .ret [(.T 1,.t (.val false [.int .i64 (getL r).1])),(.T 4,.t (.val false [.int .i64 (getL r).2]))]) (.leaf (.exit 0) [(.T 1,.t (.val false [.int .i64 (getR r)])),(.T 4,.t (.val false [.undef]))])) = xZ72_0 y0 r := fun r => by first | rfl | rcases r with r | r <;> rfl | rcases r with r | r | r <;> rfl | rcases r with r | r | r | r <;> rfl
  have h3 := (hx (valO (g_LZ72_0 y0 (y1,y2)))).symm.trans h2
  have e3 := congrArg Prod.fst h3
  have e4 := congrArg Prod.snd h3
  simp only at e3 e4
  rw [← e3,← e4]
  exact key
 ·exact .inl ⟨xt,h1,h2⟩)
noncomputable def g_AZ72 (a0:tL1) (a1:Int):Bool := decide (IntKind.i64.wrap (a1 - (a0.length:Int)) < 0) || okO (g_LZ72_0 a0 (IntKind.i64.wrap (a1 - (a0.length:Int)),(0:Int)))
noncomputable def g_VZ72_0 (a0:tL1) (a1:Int):Int := bif decide (IntKind.i64.wrap (a1 - (a0.length:Int)) < 0) then (-1:Int) else bif isL (valO (g_LZ72_0 a0 (IntKind.i64.wrap (a1 - (a0.length:Int)),(0:Int)))) then (getL (valO (g_LZ72_0 a0 (IntKind.i64.wrap (a1 - (a0.length:Int)),(0:Int))))).2 else getR (valO (g_LZ72_0 a0 (IntKind.i64.wrap (a1 - (a0.length:Int)),(0:Int))))
noncomputable def FZ72:FSem := fun ys => match ys with
 | [.val false [.sl .any 129 (.pair (.int .i64) (.pair (.pair (.int .i64) (.pair (.int .i64) (.pair (.int .i64) (.pair (.int .i64) (.pair (.int .i64) (.pair (.int .i64) (.int .i64))))))) (.pair .bool (.pair (.sl 3 (.int .i64)) (.sl 3 (.int .i64)))))) a0],.val false [.int .i64 a1]] => some ((g_AZ72 a0 a1),.val false [.int .i64 (g_VZ72_0 a0 a1)],[])
 | _ => none
theorem vZ72 (a0:tL1) (a1:Int):collapseH .std EZ72 OZ72_1 (execFn EZ72 Tryz.f28 msZ72 [.val false [.sl .any 129 (.pair (.int .i64) (.pair (.pair (.int .i64) (.pair (.int .i64) (.pair (.int .i64) (.pair (.int .i64) (.pair (.int .i64) (.pair (.int .i64) (.int .i64))))))) (.pair .bool (.pair (.sl 3 (.int .i64)) (.sl 3 (.int .i64)))))) a0],.val false [.int .i64 a1]]) = some ((g_AZ72 a0 a1),.val false [.int .i64 (g_VZ72_0 a0 a1)],[]) := by kernel_rfl
theorem sZ72:Sound Tryz.prog 28 msZ72 FZ72 := by
 refine fn_gen goodZ72 (by kernel_rfl) .std (fn := Tryz.f28) (c := (Tryz.f28.body.getD .skip)) (o := OZ72_1) (k := 1) (by kernel_rfl) (by kernel_rfl) (by kernel_rfl) (by kernel_rfl) (by decide) kZ72_1 ?_
 intro ys r outs h
 unfold FZ72 at h
 split at h
 ·exact (vZ72 _ _).trans h
 ·cases h
noncomputable def EZ44:Env where
 tt := mkTI Tryz.prog
 fn := fun f => match f with
  | 133 => some (msw_szIntS,FSem.wk msw_szIntS Fw_szIntS)
  | _ => none
 bxf := fun _ => none
 mv := []
 keep := fun _ => []
 keepB := fun _ => []
 keepX := fun _ => []
 keepXB := fun _ => []
theorem goodFZ44:∀ f ms F,EZ44.fn f = some (ms,F) → Sound Tryz.prog f ms F := fun f ms F h => by
 unfold EZ44 at h
 dsimp only at h
 split at h
 ·exact gF sw_szIntS h
 ·cases h
theorem goodZ44:Good Tryz.prog EZ44 := ⟨rfl,goodFZ44,fun f ms F h => by cases h⟩
noncomputable def OZ44_0:Orc := fun _ _ => none
noncomputable def msZ44:List PM := [.rd,.own]
noncomputable def lsZ44:List (Nat×Code) := loopsAll 0 (Tryz.f173.body.getD .skip)
theorem kZ44_0:OrcOk EZ44 OZ44_0 lsZ44 0 := orcOk_none
noncomputable def g_AZ44 (a0:ByteArray) (a1:Bool) (a2:List Int) (a3:Int):Bool := decide (IntKind.i64.wrap (a3 - (↑(ByteArray.size a0):Int)) < 0) || true
noncomputable def g_VZ44_0 (a0:ByteArray) (a1:Bool) (a2:List Int) (a3:Int):Int := bif decide (IntKind.i64.wrap (a3 - (↑(ByteArray.size a0):Int)) < 0) then (-1:Int) else bif decide (g_Vw_szIntS_0 a2 (IntKind.i64.wrap (a3 - (↑(ByteArray.size a0):Int))) < 0) then (-1:Int) else g_Vw_szIntS_0 a2 (IntKind.i64.wrap (a3 - (↑(ByteArray.size a0):Int)))
noncomputable def FZ44:FSem := fun ys => match ys with
 | [.val true [.str a0,.bool a1,.sl .any 3 (.int .i64) a2],.val false [.int .i64 a3]] => some ((g_AZ44 a0 a1 a2 a3),.val false [.int .i64 (g_VZ44_0 a0 a1 a2 a3)],[])
 | _ => none
theorem vZ44 (a0:ByteArray) (a1:Bool) (a2:List Int) (a3:Int):collapseH .std EZ44 OZ44_0 (execFn EZ44 Tryz.f173 msZ44 [.val true [.str a0,.bool a1,.sl .any 3 (.int .i64) a2],.val false [.int .i64 a3]]) = some ((g_AZ44 a0 a1 a2 a3),.val false [.int .i64 (g_VZ44_0 a0 a1 a2 a3)],[]) := by kernel_rfl
theorem sZ44:Sound Tryz.prog 173 msZ44 FZ44 := by
 refine fn_gen goodZ44 (by kernel_rfl) .std (fn := Tryz.f173) (c := (Tryz.f173.body.getD .skip)) (o := OZ44_0) (k := 0) (by kernel_rfl) (by kernel_rfl) (by kernel_rfl) (by kernel_rfl) (by decide) kZ44_0 ?_
 intro ys r outs h
 unfold FZ44 at h
 split at h
 ·exact (vZ44 _ _ _ _).trans h
 ·cases h
noncomputable def EZ35:Env where
 tt := mkTI Tryz.prog
 fn := fun f => match f with
  | 173 => some (msZ44,FSem.wk msZ44 FZ44)
  | _ => none
 bxf := fun _ => none
 mv := []
 keep := fun b => match b with
  | 0 => [(0,false),(1,false),(5,false)]
  | _ => []
 keepB := fun b => match b with
  | 0 => []
  | _ => []
 keepX := fun b => match b with
  | 0 => [(1,false),(4,false)]
  | _ => []
 keepXB := fun b => match b with
  | 0 => []
  | _ => []
theorem goodFZ35:∀ f ms F,EZ35.fn f = some (ms,F) → Sound Tryz.prog f ms F := fun f ms F h => by
 unfold EZ35 at h
 dsimp only at h
 split at h
 ·exact gF sZ44 h
 ·cases h
theorem goodZ35:Good Tryz.prog EZ35 := ⟨rfl,goodFZ35,fun f ms F h => by cases h⟩
noncomputable def OZ35_0:Orc := fun _ _ => none
noncomputable def msZ35:List PM := [.rd,.own]
noncomputable def lsZ35:List (Nat×Code) := loopsAll 0 (Tryz.f154.body.getD .skip)
noncomputable def cZ35_0:Code := (loopOf 0 (Tryz.f154.body.getD .skip)).getD .skip
theorem lseqZ35:lsZ35 = [(0,cZ35_0)] := by kernel_rfl
theorem mZ35_0:∀ p,p ∈ lsZ35 → p.1 = 0 → p.2 = cZ35_0 := by
 intro p hp
 rw [lseqZ35] at hp
 simp only [List.mem_cons,List.not_mem_nil,or_false] at hp
 subst hp; simp
theorem kZ35_0:OrcOk EZ35 OZ35_0 lsZ35 0 := orcOk_none
noncomputable def hZ35_0 (y0:tL2) (y1:Int) (y2:Int):List (Pl×LV) := [(.T 0,.t (.val false [.sl .any 196 (.pair .str (.pair .bool (.sl 3 (.int .i64)))) y0])),(.T 1,.t (.val false [.int .i64 y1])),(.T 5,.t (.val false [.int .i64 y2]))]
noncomputable def g_SZ35_0 (y0:tL2):(Int×Int) → RT (Int×Int) ((Int×Int) ⊕ (Int))
 | (y1,y2) => .br (true) (.br (decide (y2 < (y0.length:Int))) (.br (decide (0 ≤ y2 ∧ y2 < (y0.length:Int))) (.br (g_AZ44 (at_ yT2 y0 (Int.toNat y2)).1 (at_ yT2 y0 (Int.toNat y2)).2.1 (at_ yT2 y0 (Int.toNat y2)).2.2 y1) (.br (true) (.br (decide (g_VZ44_0 (at_ yT2 y0 (Int.toNat y2)).1 (at_ yT2 y0 (Int.toNat y2)).2.1 (at_ yT2 y0 (Int.toNat y2)).2.2 y1 < 0)) (.out (.inl ((g_VZ44_0 (at_ yT2 y0 (Int.toNat y2)).1 (at_ yT2 y0 (Int.toNat y2)).2.1 (at_ yT2 y0 (Int.toNat y2)).2.2 y1,(-1:Int))))) (.br (true) (.go ((g_VZ44_0 (at_ yT2 y0 (Int.toNat y2)).1 (at_ yT2 y0 (Int.toNat y2)).2.1 (at_ yT2 y0 (Int.toNat y2)).2.2 y1,IntKind.i64.wrap (y2 + 1)))) .bad)) .bad) .bad) .bad) (.out (.inr (y1)))) .bad
noncomputable def g_LZ35_0 (y0:tL2) (x:Int×Int):Option ((Int×Int) ⊕ (Int)) := loopO (g_SZ35_0 y0) x
noncomputable def xZ35_0 (y0:tL2):((Int×Int) ⊕ (Int)) → Ex×List (Pl×LV) := fun
 | .inl r => (.ret,[(.T 1,.t (.val false [.int .i64 r.1])),(.T 4,.t (.val false [.int .i64 r.2]))])
 | .inr (r) => (.exit 0,[(.T 1,.t (.val false [.int .i64 r])),(.T 4,.t (.val false [.undef]))])
noncomputable def OZ35_1:Orc := fun b h => match b,h with
 | 0,[(.T 0,.t (.val false [.sl .any 196 (.pair .str (.pair .bool (.sl 3 (.int .i64)))) y0])),(.T 1,.t (.val false [.int .i64 y1])),(.T 5,.t (.val false [.int .i64 y2]))] => some (okO (g_LZ35_0 y0 (y1,y2)),(.br (isL (valO (g_LZ35_0 y0 (y1,y2)))) (.leaf .ret [(.T 1,.t (.val false [.int .i64 (getL (valO (g_LZ35_0 y0 (y1,y2)))).1])),(.T 4,.t (.val false [.int .i64 (getL (valO (g_LZ35_0 y0 (y1,y2)))).2]))]) (.leaf (.exit 0) [(.T 1,.t (.val false [.int .i64 (getR (valO (g_LZ35_0 y0 (y1,y2))))])),(.T 4,.t (.val false [.undef]))])))
 | b,h => OZ35_0 b h
theorem bZ35_0 (y0:tL2) (y1:Int) (y2:Int):Tr.bt EZ35 OZ35_0 (exec EZ35 0 cZ35_0 (St.of (hZ35_0 y0 y1 y2)) (leafRd EZ35 0)) = (g_SZ35_0 y0 (y1,y2)).bt (fun ((y1,y2):Int×Int) => (hZ35_0 y0 y1 y2)) (xZ35_0 y0) := by kernel_rfl
theorem kZ35_1:OrcOk EZ35 OZ35_1 lsZ35 1 := orc_add kZ35_0 (fun n p hp h ex h' ho => by
 obtain ⟨b,c⟩ := p
 obtain ⟨xt,h1,h2⟩ := ho
 have h1:OZ35_1 b h = some (true,xt) := h1
 unfold OZ35_1 at h1
 split at h1
 ·injection h1 with h1
  injection h1 with e1 e2
  subst e2
  have hc:c = cZ35_0 := mZ35_0 _ hp rfl
  subst hc
  right
  rename_i y0 y1 y2
  have key := LT_step kZ35_0 hp (fun q hq => loopsAll_in _ _ _ _ hp hq) (fun ((y1,y2):Int×Int) => (hZ35_0 y0 y1 y2)) (xZ35_0 y0) (g_SZ35_0 y0) (fun x => by first | exact bZ35_0 y0 x.1 x.2) n (x := (y1,y2)) (okO_some e1)
  have hx:∀ r,XT.sel (.br (isL r) (.leaf .ret [(.T 1,.t (.val false [.int .i64 (getL r).1])),(.T 4,.t (.val false [.int .i64 (getL r).2]))]) (.leaf (.exit 0) [(.T 1,.t (.val false [.int .i64 (getR r)])),(.T 4,.t (.val false [.undef]))])) = xZ35_0 y0 r := fun r => by first | rfl | rcases r with r | r <;> rfl | rcases r with r | r | r <;> rfl | rcases r with r | r | r | r <;> rfl
  have h3 := (hx (valO (g_LZ35_0 y0 (y1,y2)))).symm.trans h2
  have e3 := congrArg Prod.fst h3
  have e4 := congrArg Prod.snd h3
  simp only at e3 e4
  rw [← e3,← e4]
  exact key
 ·exact .inl ⟨xt,h1,h2⟩)
noncomputable def g_AZ35 (a0:tL2) (a1:Int):Bool := decide (IntKind.i64.wrap (a1 - (a0.length:Int)) < 0) || okO (g_LZ35_0 a0 (IntKind.i64.wrap (a1 - (a0.length:Int)),(0:Int)))
noncomputable def g_VZ35_0 (a0:tL2) (a1:Int):Int := bif decide (IntKind.i64.wrap (a1 - (a0.length:Int)) < 0) then (-1:Int) else bif isL (valO (g_LZ35_0 a0 (IntKind.i64.wrap (a1 - (a0.length:Int)),(0:Int)))) then (getL (valO (g_LZ35_0 a0 (IntKind.i64.wrap (a1 - (a0.length:Int)),(0:Int))))).2 else getR (valO (g_LZ35_0 a0 (IntKind.i64.wrap (a1 - (a0.length:Int)),(0:Int))))
noncomputable def FZ35:FSem := fun ys => match ys with
 | [.val false [.sl .any 196 (.pair .str (.pair .bool (.sl 3 (.int .i64)))) a0],.val false [.int .i64 a1]] => some ((g_AZ35 a0 a1),.val false [.int .i64 (g_VZ35_0 a0 a1)],[])
 | _ => none
theorem vZ35 (a0:tL2) (a1:Int):collapseH .std EZ35 OZ35_1 (execFn EZ35 Tryz.f154 msZ35 [.val false [.sl .any 196 (.pair .str (.pair .bool (.sl 3 (.int .i64)))) a0],.val false [.int .i64 a1]]) = some ((g_AZ35 a0 a1),.val false [.int .i64 (g_VZ35_0 a0 a1)],[]) := by kernel_rfl
theorem sZ35:Sound Tryz.prog 154 msZ35 FZ35 := by
 refine fn_gen goodZ35 (by kernel_rfl) .std (fn := Tryz.f154) (c := (Tryz.f154.body.getD .skip)) (o := OZ35_1) (k := 1) (by kernel_rfl) (by kernel_rfl) (by kernel_rfl) (by kernel_rfl) (by decide) kZ35_1 ?_
 intro ys r outs h
 unfold FZ35 at h
 split at h
 ·exact (vZ35 _ _).trans h
 ·cases h
noncomputable def EZ55:Env where
 tt := mkTI Tryz.prog
 fn := fun _ => none
 bxf := fun _ => none
 mv := []
 keep := fun b => match b with
  | 0 => [(0,false),(1,false),(5,false)]
  | _ => []
 keepB := fun b => match b with
  | 0 => []
  | _ => []
 keepX := fun b => match b with
  | 0 => [(1,false),(4,false)]
  | _ => []
 keepXB := fun b => match b with
  | 0 => []
  | _ => []
theorem goodFZ55:∀ f ms F,EZ55.fn f = some (ms,F) → Sound Tryz.prog f ms F := fun f ms F h => by cases h
theorem goodZ55:Good Tryz.prog EZ55 := ⟨rfl,goodFZ55,fun f ms F h => by cases h⟩
noncomputable def OZ55_0:Orc := fun _ _ => none
noncomputable def msZ55:List PM := [.rd,.own]
noncomputable def lsZ55:List (Nat×Code) := loopsAll 0 (Tryz.f153.body.getD .skip)
noncomputable def cZ55_0:Code := (loopOf 0 (Tryz.f153.body.getD .skip)).getD .skip
theorem lseqZ55:lsZ55 = [(0,cZ55_0)] := by kernel_rfl
theorem mZ55_0:∀ p,p ∈ lsZ55 → p.1 = 0 → p.2 = cZ55_0 := by
 intro p hp
 rw [lseqZ55] at hp
 simp only [List.mem_cons,List.not_mem_nil,or_false] at hp
 subst hp; simp
theorem kZ55_0:OrcOk EZ55 OZ55_0 lsZ55 0 := orcOk_none
noncomputable def hZ55_0 (y0:List ByteArray) (y1:Int) (y2:Int):List (Pl×LV) := [(.T 0,.t (.val false [.sl .any 9 .str y0])),(.T 1,.t (.val false [.int .i64 y1])),(.T 5,.t (.val false [.int .i64 y2]))]
noncomputable def g_SZ55_0 (y0:List ByteArray):(Int×Int) → RT (Int×Int) ((Int×Int) ⊕ (Int))
 | (y1,y2) => .br (true) (.br (decide (y2 < (y0.length:Int))) (.br (decide (0 ≤ y2 ∧ y2 < (y0.length:Int))) (.br (true) (.br (true) (.br (decide (IntKind.i64.wrap (y1 - (↑(ByteArray.size (at_ Ty.str y0 (Int.toNat y2))):Int)) < 0)) (.out (.inl ((IntKind.i64.wrap (y1 - (↑(ByteArray.size (at_ Ty.str y0 (Int.toNat y2))):Int)),(-1:Int))))) (.br (true) (.go ((IntKind.i64.wrap (y1 - (↑(ByteArray.size (at_ Ty.str y0 (Int.toNat y2))):Int)),IntKind.i64.wrap (y2 + 1)))) .bad)) .bad) .bad) .bad) (.out (.inr (y1)))) .bad
noncomputable def g_LZ55_0 (y0:List ByteArray) (x:Int×Int):Option ((Int×Int) ⊕ (Int)) := loopO (g_SZ55_0 y0) x
noncomputable def xZ55_0 (y0:List ByteArray):((Int×Int) ⊕ (Int)) → Ex×List (Pl×LV) := fun
 | .inl r => (.ret,[(.T 1,.t (.val false [.int .i64 r.1])),(.T 4,.t (.val false [.int .i64 r.2]))])
 | .inr (r) => (.exit 0,[(.T 1,.t (.val false [.int .i64 r])),(.T 4,.t (.val false [.undef]))])
noncomputable def OZ55_1:Orc := fun b h => match b,h with
 | 0,[(.T 0,.t (.val false [.sl .any 9 .str y0])),(.T 1,.t (.val false [.int .i64 y1])),(.T 5,.t (.val false [.int .i64 y2]))] => some (okO (g_LZ55_0 y0 (y1,y2)),(.br (isL (valO (g_LZ55_0 y0 (y1,y2)))) (.leaf .ret [(.T 1,.t (.val false [.int .i64 (getL (valO (g_LZ55_0 y0 (y1,y2)))).1])),(.T 4,.t (.val false [.int .i64 (getL (valO (g_LZ55_0 y0 (y1,y2)))).2]))]) (.leaf (.exit 0) [(.T 1,.t (.val false [.int .i64 (getR (valO (g_LZ55_0 y0 (y1,y2))))])),(.T 4,.t (.val false [.undef]))])))
 | b,h => OZ55_0 b h
theorem bZ55_0 (y0:List ByteArray) (y1:Int) (y2:Int):Tr.bt EZ55 OZ55_0 (exec EZ55 0 cZ55_0 (St.of (hZ55_0 y0 y1 y2)) (leafRd EZ55 0)) = (g_SZ55_0 y0 (y1,y2)).bt (fun ((y1,y2):Int×Int) => (hZ55_0 y0 y1 y2)) (xZ55_0 y0) := by kernel_rfl
theorem kZ55_1:OrcOk EZ55 OZ55_1 lsZ55 1 := orc_add kZ55_0 (fun n p hp h ex h' ho => by
 obtain ⟨b,c⟩ := p
 obtain ⟨xt,h1,h2⟩ := ho
 have h1:OZ55_1 b h = some (true,xt) := h1
 unfold OZ55_1 at h1
 split at h1
 ·injection h1 with h1
  injection h1 with e1 e2
  subst e2
  have hc:c = cZ55_0 := mZ55_0 _ hp rfl
  subst hc
  right
  rename_i y0 y1 y2
  have key := LT_step kZ55_0 hp (fun q hq => loopsAll_in _ _ _ _ hp hq) (fun ((y1,y2):Int×Int) => (hZ55_0 y0 y1 y2)) (xZ55_0 y0) (g_SZ55_0 y0) (fun x => by first | exact bZ55_0 y0 x.1 x.2) n (x := (y1,y2)) (okO_some e1)
  have hx:∀ r,XT.sel (.br (isL r) (.leaf .ret [(.T 1,.t (.val false [.int .i64 (getL r).1])),(.T 4,.t (.val false [.int .i64 (getL r).2]))]) (.leaf (.exit 0) [(.T 1,.t (.val false [.int .i64 (getR r)])),(.T 4,.t (.val false [.undef]))])) = xZ55_0 y0 r := fun r => by first | rfl | rcases r with r | r <;> rfl | rcases r with r | r | r <;> rfl | rcases r with r | r | r | r <;> rfl
  have h3 := (hx (valO (g_LZ55_0 y0 (y1,y2)))).symm.trans h2
  have e3 := congrArg Prod.fst h3
  have e4 := congrArg Prod.snd h3
  simp only at e3 e4
  rw [← e3,← e4]
  exact key
 ·exact .inl ⟨xt,h1,h2⟩)
noncomputable def g_AZ55 (a0:List ByteArray) (a1:Int):Bool := decide (IntKind.i64.wrap (a1 - (a0.length:Int)) < 0) || okO (g_LZ55_0 a0 (IntKind.i64.wrap (a1 - (a0.length:Int)),(0:Int)))
noncomputable def g_VZ55_0 (a0:List ByteArray) (a1:Int):Int := bif decide (IntKind.i64.wrap (a1 - (a0.length:Int)) < 0) then (-1:Int) else bif isL (valO (g_LZ55_0 a0 (IntKind.i64.wrap (a1 - (a0.length:Int)),(0:Int)))) then (getL (valO (g_LZ55_0 a0 (IntKind.i64.wrap (a1 - (a0.length:Int)),(0:Int))))).2 else getR (valO (g_LZ55_0 a0 (IntKind.i64.wrap (a1 - (a0.length:Int)),(0:Int))))
noncomputable def FZ55:FSem := fun ys => match ys with
 | [.val false [.sl .any 9 .str a0],.val false [.int .i64 a1]] => some ((g_AZ55 a0 a1),.val false [.int .i64 (g_VZ55_0 a0 a1)],[])
 | _ => none
theorem vZ55 (a0:List ByteArray) (a1:Int):collapseH .std EZ55 OZ55_1 (execFn EZ55 Tryz.f153 msZ55 [.val false [.sl .any 9 .str a0],.val false [.int .i64 a1]]) = some ((g_AZ55 a0 a1),.val false [.int .i64 (g_VZ55_0 a0 a1)],[]) := by kernel_rfl
theorem sZ55:Sound Tryz.prog 153 msZ55 FZ55 := by
 refine fn_gen goodZ55 (by kernel_rfl) .std (fn := Tryz.f153) (c := (Tryz.f153.body.getD .skip)) (o := OZ55_1) (k := 1) (by kernel_rfl) (by kernel_rfl) (by kernel_rfl) (by kernel_rfl) (by decide) kZ55_1 ?_
 intro ys r outs h
 unfold FZ55 at h
 split at h
 ·exact (vZ55 _ _).trans h
 ·cases h
noncomputable def EZ56:Env where
 tt := mkTI Tryz.prog
 fn := fun f => match f with
  | 153 => some (msZ55,FSem.wk msZ55 FZ55)
  | 154 => some (msZ35,FSem.wk msZ35 FZ35)
  | _ => none
 bxf := fun _ => none
 mv := []
 keep := fun _ => []
 keepB := fun _ => []
 keepX := fun _ => []
 keepXB := fun _ => []
theorem goodFZ56:∀ f ms F,EZ56.fn f = some (ms,F) → Sound Tryz.prog f ms F := fun f ms F h => by
 unfold EZ56 at h
 dsimp only at h
 split at h
 ·exact gF sZ55 h
 ·exact gF sZ35 h
 ·cases h
theorem goodZ56:Good Tryz.prog EZ56 := ⟨rfl,goodFZ56,fun f ms F h => by cases h⟩
noncomputable def OZ56_0:Orc := fun _ _ => none
noncomputable def msZ56:List PM := [.rd,.own]
noncomputable def lsZ56:List (Nat×Code) := loopsAll 0 (Tryz.f132.body.getD .skip)
theorem kZ56_0:OrcOk EZ56 OZ56_0 lsZ56 0 := orcOk_none
noncomputable def g_AZ56 (a0:Int) (a1:Int) (a2:List ByteArray) (a3:tL2) (a4:Int):Bool := g_AZ55 a2 a4&&(decide (g_VZ55_0 a2 a4 < 0) || g_AZ35 a3 (g_VZ55_0 a2 a4)&&true)
noncomputable def g_VZ56_0 (a0:Int) (a1:Int) (a2:List ByteArray) (a3:tL2) (a4:Int):Int := bif decide (g_VZ55_0 a2 a4 < 0) then (-1:Int) else bif decide (g_VZ35_0 a3 (g_VZ55_0 a2 a4) < 0) then (-1:Int) else g_VZ35_0 a3 (g_VZ55_0 a2 a4)
noncomputable def FZ56:FSem := fun ys => match ys with
 | [.val true [.int .i64 a0,.int .i64 a1,.sl .any 9 .str a2,.sl .any 196 (.pair .str (.pair .bool (.sl 3 (.int .i64)))) a3],.val false [.int .i64 a4]] => some ((g_AZ56 a0 a1 a2 a3 a4),.val false [.int .i64 (g_VZ56_0 a0 a1 a2 a3 a4)],[])
 | _ => none
theorem vZ56 (a0:Int) (a1:Int) (a2:List ByteArray) (a3:tL2) (a4:Int):collapseH .std EZ56 OZ56_0 (execFn EZ56 Tryz.f132 msZ56 [.val true [.int .i64 a0,.int .i64 a1,.sl .any 9 .str a2,.sl .any 196 (.pair .str (.pair .bool (.sl 3 (.int .i64)))) a3],.val false [.int .i64 a4]]) = some ((g_AZ56 a0 a1 a2 a3 a4),.val false [.int .i64 (g_VZ56_0 a0 a1 a2 a3 a4)],[]) := by kernel_rfl
theorem sZ56:Sound Tryz.prog 132 msZ56 FZ56 := by
 refine fn_gen goodZ56 (by kernel_rfl) .std (fn := Tryz.f132) (c := (Tryz.f132.body.getD .skip)) (o := OZ56_0) (k := 0) (by kernel_rfl) (by kernel_rfl) (by kernel_rfl) (by kernel_rfl) (by decide) kZ56_0 ?_
 intro ys r outs h
 unfold FZ56 at h
 split at h
 ·exact (vZ56 _ _ _ _ _).trans h
 ·cases h
noncomputable def EZ45:Env where
 tt := mkTI Tryz.prog
 fn := fun f => match f with
  | 132 => some (msZ56,FSem.wk msZ56 FZ56)
  | _ => none
 bxf := fun _ => none
 mv := []
 keep := fun b => match b with
  | 0 => [(0,false),(1,false),(5,false)]
  | _ => []
 keepB := fun b => match b with
  | 0 => []
  | _ => []
 keepX := fun b => match b with
  | 0 => [(1,false),(4,false)]
  | _ => []
 keepXB := fun b => match b with
  | 0 => []
  | _ => []
theorem goodFZ45:∀ f ms F,EZ45.fn f = some (ms,F) → Sound Tryz.prog f ms F := fun f ms F h => by
 unfold EZ45 at h
 dsimp only at h
 split at h
 ·exact gF sZ56 h
 ·cases h
theorem goodZ45:Good Tryz.prog EZ45 := ⟨rfl,goodFZ45,fun f ms F h => by cases h⟩
noncomputable def OZ45_0:Orc := fun _ _ => none
noncomputable def msZ45:List PM := [.rd,.own]
noncomputable def lsZ45:List (Nat×Code) := loopsAll 0 (Tryz.f88.body.getD .skip)
noncomputable def cZ45_0:Code := (loopOf 0 (Tryz.f88.body.getD .skip)).getD .skip
theorem lseqZ45:lsZ45 = [(0,cZ45_0)] := by kernel_rfl
theorem mZ45_0:∀ p,p ∈ lsZ45 → p.1 = 0 → p.2 = cZ45_0 := by
 intro p hp
 rw [lseqZ45] at hp
 simp only [List.mem_cons,List.not_mem_nil,or_false] at hp
 subst hp; simp
theorem kZ45_0:OrcOk EZ45 OZ45_0 lsZ45 0 := orcOk_none
noncomputable def hZ45_0 (y0:tL0) (y1:Int) (y2:Int):List (Pl×LV) := [(.T 0,.t (.val false [.sl .any 169 (.pair (.int .i64) (.pair (.int .i64) (.pair (.sl 9 .str) (.sl 196 (.pair .str (.pair .bool (.sl 3 (.int .i64)))))))) y0])),(.T 1,.t (.val false [.int .i64 y1])),(.T 5,.t (.val false [.int .i64 y2]))]
noncomputable def g_SZ45_0 (y0:tL0):(Int×Int) → RT (Int×Int) ((Int×Int) ⊕ (Int))
 | (y1,y2) => .br (true) (.br (decide (y2 < (y0.length:Int))) (.br (decide (0 ≤ y2 ∧ y2 < (y0.length:Int))) (.br (g_AZ56 (at_ yT3 y0 (Int.toNat y2)).1 (at_ yT3 y0 (Int.toNat y2)).2.1 (at_ yT3 y0 (Int.toNat y2)).2.2.1 (at_ yT3 y0 (Int.toNat y2)).2.2.2 y1) (.br (true) (.br (decide (g_VZ56_0 (at_ yT3 y0 (Int.toNat y2)).1 (at_ yT3 y0 (Int.toNat y2)).2.1 (at_ yT3 y0 (Int.toNat y2)).2.2.1 (at_ yT3 y0 (Int.toNat y2)).2.2.2 y1 < 0)) (.out (.inl ((g_VZ56_0 (at_ yT3 y0 (Int.toNat y2)).1 (at_ yT3 y0 (Int.toNat y2)).2.1 (at_ yT3 y0 (Int.toNat y2)).2.2.1 (at_ yT3 y0 (Int.toNat y2)).2.2.2 y1,(-1:Int))))) (.br (true) (.go ((g_VZ56_0 (at_ yT3 y0 (Int.toNat y2)).1 (at_ yT3 y0 (Int.toNat y2)).2.1 (at_ yT3 y0 (Int.toNat y2)).2.2.1 (at_ yT3 y0 (Int.toNat y2)).2.2.2 y1,IntKind.i64.wrap (y2 + 1)))) .bad)) .bad) .bad) .bad) (.out (.inr (y1)))) .bad
noncomputable def g_LZ45_0 (y0:tL0) (x:Int×Int):Option ((Int×Int) ⊕ (Int)) := loopO (g_SZ45_0 y0) x
noncomputable def xZ45_0 (y0:tL0):((Int×Int) ⊕ (Int)) → Ex×List (Pl×LV) := fun
 | .inl r => (.ret,[(.T 1,.t (.val false [.int .i64 r.1])),(.T 4,.t (.val false [.int .i64 r.2]))])
 | .inr (r) => (.exit 0,[(.T 1,.t (.val false [.int .i64 r])),(.T 4,.t (.val false [.undef]))])
noncomputable def OZ45_1:Orc := fun b h => match b,h with
 | 0,[(.T 0,.t (.val false [.sl .any 169 (.pair (.int .i64) (.pair (.int .i64) (.pair (.sl 9 .str) (.sl 196 (.pair .str (.pair .bool (.sl 3 (.int .i64)))))))) y0])),(.T 1,.t (.val false [.int .i64 y1])),(.T 5,.t (.val false [.int .i64 y2]))] => some (okO (g_LZ45_0 y0 (y1,y2)),(.br (isL (valO (g_LZ45_0 y0 (y1,y2)))) (.leaf .ret [(.T 1,.t (.val false [.int .i64 (getL (valO (g_LZ45_0 y0 (y1,y2)))).1])),(.T 4,.t (.val false [.int .i64 (getL (valO (g_LZ45_0 y0 (y1,y2)))).2]))]) (.leaf (.exit 0) [(.T 1,.t (.val false [.int .i64 (getR (valO (g_LZ45_0 y0 (y1,y2))))])),(.T 4,.t (.val false [.undef]))])))
 | b,h => OZ45_0 b h
theorem bZ45_0 (y0:tL0) (y1:Int) (y2:Int):Tr.bt EZ45 OZ45_0 (exec EZ45 0 cZ45_0 (St.of (hZ45_0 y0 y1 y2)) (leafRd EZ45 0)) = (g_SZ45_0 y0 (y1,y2)).bt (fun ((y1,y2):Int×Int) => (hZ45_0 y0 y1 y2)) (xZ45_0 y0) := by kernel_rfl
theorem kZ45_1:OrcOk EZ45 OZ45_1 lsZ45 1 := orc_add kZ45_0 (fun n p hp h ex h' ho => by
 obtain ⟨b,c⟩ := p
 obtain ⟨xt,h1,h2⟩ := ho
 have h1:OZ45_1 b h = some (true,xt) := h1
 unfold OZ45_1 at h1
 split at h1
 ·injection h1 with h1
  injection h1 with e1 e2
  subst e2
  have hc:c = cZ45_0 := mZ45_0 _ hp rfl
  subst hc
  right
  rename_i y0 y1 y2
  have key := LT_step kZ45_0 hp (fun q hq => loopsAll_in _ _ _ _ hp hq) (fun ((y1,y2):Int×Int) => (hZ45_0 y0 y1 y2)) (xZ45_0 y0) (g_SZ45_0 y0) (fun x => by first | exact bZ45_0 y0 x.1 x.2) n (x := (y1,y2)) (okO_some e1)
  have hx:∀ r,XT.sel (.br (isL r) (.leaf .ret [(.T 1,.t (.val false [.int .i64 (getL r).1])),(.T 4,.t (.val false [.int .i64 (getL r).2]))]) (.leaf (.exit 0) [(.T 1,.t (.val false [.int .i64 (getR r)])),(.T 4,.t (.val false [.undef]))])) = xZ45_0 y0 r := fun r => by first | rfl | rcases r with r | r <;> rfl | rcases r with r | r | r <;> rfl | rcases r with r | r | r | r <;> rfl
  have h3 := (hx (valO (g_LZ45_0 y0 (y1,y2)))).symm.trans h2
  have e3 := congrArg Prod.fst h3
  have e4 := congrArg Prod.snd h3
  simp only at e3 e4
  rw [← e3,← e4]
  exact key
 ·exact .inl ⟨xt,h1,h2⟩)
noncomputable def g_AZ45 (a0:tL0) (a1:Int):Bool := decide (IntKind.i64.wrap (a1 - (a0.length:Int)) < 0) || okO (g_LZ45_0 a0 (IntKind.i64.wrap (a1 - (a0.length:Int)),(0:Int)))
noncomputable def g_VZ45_0 (a0:tL0) (a1:Int):Int := bif decide (IntKind.i64.wrap (a1 - (a0.length:Int)) < 0) then (-1:Int) else bif isL (valO (g_LZ45_0 a0 (IntKind.i64.wrap (a1 - (a0.length:Int)),(0:Int)))) then (getL (valO (g_LZ45_0 a0 (IntKind.i64.wrap (a1 - (a0.length:Int)),(0:Int))))).2 else getR (valO (g_LZ45_0 a0 (IntKind.i64.wrap (a1 - (a0.length:Int)),(0:Int))))
noncomputable def FZ45:FSem := fun ys => match ys with
 | [.val false [.sl .any 169 (.pair (.int .i64) (.pair (.int .i64) (.pair (.sl 9 .str) (.sl 196 (.pair .str (.pair .bool (.sl 3 (.int .i64)))))))) a0],.val false [.int .i64 a1]] => some ((g_AZ45 a0 a1),.val false [.int .i64 (g_VZ45_0 a0 a1)],[])
 | _ => none
theorem vZ45 (a0:tL0) (a1:Int):collapseH .std EZ45 OZ45_1 (execFn EZ45 Tryz.f88 msZ45 [.val false [.sl .any 169 (.pair (.int .i64) (.pair (.int .i64) (.pair (.sl 9 .str) (.sl 196 (.pair .str (.pair .bool (.sl 3 (.int .i64)))))))) a0],.val false [.int .i64 a1]]) = some ((g_AZ45 a0 a1),.val false [.int .i64 (g_VZ45_0 a0 a1)],[]) := by kernel_rfl
theorem sZ45:Sound Tryz.prog 88 msZ45 FZ45 := by
 refine fn_gen goodZ45 (by kernel_rfl) .std (fn := Tryz.f88) (c := (Tryz.f88.body.getD .skip)) (o := OZ45_1) (k := 1) (by kernel_rfl) (by kernel_rfl) (by kernel_rfl) (by kernel_rfl) (by decide) kZ45_1 ?_
 intro ys r outs h
 unfold FZ45 at h
 split at h
 ·exact (vZ45 _ _).trans h
 ·cases h
noncomputable def EZ57:Env where
 tt := mkTI Tryz.prog
 fn := fun f => match f with
  | 88 => some (msZ45,FSem.wk msZ45 FZ45)
  | _ => none
 bxf := fun _ => none
 mv := []
 keep := fun _ => []
 keepB := fun _ => []
 keepX := fun _ => []
 keepXB := fun _ => []
theorem goodFZ57:∀ f ms F,EZ57.fn f = some (ms,F) → Sound Tryz.prog f ms F := fun f ms F h => by
 unfold EZ57 at h
 dsimp only at h
 split at h
 ·exact gF sZ45 h
 ·cases h
theorem goodZ57:Good Tryz.prog EZ57 := ⟨rfl,goodFZ57,fun f ms F h => by cases h⟩
noncomputable def OZ57_0:Orc := fun _ _ => none
noncomputable def msZ57:List PM := [.rd,.own]
noncomputable def lsZ57:List (Nat×Code) := loopsAll 0 (Tryz.f27.body.getD .skip)
theorem kZ57_0:OrcOk EZ57 OZ57_0 lsZ57 0 := orcOk_none
noncomputable def g_AZ57 (a0:tL0) (a1:Int) (a2:Int):Bool := g_AZ45 a0 a2&&true
noncomputable def g_VZ57_0 (a0:tL0) (a1:Int) (a2:Int):Int := bif decide (g_VZ45_0 a0 a2 < 0) then (-1:Int) else g_VZ45_0 a0 a2
noncomputable def FZ57:FSem := fun ys => match ys with
 | [.val true [.sl .any 169 (.pair (.int .i64) (.pair (.int .i64) (.pair (.sl 9 .str) (.sl 196 (.pair .str (.pair .bool (.sl 3 (.int .i64)))))))) a0,.int .i64 a1],.val false [.int .i64 a2]] => some ((g_AZ57 a0 a1 a2),.val false [.int .i64 (g_VZ57_0 a0 a1 a2)],[])
 | _ => none
theorem vZ57 (a0:tL0) (a1:Int) (a2:Int):collapseH .std EZ57 OZ57_0 (execFn EZ57 Tryz.f27 msZ57 [.val true [.sl .any 169 (.pair (.int .i64) (.pair (.int .i64) (.pair (.sl 9 .str) (.sl 196 (.pair .str (.pair .bool (.sl 3 (.int .i64)))))))) a0,.int .i64 a1],.val false [.int .i64 a2]]) = some ((g_AZ57 a0 a1 a2),.val false [.int .i64 (g_VZ57_0 a0 a1 a2)],[]) := by kernel_rfl
theorem sZ57:Sound Tryz.prog 27 msZ57 FZ57 := by
 refine fn_gen goodZ57 (by kernel_rfl) .std (fn := Tryz.f27) (c := (Tryz.f27.body.getD .skip)) (o := OZ57_0) (k := 0) (by kernel_rfl) (by kernel_rfl) (by kernel_rfl) (by kernel_rfl) (by decide) kZ57_0 ?_
 intro ys r outs h
 unfold FZ57 at h
 split at h
 ·exact (vZ57 _ _ _).trans h
 ·cases h
noncomputable def EZ46:Env where
 tt := mkTI Tryz.prog
 fn := fun f => match f with
  | 27 => some (msZ57,FSem.wk msZ57 FZ57)
  | 28 => some (msZ72,FSem.wk msZ72 FZ72)
  | _ => none
 bxf := fun _ => none
 mv := []
 keep := fun _ => []
 keepB := fun _ => []
 keepX := fun _ => []
 keepXB := fun _ => []
theorem goodFZ46:∀ f ms F,EZ46.fn f = some (ms,F) → Sound Tryz.prog f ms F := fun f ms F h => by
 unfold EZ46 at h
 dsimp only at h
 split at h
 ·exact gF sZ57 h
 ·exact gF sZ72 h
 ·cases h
theorem goodZ46:Good Tryz.prog EZ46 := ⟨rfl,goodFZ46,fun f ms F h => by cases h⟩
noncomputable def OZ46_0:Orc := fun _ _ => none
noncomputable def msZ46:List PM := [.rd,.own]
noncomputable def lsZ46:List (Nat×Code) := loopsAll 0 (Tryz.f7.body.getD .skip)
theorem kZ46_0:OrcOk EZ46 OZ46_0 lsZ46 0 := orcOk_none
noncomputable def g_AZ46 (a0:tL0) (a1:Int) (a2:tL1) (a3:Int):Bool := g_AZ57 a0 a1 a3&&(decide (g_VZ57_0 a0 a1 a3 < 0) || g_AZ72 a2 (g_VZ57_0 a0 a1 a3)&&true)
noncomputable def g_VZ46_0 (a0:tL0) (a1:Int) (a2:tL1) (a3:Int):Int := bif decide (g_VZ57_0 a0 a1 a3 < 0) then (-1:Int) else bif decide (g_VZ72_0 a2 (g_VZ57_0 a0 a1 a3) < 0) then (-1:Int) else g_VZ72_0 a2 (g_VZ57_0 a0 a1 a3)
noncomputable def FZ46:FSem := fun ys => match ys with
 | [.val true [.sl .any 169 (.pair (.int .i64) (.pair (.int .i64) (.pair (.sl 9 .str) (.sl 196 (.pair .str (.pair .bool (.sl 3 (.int .i64)))))))) a0,.int .i64 a1,.sl .any 129 (.pair (.int .i64) (.pair (.pair (.int .i64) (.pair (.int .i64) (.pair (.int .i64) (.pair (.int .i64) (.pair (.int .i64) (.pair (.int .i64) (.int .i64))))))) (.pair .bool (.pair (.sl 3 (.int .i64)) (.sl 3 (.int .i64)))))) a2],.val false [.int .i64 a3]] => some ((g_AZ46 a0 a1 a2 a3),.val false [.int .i64 (g_VZ46_0 a0 a1 a2 a3)],[])
 | _ => none
theorem vZ46 (a0:tL0) (a1:Int) (a2:tL1) (a3:Int):collapseH .std EZ46 OZ46_0 (execFn EZ46 Tryz.f7 msZ46 [.val true [.sl .any 169 (.pair (.int .i64) (.pair (.int .i64) (.pair (.sl 9 .str) (.sl 196 (.pair .str (.pair .bool (.sl 3 (.int .i64)))))))) a0,.int .i64 a1,.sl .any 129 (.pair (.int .i64) (.pair (.pair (.int .i64) (.pair (.int .i64) (.pair (.int .i64) (.pair (.int .i64) (.pair (.int .i64) (.pair (.int .i64) (.int .i64))))))) (.pair .bool (.pair (.sl 3 (.int .i64)) (.sl 3 (.int .i64)))))) a2],.val false [.int .i64 a3]]) = some ((g_AZ46 a0 a1 a2 a3),.val false [.int .i64 (g_VZ46_0 a0 a1 a2 a3)],[]) := by kernel_rfl
theorem sZ46:Sound Tryz.prog 7 msZ46 FZ46 := by
 refine fn_gen goodZ46 (by kernel_rfl) .std (fn := Tryz.f7) (c := (Tryz.f7.body.getD .skip)) (o := OZ46_0) (k := 0) (by kernel_rfl) (by kernel_rfl) (by kernel_rfl) (by kernel_rfl) (by decide) kZ46_0 ?_
 intro ys r outs h
 unfold FZ46 at h
 split at h
 ·exact (vZ46 _ _ _ _).trans h
 ·cases h
noncomputable def Ew_toIntS:Env where
 tt := mkTI Tryz.prog
 fn := fun _ => none
 bxf := fun _ => none
 mv := []
 keep := fun b => match b with
  | 0 => [(0,false),(3,false),(4,false)]
  | _ => []
 keepB := fun b => match b with
  | 0 => []
  | _ => []
 keepX := fun b => match b with
  | 0 => [(3,false)]
  | _ => []
 keepXB := fun b => match b with
  | 0 => []
  | _ => []
theorem goodFw_toIntS:∀ f ms F,Ew_toIntS.fn f = some (ms,F) → Sound Tryz.prog f ms F := fun f ms F h => by cases h
theorem goodw_toIntS:Good Tryz.prog Ew_toIntS := ⟨rfl,goodFw_toIntS,fun f ms F h => by cases h⟩
noncomputable def Ow_toIntS_0:Orc := fun _ _ => none
noncomputable def msw_toIntS:List PM := [.rd]
noncomputable def lsw_toIntS:List (Nat×Code) := loopsAll 0 (Tryz.f136.body.getD .skip)
noncomputable def cw_toIntS_0:Code := (loopOf 0 (Tryz.f136.body.getD .skip)).getD .skip
theorem lseqw_toIntS:lsw_toIntS = [(0,cw_toIntS_0)] := by kernel_rfl
theorem mw_toIntS_0:∀ p,p ∈ lsw_toIntS → p.1 = 0 → p.2 = cw_toIntS_0 := by
 intro p hp
 rw [lseqw_toIntS] at hp
 simp only [List.mem_cons,List.not_mem_nil,or_false] at hp
 subst hp; simp
theorem kw_toIntS_0:OrcOk Ew_toIntS Ow_toIntS_0 lsw_toIntS 0 := orcOk_none
noncomputable def hw_toIntS_0 (y0:List Int) (y1:List Int) (y2:Int):List (Pl×LV) := [(.T 0,.t (.val false [.sl .any 3 (.int .i64) y0])),(.T 3,.t (.val false [.row 3 0 0])),(.R 3 0,.r 0 (some ⟨false,.non,true,3,(.int .i64),y1⟩)),(.T 4,.t (.val false [.int .i64 y2]))]
noncomputable def g_Sw_toIntS_0 (y0:List Int):((List Int)×Int) → RT ((List Int)×Int) (((List Int)))
 | (y1,y2) => .br (true) (.br (decide (y2 < (y0.length:Int))) (.br (decide (0 ≤ y2 ∧ y2 < (y0.length:Int))) (.br (decide (0 ≤ y2 ∧ y2 < (y1.length:Int))) (.br (decide (Int.toNat y2 < List.length y1)) (.br (true) (.go ((List.set y1 (Int.toNat y2) (at_ (.int .i64) y0 (Int.toNat y2)),IntKind.i64.wrap (y2 + 1)))) .bad) .bad) .bad) .bad) (.out (y1))) .bad
noncomputable def g_Lw_toIntS_0 (y0:List Int) (x:(List Int)×Int):Option (((List Int))) := loopO (g_Sw_toIntS_0 y0) x
noncomputable def xw_toIntS_0 (y0:List Int):(((List Int))) → Ex×List (Pl×LV) := fun r => (.exit 0,[(.T 3,.t (.val false [.row 3 0 0])),(.R 3 0,.r 0 (some ⟨false,.non,true,3,(.int .i64),r⟩))])
noncomputable def Ow_toIntS_1:Orc := fun b h => match b,h with
 | 0,[(.T 0,.t (.val false [.sl .any 3 (.int .i64) y0])),(.T 3,.t (.val false [.row 3 0 0])),(.R 3 0,.r 0 (some ⟨false,.non,true,3,(.int .i64),y1⟩)),(.T 4,.t (.val false [.int .i64 y2]))] => some (okO (g_Lw_toIntS_0 y0 (y1,y2)),(.leaf (.exit 0) [(.T 3,.t (.val false [.row 3 0 0])),(.R 3 0,.r 0 (some ⟨false,.non,true,3,(.int .i64),(valO (g_Lw_toIntS_0 y0 (y1,y2)))⟩))]))
 | b,h => Ow_toIntS_0 b h
theorem bw_toIntS_0 (y0:List Int) (y1:List Int) (y2:Int):Tr.bt Ew_toIntS Ow_toIntS_0 (exec Ew_toIntS 0 cw_toIntS_0 (St.of (hw_toIntS_0 y0 y1 y2)) (leafRd Ew_toIntS 0)) = (g_Sw_toIntS_0 y0 (y1,y2)).bt (fun ((y1,y2):(List Int)×Int) => (hw_toIntS_0 y0 y1 y2)) (xw_toIntS_0 y0) := by kernel_rfl
theorem kw_toIntS_1:OrcOk Ew_toIntS Ow_toIntS_1 lsw_toIntS 1 := orc_add kw_toIntS_0 (fun n p hp h ex h' ho => by
 obtain ⟨b,c⟩ := p
 obtain ⟨xt,h1,h2⟩ := ho
 have h1:Ow_toIntS_1 b h = some (true,xt) := h1
 unfold Ow_toIntS_1 at h1
 split at h1
 ·injection h1 with h1
  injection h1 with e1 e2
  subst e2
  have hc:c = cw_toIntS_0 := mw_toIntS_0 _ hp rfl
  subst hc
  right
  rename_i y0 y1 y2
  have key := LT_step kw_toIntS_0 hp (fun q hq => loopsAll_in _ _ _ _ hp hq) (fun ((y1,y2):(List Int)×Int) => (hw_toIntS_0 y0 y1 y2)) (xw_toIntS_0 y0) (g_Sw_toIntS_0 y0) (fun x => by first | exact bw_toIntS_0 y0 x.1 x.2) n (x := (y1,y2)) (okO_some e1)
  have hx:∀ r,XT.sel (.leaf (.exit 0) [(.T 3,.t (.val false [.row 3 0 0])),(.R 3 0,.r 0 (some ⟨false,.non,true,3,(.int .i64),r⟩))]) = xw_toIntS_0 y0 r := fun r => by first | rfl | rcases r with r | r <;> rfl | rcases r with r | r | r <;> rfl | rcases r with r | r | r | r <;> rfl
  have h3 := (hx (valO (g_Lw_toIntS_0 y0 (y1,y2)))).symm.trans h2
  have e3 := congrArg Prod.fst h3
  have e4 := congrArg Prod.snd h3
  simp only at e3 e4
  rw [← e3,← e4]
  exact key
 ·exact .inl ⟨xt,h1,h2⟩)
noncomputable def g_Aw_toIntS (a0:List Int):Bool := decide ((a0.length:Int) = (a0.length:Int) ∧ 0 ≤ (a0.length:Int) ∧ (a0.length:Int) ≤ 9223372036854775807 ∧ 8 * (a0.length:Int) ≤ 281474976710656)&&okO (g_Lw_toIntS_0 a0 (List.replicate (Int.toNat (a0.length:Int)) (0:Int),(0:Int)))
noncomputable def g_Vw_toIntS_0 (a0:List Int):List Int := valO (g_Lw_toIntS_0 a0 (List.replicate (Int.toNat (a0.length:Int)) (0:Int),(0:Int)))
noncomputable def Fw_toIntS:FSem := fun ys => match ys with
 | [.val false [.sl .any 3 (.int .i64) a0]] => some ((g_Aw_toIntS a0),.val false [.own .any true 3 (.int .i64) (g_Vw_toIntS_0 a0)],[])
 | _ => none
theorem vw_toIntS (a0:List Int):collapseH .std Ew_toIntS Ow_toIntS_1 (execFn Ew_toIntS Tryz.f136 msw_toIntS [.val false [.sl .any 3 (.int .i64) a0]]) = some ((g_Aw_toIntS a0),.val false [.own .any true 3 (.int .i64) (g_Vw_toIntS_0 a0)],[]) := by kernel_rfl
theorem sw_toIntS:Sound Tryz.prog 136 msw_toIntS Fw_toIntS := by
 refine fn_gen goodw_toIntS (by kernel_rfl) .std (fn := Tryz.f136) (c := (Tryz.f136.body.getD .skip)) (o := Ow_toIntS_1) (k := 1) (by kernel_rfl) (by kernel_rfl) (by kernel_rfl) (by kernel_rfl) (by decide) kw_toIntS_1 ?_
 intro ys r outs h
 unfold Fw_toIntS at h
 split at h
 ·exact (vw_toIntS _).trans h
 ·cases h
noncomputable def Ew_toOpOp:Env where
 tt := mkTI Tryz.prog
 fn := fun _ => none
 bxf := fun _ => none
 mv := []
 keep := fun _ => []
 keepB := fun _ => []
 keepX := fun _ => []
 keepXB := fun _ => []
theorem goodFw_toOpOp:∀ f ms F,Ew_toOpOp.fn f = some (ms,F) → Sound Tryz.prog f ms F := fun f ms F h => by cases h
theorem goodw_toOpOp:Good Tryz.prog Ew_toOpOp := ⟨rfl,goodFw_toOpOp,fun f ms F h => by cases h⟩
noncomputable def Ow_toOpOp_0:Orc := fun _ _ => none
noncomputable def msw_toOpOp:List PM := [.own]
noncomputable def lsw_toOpOp:List (Nat×Code) := loopsAll 0 (Tryz.f20.body.getD .skip)
theorem kw_toOpOp_0:OrcOk Ew_toOpOp Ow_toOpOp_0 lsw_toOpOp 0 := orcOk_none
noncomputable def Fw_toOpOp:FSem := fun ys => match ys with
 | [.val true [.int .i64 a0,.int .i64 a1,.int .i64 a2,.int .i64 a3,.int .i64 a4,.int .i64 a5,.int .i64 a6]] => some (true,.val true [.int .i64 a0,.int .i64 a1,.int .i64 a2,.int .i64 a3,.int .i64 a4,.int .i64 a5,.int .i64 a6],[])
 | _ => none
theorem vw_toOpOp (a0:Int) (a1:Int) (a2:Int) (a3:Int) (a4:Int) (a5:Int) (a6:Int):collapseH .std Ew_toOpOp Ow_toOpOp_0 (execFn Ew_toOpOp Tryz.f20 msw_toOpOp [.val true [.int .i64 a0,.int .i64 a1,.int .i64 a2,.int .i64 a3,.int .i64 a4,.int .i64 a5,.int .i64 a6]]) = some (true,.val true [.int .i64 a0,.int .i64 a1,.int .i64 a2,.int .i64 a3,.int .i64 a4,.int .i64 a5,.int .i64 a6],[]) := by kernel_rfl
theorem sw_toOpOp:Sound Tryz.prog 20 msw_toOpOp Fw_toOpOp := by
 refine fn_gen goodw_toOpOp (by kernel_rfl) .std (fn := Tryz.f20) (c := (Tryz.f20.body.getD .skip)) (o := Ow_toOpOp_0) (k := 0) (by kernel_rfl) (by kernel_rfl) (by kernel_rfl) (by kernel_rfl) (by decide) kw_toOpOp_0 ?_
 intro ys r outs h
 unfold Fw_toOpOp at h
 split at h
 ·exact (vw_toOpOp _ _ _ _ _ _ _).trans h
 ·cases h
noncomputable def Ew_toFroTx:Env where
 tt := mkTI Tryz.prog
 fn := fun f => match f with
  | 20 => some (msw_toOpOp,FSem.wk msw_toOpOp Fw_toOpOp)
  | 136 => some (msw_toIntS,FSem.wk msw_toIntS Fw_toIntS)
  | _ => none
 bxf := fun _ => none
 mv := []
 keep := fun _ => []
 keepB := fun _ => []
 keepX := fun _ => []
 keepXB := fun _ => []
theorem goodFw_toFroTx:∀ f ms F,Ew_toFroTx.fn f = some (ms,F) → Sound Tryz.prog f ms F := fun f ms F h => by
 unfold Ew_toFroTx at h
 dsimp only at h
 split at h
 ·exact gF sw_toOpOp h
 ·exact gF sw_toIntS h
 ·cases h
theorem goodw_toFroTx:Good Tryz.prog Ew_toFroTx := ⟨rfl,goodFw_toFroTx,fun f ms F h => by cases h⟩
noncomputable def Ow_toFroTx_0:Orc := fun _ _ => none
noncomputable def msw_toFroTx:List PM := [.rd]
noncomputable def lsw_toFroTx:List (Nat×Code) := loopsAll 0 (Tryz.f94.body.getD .skip)
theorem kw_toFroTx_0:OrcOk Ew_toFroTx Ow_toFroTx_0 lsw_toFroTx 0 := orcOk_none
noncomputable def g_Aw_toFroTx (a0:Int) (a1:Int) (a2:Int) (a3:Int) (a4:Int) (a5:Int) (a6:Int) (a7:Int) (a8:Bool) (a9:List Int) (a10:List Int):Bool := g_Aw_toIntS a9&&g_Aw_toIntS a10
noncomputable def Fw_toFroTx:FSem := fun ys => match ys with
 | [.val true [.int .i64 a0,.int .i64 a1,.int .i64 a2,.int .i64 a3,.int .i64 a4,.int .i64 a5,.int .i64 a6,.int .i64 a7,.bool a8,.sl .any 3 (.int .i64) a9,.sl .any 3 (.int .i64) a10]] => some ((g_Aw_toFroTx a0 a1 a2 a3 a4 a5 a6 a7 a8 a9 a10),.val true [.int .i64 a0,.int .i64 a1,.int .i64 a2,.int .i64 a3,.int .i64 a4,.int .i64 a5,.int .i64 a6,.int .i64 a7,.bool a8,.own .any true 3 (.int .i64) (g_Vw_toIntS_0 a9),.own .any true 3 (.int .i64) (g_Vw_toIntS_0 a10)],[])
 | _ => none
theorem vw_toFroTx (a0:Int) (a1:Int) (a2:Int) (a3:Int) (a4:Int) (a5:Int) (a6:Int) (a7:Int) (a8:Bool) (a9:List Int) (a10:List Int):collapseH .std Ew_toFroTx Ow_toFroTx_0 (execFn Ew_toFroTx Tryz.f94 msw_toFroTx [.val true [.int .i64 a0,.int .i64 a1,.int .i64 a2,.int .i64 a3,.int .i64 a4,.int .i64 a5,.int .i64 a6,.int .i64 a7,.bool a8,.sl .any 3 (.int .i64) a9,.sl .any 3 (.int .i64) a10]]) = some ((g_Aw_toFroTx a0 a1 a2 a3 a4 a5 a6 a7 a8 a9 a10),.val true [.int .i64 a0,.int .i64 a1,.int .i64 a2,.int .i64 a3,.int .i64 a4,.int .i64 a5,.int .i64 a6,.int .i64 a7,.bool a8,.own .any true 3 (.int .i64) (g_Vw_toIntS_0 a9),.own .any true 3 (.int .i64) (g_Vw_toIntS_0 a10)],[]) := by kernel_rfl
theorem sw_toFroTx:Sound Tryz.prog 94 msw_toFroTx Fw_toFroTx := by
 refine fn_gen goodw_toFroTx (by kernel_rfl) .std (fn := Tryz.f94) (c := (Tryz.f94.body.getD .skip)) (o := Ow_toFroTx_0) (k := 0) (by kernel_rfl) (by kernel_rfl) (by kernel_rfl) (by kernel_rfl) (by decide) kw_toFroTx_0 ?_
 intro ys r outs h
 unfold Fw_toFroTx at h
 split at h
 ·exact (vw_toFroTx _ _ _ _ _ _ _ _ _ _ _).trans h
 ·cases h
noncomputable def EZ73:Env where
 tt := mkTI Tryz.prog
 fn := fun f => match f with
  | 94 => some (msw_toFroTx,FSem.wk msw_toFroTx Fw_toFroTx)
  | _ => none
 bxf := fun _ => none
 mv := []
 keep := fun b => match b with
  | 0 => [(0,false),(3,false),(4,false)]
  | _ => []
 keepB := fun b => match b with
  | 0 => []
  | _ => []
 keepX := fun b => match b with
  | 0 => [(3,false)]
  | _ => []
 keepXB := fun b => match b with
  | 0 => []
  | _ => []
theorem goodFZ73:∀ f ms F,EZ73.fn f = some (ms,F) → Sound Tryz.prog f ms F := fun f ms F h => by
 unfold EZ73 at h
 dsimp only at h
 split at h
 ·exact gF sw_toFroTx h
 ·cases h
theorem goodZ73:Good Tryz.prog EZ73 := ⟨rfl,goodFZ73,fun f ms F h => by cases h⟩
noncomputable def OZ73_0:Orc := fun _ _ => none
noncomputable def msZ73:List PM := [.rd]
noncomputable def lsZ73:List (Nat×Code) := loopsAll 0 (Tryz.f35.body.getD .skip)
noncomputable def cZ73_0:Code := (loopOf 0 (Tryz.f35.body.getD .skip)).getD .skip
theorem lseqZ73:lsZ73 = [(0,cZ73_0)] := by kernel_rfl
theorem mZ73_0:∀ p,p ∈ lsZ73 → p.1 = 0 → p.2 = cZ73_0 := by
 intro p hp
 rw [lseqZ73] at hp
 simp only [List.mem_cons,List.not_mem_nil,or_false] at hp
 subst hp; simp
theorem kZ73_0:OrcOk EZ73 OZ73_0 lsZ73 0 := orcOk_none
noncomputable def hZ73_0 (y0:tL1) (y1:tL1) (y2:Int):List (Pl×LV) := [(.T 0,.t (.val false [.sl .any 129 (.pair (.int .i64) (.pair (.pair (.int .i64) (.pair (.int .i64) (.pair (.int .i64) (.pair (.int .i64) (.pair (.int .i64) (.pair (.int .i64) (.int .i64))))))) (.pair .bool (.pair (.sl 3 (.int .i64)) (.sl 3 (.int .i64)))))) y0])),(.T 3,.t (.val false [.row 3 0 0])),(.R 3 0,.r 0 (some ⟨false,.non,true,73,(.pair (.int .i64) (.pair (.pair (.int .i64) (.pair (.int .i64) (.pair (.int .i64) (.pair (.int .i64) (.pair (.int .i64) (.pair (.int .i64) (.int .i64))))))) (.pair .bool (.pair (.sl 3 (.int .i64)) (.sl 3 (.int .i64)))))),y1⟩)),(.T 4,.t (.val false [.int .i64 y2]))]
noncomputable def g_SZ73_0 (y0:tL1):(tL1×Int) → RT (tL1×Int) ((tL1))
 | (y1,y2) => .br (true) (.br (decide (y2 < (y0.length:Int))) (.br (decide (0 ≤ y2 ∧ y2 < (y0.length:Int))) (.br (g_Aw_toFroTx (at_ yT0 y0 (Int.toNat y2)).1 (at_ yT0 y0 (Int.toNat y2)).2.1.1 (at_ yT0 y0 (Int.toNat y2)).2.1.2.1 (at_ yT0 y0 (Int.toNat y2)).2.1.2.2.1 (at_ yT0 y0 (Int.toNat y2)).2.1.2.2.2.1 (at_ yT0 y0 (Int.toNat y2)).2.1.2.2.2.2.1 (at_ yT0 y0 (Int.toNat y2)).2.1.2.2.2.2.2.1 (at_ yT0 y0 (Int.toNat y2)).2.1.2.2.2.2.2.2 (at_ yT0 y0 (Int.toNat y2)).2.2.1 (at_ yT0 y0 (Int.toNat y2)).2.2.2.1 (at_ yT0 y0 (Int.toNat y2)).2.2.2.2) (.br (decide (0 ≤ y2 ∧ y2 < (y1.length:Int))) (.br (decide (Int.toNat y2 < List.length y1)) (.br (true) (.go ((List.set y1 (Int.toNat y2) ((at_ yT0 y0 (Int.toNat y2)).1,((at_ yT0 y0 (Int.toNat y2)).2.1.1,(at_ yT0 y0 (Int.toNat y2)).2.1.2.1,(at_ yT0 y0 (Int.toNat y2)).2.1.2.2.1,(at_ yT0 y0 (Int.toNat y2)).2.1.2.2.2.1,(at_ yT0 y0 (Int.toNat y2)).2.1.2.2.2.2.1,(at_ yT0 y0 (Int.toNat y2)).2.1.2.2.2.2.2.1,(at_ yT0 y0 (Int.toNat y2)).2.1.2.2.2.2.2.2),(at_ yT0 y0 (Int.toNat y2)).2.2.1,g_Vw_toIntS_0 (at_ yT0 y0 (Int.toNat y2)).2.2.2.1,g_Vw_toIntS_0 (at_ yT0 y0 (Int.toNat y2)).2.2.2.2),IntKind.i64.wrap (y2 + 1)))) .bad) .bad) .bad) .bad) .bad) (.out (y1))) .bad
noncomputable def g_LZ73_0 (y0:tL1) (x:tL1×Int):Option ((tL1)) := loopO (g_SZ73_0 y0) x
noncomputable def xZ73_0 (y0:tL1):((tL1)) → Ex×List (Pl×LV) := fun r => (.exit 0,[(.T 3,.t (.val false [.row 3 0 0])),(.R 3 0,.r 0 (some ⟨false,.non,true,73,(.pair (.int .i64) (.pair (.pair (.int .i64) (.pair (.int .i64) (.pair (.int .i64) (.pair (.int .i64) (.pair (.int .i64) (.pair (.int .i64) (.int .i64))))))) (.pair .bool (.pair (.sl 3 (.int .i64)) (.sl 3 (.int .i64)))))),r⟩))])
noncomputable def OZ73_1:Orc := fun b h => match b,h with
 | 0,[(.T 0,.t (.val false [.sl .any 129 (.pair (.int .i64) (.pair (.pair (.int .i64) (.pair (.int .i64) (.pair (.int .i64) (.pair (.int .i64) (.pair (.int .i64) (.pair (.int .i64) (.int .i64))))))) (.pair .bool (.pair (.sl 3 (.int .i64)) (.sl 3 (.int .i64)))))) y0])),(.T 3,.t (.val false [.row 3 0 0])),(.R 3 0,.r 0 (some ⟨false,.non,true,73,(.pair (.int .i64) (.pair (.pair (.int .i64) (.pair (.int .i64) (.pair (.int .i64) (.pair (.int .i64) (.pair (.int .i64) (.pair (.int .i64) (.int .i64))))))) (.pair .bool (.pair (.sl 3 (.int .i64)) (.sl 3 (.int .i64)))))),y1⟩)),(.T 4,.t (.val false [.int .i64 y2]))] => some (okO (g_LZ73_0 y0 (y1,y2)),(.leaf (.exit 0) [(.T 3,.t (.val false [.row 3 0 0])),(.R 3 0,.r 0 (some ⟨false,.non,true,73,(.pair (.int .i64) (.pair (.pair (.int .i64) (.pair (.int .i64) (.pair (.int .i64) (.pair (.int .i64) (.pair (.int .i64) (.pair (.int .i64) (.int .i64))))))) (.pair .bool (.pair (.sl 3 (.int .i64)) (.sl 3 (.int .i64)))))),(valO (g_LZ73_0 y0 (y1,y2)))⟩))]))
 | b,h => OZ73_0 b h
theorem bZ73_0 (y0:tL1) (y1:tL1) (y2:Int):Tr.bt EZ73 OZ73_0 (exec EZ73 0 cZ73_0 (St.of (hZ73_0 y0 y1 y2)) (leafRd EZ73 0)) = (g_SZ73_0 y0 (y1,y2)).bt (fun ((y1,y2):tL1×Int) => (hZ73_0 y0 y1 y2)) (xZ73_0 y0) := by kernel_rfl
theorem kZ73_1:OrcOk EZ73 OZ73_1 lsZ73 1 := orc_add kZ73_0 (fun n p hp h ex h' ho => by
 obtain ⟨b,c⟩ := p
 obtain ⟨xt,h1,h2⟩ := ho
 have h1:OZ73_1 b h = some (true,xt) := h1
 unfold OZ73_1 at h1
 split at h1
 ·injection h1 with h1
  injection h1 with e1 e2
  subst e2
  have hc:c = cZ73_0 := mZ73_0 _ hp rfl
  subst hc
  right
  rename_i y0 y1 y2
  have key := LT_step kZ73_0 hp (fun q hq => loopsAll_in _ _ _ _ hp hq) (fun ((y1,y2):tL1×Int) => (hZ73_0 y0 y1 y2)) (xZ73_0 y0) (g_SZ73_0 y0) (fun x => by first | exact bZ73_0 y0 x.1 x.2) n (x := (y1,y2)) (okO_some e1)
  have hx:∀ r,XT.sel (.leaf (.exit 0) [(.T 3,.t (.val false [.row 3 0 0])),(.R 3 0,.r 0 (some ⟨false,.non,true,73,(.pair (.int .i64) (.pair (.pair (.int .i64) (.pair (.int .i64) (.pair (.int .i64) (.pair (.int .i64) (.pair (.int .i64) (.pair (.int .i64) (.int .i64))))))) (.pair .bool (.pair (.sl 3 (.int .i64)) (.sl 3 (.int .i64)))))),r⟩))]) = xZ73_0 y0 r := fun r => by first | rfl | rcases r with r | r <;> rfl | rcases r with r | r | r <;> rfl | rcases r with r | r | r | r <;> rfl
  have h3 := (hx (valO (g_LZ73_0 y0 (y1,y2)))).symm.trans h2
  have e3 := congrArg Prod.fst h3
  have e4 := congrArg Prod.snd h3
  simp only at e3 e4
  rw [← e3,← e4]
  exact key
 ·exact .inl ⟨xt,h1,h2⟩)
noncomputable def g_AZ73 (a0:tL1):Bool := decide ((a0.length:Int) = (a0.length:Int) ∧ 0 ≤ (a0.length:Int) ∧ (a0.length:Int) ≤ 9223372036854775807 ∧ 120 * (a0.length:Int) ≤ 281474976710656)&&okO (g_LZ73_0 a0 (List.replicate (Int.toNat (a0.length:Int)) ((0:Int),((0:Int),(0:Int),(0:Int),(0:Int),(0:Int),(0:Int),(0:Int)),false,([]:List Int),([]:List Int)),(0:Int)))
noncomputable def g_VZ73_0 (a0:tL1):tL1 := valO (g_LZ73_0 a0 (List.replicate (Int.toNat (a0.length:Int)) ((0:Int),((0:Int),(0:Int),(0:Int),(0:Int),(0:Int),(0:Int),(0:Int)),false,([]:List Int),([]:List Int)),(0:Int)))
noncomputable def FZ73:FSem := fun ys => match ys with
 | [.val false [.sl .any 129 (.pair (.int .i64) (.pair (.pair (.int .i64) (.pair (.int .i64) (.pair (.int .i64) (.pair (.int .i64) (.pair (.int .i64) (.pair (.int .i64) (.int .i64))))))) (.pair .bool (.pair (.sl 3 (.int .i64)) (.sl 3 (.int .i64)))))) a0]] => some ((g_AZ73 a0),.val false [.own .any true 73 (.pair (.int .i64) (.pair (.pair (.int .i64) (.pair (.int .i64) (.pair (.int .i64) (.pair (.int .i64) (.pair (.int .i64) (.pair (.int .i64) (.int .i64))))))) (.pair .bool (.pair (.sl 3 (.int .i64)) (.sl 3 (.int .i64)))))) (g_VZ73_0 a0)],[])
 | _ => none
theorem vZ73 (a0:tL1):collapseH .std EZ73 OZ73_1 (execFn EZ73 Tryz.f35 msZ73 [.val false [.sl .any 129 (.pair (.int .i64) (.pair (.pair (.int .i64) (.pair (.int .i64) (.pair (.int .i64) (.pair (.int .i64) (.pair (.int .i64) (.pair (.int .i64) (.int .i64))))))) (.pair .bool (.pair (.sl 3 (.int .i64)) (.sl 3 (.int .i64)))))) a0]]) = some ((g_AZ73 a0),.val false [.own .any true 73 (.pair (.int .i64) (.pair (.pair (.int .i64) (.pair (.int .i64) (.pair (.int .i64) (.pair (.int .i64) (.pair (.int .i64) (.pair (.int .i64) (.int .i64))))))) (.pair .bool (.pair (.sl 3 (.int .i64)) (.sl 3 (.int .i64)))))) (g_VZ73_0 a0)],[]) := by kernel_rfl
theorem sZ73:Sound Tryz.prog 35 msZ73 FZ73 := by
 refine fn_gen goodZ73 (by kernel_rfl) .std (fn := Tryz.f35) (c := (Tryz.f35.body.getD .skip)) (o := OZ73_1) (k := 1) (by kernel_rfl) (by kernel_rfl) (by kernel_rfl) (by kernel_rfl) (by decide) kZ73_1 ?_
 intro ys r outs h
 unfold FZ73 at h
 split at h
 ·exact (vZ73 _).trans h
 ·cases h
noncomputable def EZ47:Env where
 tt := mkTI Tryz.prog
 fn := fun f => match f with
  | 136 => some (msw_toIntS,FSem.wk msw_toIntS Fw_toIntS)
  | _ => none
 bxf := fun _ => none
 mv := []
 keep := fun _ => []
 keepB := fun _ => []
 keepX := fun _ => []
 keepXB := fun _ => []
theorem goodFZ47:∀ f ms F,EZ47.fn f = some (ms,F) → Sound Tryz.prog f ms F := fun f ms F h => by
 unfold EZ47 at h
 dsimp only at h
 split at h
 ·exact gF sw_toIntS h
 ·cases h
theorem goodZ47:Good Tryz.prog EZ47 := ⟨rfl,goodFZ47,fun f ms F h => by cases h⟩
noncomputable def OZ47_0:Orc := fun _ _ => none
noncomputable def msZ47:List PM := [.rd]
noncomputable def lsZ47:List (Nat×Code) := loopsAll 0 (Tryz.f175.body.getD .skip)
theorem kZ47_0:OrcOk EZ47 OZ47_0 lsZ47 0 := orcOk_none
noncomputable def g_AZ47 (a0:ByteArray) (a1:Bool) (a2:List Int):Bool := g_Aw_toIntS a2
noncomputable def FZ47:FSem := fun ys => match ys with
 | [.val true [.str a0,.bool a1,.sl .any 3 (.int .i64) a2]] => some ((g_AZ47 a0 a1 a2),.val true [.str a0,.bool a1,.own .any true 3 (.int .i64) (g_Vw_toIntS_0 a2)],[])
 | _ => none
theorem vZ47 (a0:ByteArray) (a1:Bool) (a2:List Int):collapseH .std EZ47 OZ47_0 (execFn EZ47 Tryz.f175 msZ47 [.val true [.str a0,.bool a1,.sl .any 3 (.int .i64) a2]]) = some ((g_AZ47 a0 a1 a2),.val true [.str a0,.bool a1,.own .any true 3 (.int .i64) (g_Vw_toIntS_0 a2)],[]) := by kernel_rfl
theorem sZ47:Sound Tryz.prog 175 msZ47 FZ47 := by
 refine fn_gen goodZ47 (by kernel_rfl) .std (fn := Tryz.f175) (c := (Tryz.f175.body.getD .skip)) (o := OZ47_0) (k := 0) (by kernel_rfl) (by kernel_rfl) (by kernel_rfl) (by kernel_rfl) (by decide) kZ47_0 ?_
 intro ys r outs h
 unfold FZ47 at h
 split at h
 ·exact (vZ47 _ _ _).trans h
 ·cases h
noncomputable def EZ36:Env where
 tt := mkTI Tryz.prog
 fn := fun f => match f with
  | 175 => some (msZ47,FSem.wk msZ47 FZ47)
  | _ => none
 bxf := fun _ => none
 mv := []
 keep := fun b => match b with
  | 0 => [(0,false),(3,false),(4,false)]
  | _ => []
 keepB := fun b => match b with
  | 0 => []
  | _ => []
 keepX := fun b => match b with
  | 0 => [(3,false)]
  | _ => []
 keepXB := fun b => match b with
  | 0 => []
  | _ => []
theorem goodFZ36:∀ f ms F,EZ36.fn f = some (ms,F) → Sound Tryz.prog f ms F := fun f ms F h => by
 unfold EZ36 at h
 dsimp only at h
 split at h
 ·exact gF sZ47 h
 ·cases h
theorem goodZ36:Good Tryz.prog EZ36 := ⟨rfl,goodFZ36,fun f ms F h => by cases h⟩
noncomputable def OZ36_0:Orc := fun _ _ => none
noncomputable def msZ36:List PM := [.rd]
noncomputable def lsZ36:List (Nat×Code) := loopsAll 0 (Tryz.f159.body.getD .skip)
noncomputable def cZ36_0:Code := (loopOf 0 (Tryz.f159.body.getD .skip)).getD .skip
theorem lseqZ36:lsZ36 = [(0,cZ36_0)] := by kernel_rfl
theorem mZ36_0:∀ p,p ∈ lsZ36 → p.1 = 0 → p.2 = cZ36_0 := by
 intro p hp
 rw [lseqZ36] at hp
 simp only [List.mem_cons,List.not_mem_nil,or_false] at hp
 subst hp; simp
theorem kZ36_0:OrcOk EZ36 OZ36_0 lsZ36 0 := orcOk_none
noncomputable def hZ36_0 (y0:tL2) (y1:tL2) (y2:Int):List (Pl×LV) := [(.T 0,.t (.val false [.sl .any 196 (.pair .str (.pair .bool (.sl 3 (.int .i64)))) y0])),(.T 3,.t (.val false [.row 3 0 0])),(.R 3 0,.r 0 (some ⟨false,.non,true,155,(.pair .str (.pair .bool (.sl 3 (.int .i64)))),y1⟩)),(.T 4,.t (.val false [.int .i64 y2]))]
noncomputable def g_SZ36_0 (y0:tL2):(tL2×Int) → RT (tL2×Int) ((tL2))
 | (y1,y2) => .br (true) (.br (decide (y2 < (y0.length:Int))) (.br (decide (0 ≤ y2 ∧ y2 < (y0.length:Int))) (.br (g_AZ47 (at_ yT2 y0 (Int.toNat y2)).1 (at_ yT2 y0 (Int.toNat y2)).2.1 (at_ yT2 y0 (Int.toNat y2)).2.2) (.br (decide (0 ≤ y2 ∧ y2 < (y1.length:Int))) (.br (decide (Int.toNat y2 < List.length y1)) (.br (true) (.go ((List.set y1 (Int.toNat y2) ((at_ yT2 y0 (Int.toNat y2)).1,(at_ yT2 y0 (Int.toNat y2)).2.1,g_Vw_toIntS_0 (at_ yT2 y0 (Int.toNat y2)).2.2),IntKind.i64.wrap (y2 + 1)))) .bad) .bad) .bad) .bad) .bad) (.out (y1))) .bad
noncomputable def g_LZ36_0 (y0:tL2) (x:tL2×Int):Option ((tL2)) := loopO (g_SZ36_0 y0) x
noncomputable def xZ36_0 (y0:tL2):((tL2)) → Ex×List (Pl×LV) := fun r => (.exit 0,[(.T 3,.t (.val false [.row 3 0 0])),(.R 3 0,.r 0 (some ⟨false,.non,true,155,(.pair .str (.pair .bool (.sl 3 (.int .i64)))),r⟩))])
noncomputable def OZ36_1:Orc := fun b h => match b,h with
 | 0,[(.T 0,.t (.val false [.sl .any 196 (.pair .str (.pair .bool (.sl 3 (.int .i64)))) y0])),(.T 3,.t (.val false [.row 3 0 0])),(.R 3 0,.r 0 (some ⟨false,.non,true,155,(.pair .str (.pair .bool (.sl 3 (.int .i64)))),y1⟩)),(.T 4,.t (.val false [.int .i64 y2]))] => some (okO (g_LZ36_0 y0 (y1,y2)),(.leaf (.exit 0) [(.T 3,.t (.val false [.row 3 0 0])),(.R 3 0,.r 0 (some ⟨false,.non,true,155,(.pair .str (.pair .bool (.sl 3 (.int .i64)))),(valO (g_LZ36_0 y0 (y1,y2)))⟩))]))
 | b,h => OZ36_0 b h
theorem bZ36_0 (y0:tL2) (y1:tL2) (y2:Int):Tr.bt EZ36 OZ36_0 (exec EZ36 0 cZ36_0 (St.of (hZ36_0 y0 y1 y2)) (leafRd EZ36 0)) = (g_SZ36_0 y0 (y1,y2)).bt (fun ((y1,y2):tL2×Int) => (hZ36_0 y0 y1 y2)) (xZ36_0 y0) := by kernel_rfl
theorem kZ36_1:OrcOk EZ36 OZ36_1 lsZ36 1 := orc_add kZ36_0 (fun n p hp h ex h' ho => by
 obtain ⟨b,c⟩ := p
 obtain ⟨xt,h1,h2⟩ := ho
 have h1:OZ36_1 b h = some (true,xt) := h1
 unfold OZ36_1 at h1
 split at h1
 ·injection h1 with h1
  injection h1 with e1 e2
  subst e2
  have hc:c = cZ36_0 := mZ36_0 _ hp rfl
  subst hc
  right
  rename_i y0 y1 y2
  have key := LT_step kZ36_0 hp (fun q hq => loopsAll_in _ _ _ _ hp hq) (fun ((y1,y2):tL2×Int) => (hZ36_0 y0 y1 y2)) (xZ36_0 y0) (g_SZ36_0 y0) (fun x => by first | exact bZ36_0 y0 x.1 x.2) n (x := (y1,y2)) (okO_some e1)
  have hx:∀ r,XT.sel (.leaf (.exit 0) [(.T 3,.t (.val false [.row 3 0 0])),(.R 3 0,.r 0 (some ⟨false,.non,true,155,(.pair .str (.pair .bool (.sl 3 (.int .i64)))),r⟩))]) = xZ36_0 y0 r := fun r => by first | rfl | rcases r with r | r <;> rfl | rcases r with r | r | r <;> rfl | rcases r with r | r | r | r <;> rfl
  have h3 := (hx (valO (g_LZ36_0 y0 (y1,y2)))).symm.trans h2
  have e3 := congrArg Prod.fst h3
  have e4 := congrArg Prod.snd h3
  simp only at e3 e4
  rw [← e3,← e4]
  exact key
 ·exact .inl ⟨xt,h1,h2⟩)
noncomputable def g_AZ36 (a0:tL2):Bool := decide ((a0.length:Int) = (a0.length:Int) ∧ 0 ≤ (a0.length:Int) ∧ (a0.length:Int) ≤ 9223372036854775807 ∧ 48 * (a0.length:Int) ≤ 281474976710656)&&okO (g_LZ36_0 a0 (List.replicate (Int.toNat (a0.length:Int)) (lit [],false,[]),(0:Int)))
noncomputable def g_VZ36_0 (a0:tL2):tL2 := valO (g_LZ36_0 a0 (List.replicate (Int.toNat (a0.length:Int)) (lit [],false,[]),(0:Int)))
noncomputable def FZ36:FSem := fun ys => match ys with
 | [.val false [.sl .any 196 (.pair .str (.pair .bool (.sl 3 (.int .i64)))) a0]] => some ((g_AZ36 a0),.val false [.own .any true 155 (.pair .str (.pair .bool (.sl 3 (.int .i64)))) (g_VZ36_0 a0)],[])
 | _ => none
theorem vZ36 (a0:tL2):collapseH .std EZ36 OZ36_1 (execFn EZ36 Tryz.f159 msZ36 [.val false [.sl .any 196 (.pair .str (.pair .bool (.sl 3 (.int .i64)))) a0]]) = some ((g_AZ36 a0),.val false [.own .any true 155 (.pair .str (.pair .bool (.sl 3 (.int .i64)))) (g_VZ36_0 a0)],[]) := by kernel_rfl
theorem sZ36:Sound Tryz.prog 159 msZ36 FZ36 := by
 refine fn_gen goodZ36 (by kernel_rfl) .std (fn := Tryz.f159) (c := (Tryz.f159.body.getD .skip)) (o := OZ36_1) (k := 1) (by kernel_rfl) (by kernel_rfl) (by kernel_rfl) (by kernel_rfl) (by decide) kZ36_1 ?_
 intro ys r outs h
 unfold FZ36 at h
 split at h
 ·exact (vZ36 _).trans h
 ·cases h
noncomputable def EZ58:Env where
 tt := mkTI Tryz.prog
 fn := fun _ => none
 bxf := fun _ => none
 mv := []
 keep := fun b => match b with
  | 0 => [(0,false),(3,false),(4,false)]
  | _ => []
 keepB := fun b => match b with
  | 0 => []
  | _ => []
 keepX := fun b => match b with
  | 0 => [(3,false)]
  | _ => []
 keepXB := fun b => match b with
  | 0 => []
  | _ => []
theorem goodFZ58:∀ f ms F,EZ58.fn f = some (ms,F) → Sound Tryz.prog f ms F := fun f ms F h => by cases h
theorem goodZ58:Good Tryz.prog EZ58 := ⟨rfl,goodFZ58,fun f ms F h => by cases h⟩
noncomputable def OZ58_0:Orc := fun _ _ => none
noncomputable def msZ58:List PM := [.rd]
noncomputable def lsZ58:List (Nat×Code) := loopsAll 0 (Tryz.f158.body.getD .skip)
noncomputable def cZ58_0:Code := (loopOf 0 (Tryz.f158.body.getD .skip)).getD .skip
theorem lseqZ58:lsZ58 = [(0,cZ58_0)] := by kernel_rfl
theorem mZ58_0:∀ p,p ∈ lsZ58 → p.1 = 0 → p.2 = cZ58_0 := by
 intro p hp
 rw [lseqZ58] at hp
 simp only [List.mem_cons,List.not_mem_nil,or_false] at hp
 subst hp; simp
theorem kZ58_0:OrcOk EZ58 OZ58_0 lsZ58 0 := orcOk_none
noncomputable def hZ58_0 (y0:List ByteArray) (y1:List ByteArray) (y2:Int):List (Pl×LV) := [(.T 0,.t (.val false [.sl .any 9 .str y0])),(.T 3,.t (.val false [.row 3 0 0])),(.R 3 0,.r 0 (some ⟨false,.non,true,9,.str,y1⟩)),(.T 4,.t (.val false [.int .i64 y2]))]
noncomputable def g_SZ58_0 (y0:List ByteArray):((List ByteArray)×Int) → RT ((List ByteArray)×Int) (((List ByteArray)))
 | (y1,y2) => .br (true) (.br (decide (y2 < (y0.length:Int))) (.br (decide (0 ≤ y2 ∧ y2 < (y0.length:Int))) (.br (decide (0 ≤ y2 ∧ y2 < (y1.length:Int))) (.br (decide (Int.toNat y2 < List.length y1)) (.br (true) (.go ((List.set y1 (Int.toNat y2) (at_ Ty.str y0 (Int.toNat y2)),IntKind.i64.wrap (y2 + 1)))) .bad) .bad) .bad) .bad) (.out (y1))) .bad
noncomputable def g_LZ58_0 (y0:List ByteArray) (x:(List ByteArray)×Int):Option (((List ByteArray))) := loopO (g_SZ58_0 y0) x
noncomputable def xZ58_0 (y0:List ByteArray):(((List ByteArray))) → Ex×List (Pl×LV) := fun r => (.exit 0,[(.T 3,.t (.val false [.row 3 0 0])),(.R 3 0,.r 0 (some ⟨false,.non,true,9,.str,r⟩))])
noncomputable def OZ58_1:Orc := fun b h => match b,h with
 | 0,[(.T 0,.t (.val false [.sl .any 9 .str y0])),(.T 3,.t (.val false [.row 3 0 0])),(.R 3 0,.r 0 (some ⟨false,.non,true,9,.str,y1⟩)),(.T 4,.t (.val false [.int .i64 y2]))] => some (okO (g_LZ58_0 y0 (y1,y2)),(.leaf (.exit 0) [(.T 3,.t (.val false [.row 3 0 0])),(.R 3 0,.r 0 (some ⟨false,.non,true,9,.str,(valO (g_LZ58_0 y0 (y1,y2)))⟩))]))
 | b,h => OZ58_0 b h
theorem bZ58_0 (y0:List ByteArray) (y1:List ByteArray) (y2:Int):Tr.bt EZ58 OZ58_0 (exec EZ58 0 cZ58_0 (St.of (hZ58_0 y0 y1 y2)) (leafRd EZ58 0)) = (g_SZ58_0 y0 (y1,y2)).bt (fun ((y1,y2):(List ByteArray)×Int) => (hZ58_0 y0 y1 y2)) (xZ58_0 y0) := by kernel_rfl
theorem kZ58_1:OrcOk EZ58 OZ58_1 lsZ58 1 := orc_add kZ58_0 (fun n p hp h ex h' ho => by
 obtain ⟨b,c⟩ := p
 obtain ⟨xt,h1,h2⟩ := ho
 have h1:OZ58_1 b h = some (true,xt) := h1
 unfold OZ58_1 at h1
 split at h1
 ·injection h1 with h1
  injection h1 with e1 e2
  subst e2
  have hc:c = cZ58_0 := mZ58_0 _ hp rfl
  subst hc
  right
  rename_i y0 y1 y2
  have key := LT_step kZ58_0 hp (fun q hq => loopsAll_in _ _ _ _ hp hq) (fun ((y1,y2):(List ByteArray)×Int) => (hZ58_0 y0 y1 y2)) (xZ58_0 y0) (g_SZ58_0 y0) (fun x => by first | exact bZ58_0 y0 x.1 x.2) n (x := (y1,y2)) (okO_some e1)
  have hx:∀ r,XT.sel (.leaf (.exit 0) [(.T 3,.t (.val false [.row 3 0 0])),(.R 3 0,.r 0 (some ⟨false,.non,true,9,.str,r⟩))]) = xZ58_0 y0 r := fun r => by first | rfl | rcases r with r | r <;> rfl | rcases r with r | r | r <;> rfl | rcases r with r | r | r | r <;> rfl
  have h3 := (hx (valO (g_LZ58_0 y0 (y1,y2)))).symm.trans h2
  have e3 := congrArg Prod.fst h3
  have e4 := congrArg Prod.snd h3
  simp only at e3 e4
  rw [← e3,← e4]
  exact key
 ·exact .inl ⟨xt,h1,h2⟩)
noncomputable def g_AZ58 (a0:List ByteArray):Bool := decide ((a0.length:Int) = (a0.length:Int) ∧ 0 ≤ (a0.length:Int) ∧ (a0.length:Int) ≤ 9223372036854775807 ∧ 16 * (a0.length:Int) ≤ 281474976710656)&&okO (g_LZ58_0 a0 (List.replicate (Int.toNat (a0.length:Int)) (lit []),(0:Int)))
noncomputable def g_VZ58_0 (a0:List ByteArray):List ByteArray := valO (g_LZ58_0 a0 (List.replicate (Int.toNat (a0.length:Int)) (lit []),(0:Int)))
noncomputable def FZ58:FSem := fun ys => match ys with
 | [.val false [.sl .any 9 .str a0]] => some ((g_AZ58 a0),.val false [.own .any true 9 .str (g_VZ58_0 a0)],[])
 | _ => none
theorem vZ58 (a0:List ByteArray):collapseH .std EZ58 OZ58_1 (execFn EZ58 Tryz.f158 msZ58 [.val false [.sl .any 9 .str a0]]) = some ((g_AZ58 a0),.val false [.own .any true 9 .str (g_VZ58_0 a0)],[]) := by kernel_rfl
theorem sZ58:Sound Tryz.prog 158 msZ58 FZ58 := by
 refine fn_gen goodZ58 (by kernel_rfl) .std (fn := Tryz.f158) (c := (Tryz.f158.body.getD .skip)) (o := OZ58_1) (k := 1) (by kernel_rfl) (by kernel_rfl) (by kernel_rfl) (by kernel_rfl) (by decide) kZ58_1 ?_
 intro ys r outs h
 unfold FZ58 at h
 split at h
 ·exact (vZ58 _).trans h
 ·cases h
noncomputable def EZ59:Env where
 tt := mkTI Tryz.prog
 fn := fun f => match f with
  | 158 => some (msZ58,FSem.wk msZ58 FZ58)
  | 159 => some (msZ36,FSem.wk msZ36 FZ36)
  | _ => none
 bxf := fun _ => none
 mv := []
 keep := fun _ => []
 keepB := fun _ => []
 keepX := fun _ => []
 keepXB := fun _ => []
theorem goodFZ59:∀ f ms F,EZ59.fn f = some (ms,F) → Sound Tryz.prog f ms F := fun f ms F h => by
 unfold EZ59 at h
 dsimp only at h
 split at h
 ·exact gF sZ58 h
 ·exact gF sZ36 h
 ·cases h
theorem goodZ59:Good Tryz.prog EZ59 := ⟨rfl,goodFZ59,fun f ms F h => by cases h⟩
noncomputable def OZ59_0:Orc := fun _ _ => none
noncomputable def msZ59:List PM := [.rd]
noncomputable def lsZ59:List (Nat×Code) := loopsAll 0 (Tryz.f135.body.getD .skip)
theorem kZ59_0:OrcOk EZ59 OZ59_0 lsZ59 0 := orcOk_none
noncomputable def g_AZ59 (a0:Int) (a1:Int) (a2:List ByteArray) (a3:tL2):Bool := g_AZ58 a2&&g_AZ36 a3
noncomputable def FZ59:FSem := fun ys => match ys with
 | [.val true [.int .i64 a0,.int .i64 a1,.sl .any 9 .str a2,.sl .any 196 (.pair .str (.pair .bool (.sl 3 (.int .i64)))) a3]] => some ((g_AZ59 a0 a1 a2 a3),.val true [.int .i64 a0,.int .i64 a1,.own .any true 9 .str (g_VZ58_0 a2),.own .any true 155 (.pair .str (.pair .bool (.sl 3 (.int .i64)))) (g_VZ36_0 a3)],[])
 | _ => none
theorem vZ59 (a0:Int) (a1:Int) (a2:List ByteArray) (a3:tL2):collapseH .std EZ59 OZ59_0 (execFn EZ59 Tryz.f135 msZ59 [.val true [.int .i64 a0,.int .i64 a1,.sl .any 9 .str a2,.sl .any 196 (.pair .str (.pair .bool (.sl 3 (.int .i64)))) a3]]) = some ((g_AZ59 a0 a1 a2 a3),.val true [.int .i64 a0,.int .i64 a1,.own .any true 9 .str (g_VZ58_0 a2),.own .any true 155 (.pair .str (.pair .bool (.sl 3 (.int .i64)))) (g_VZ36_0 a3)],[]) := by kernel_rfl
theorem sZ59:Sound Tryz.prog 135 msZ59 FZ59 := by
 refine fn_gen goodZ59 (by kernel_rfl) .std (fn := Tryz.f135) (c := (Tryz.f135.body.getD .skip)) (o := OZ59_0) (k := 0) (by kernel_rfl) (by kernel_rfl) (by kernel_rfl) (by kernel_rfl) (by decide) kZ59_0 ?_
 intro ys r outs h
 unfold FZ59 at h
 split at h
 ·exact (vZ59 _ _ _ _).trans h
 ·cases h
noncomputable def EZ48:Env where
 tt := mkTI Tryz.prog
 fn := fun f => match f with
  | 135 => some (msZ59,FSem.wk msZ59 FZ59)
  | _ => none
 bxf := fun _ => none
 mv := []
 keep := fun b => match b with
  | 0 => [(0,false),(3,false),(4,false)]
  | _ => []
 keepB := fun b => match b with
  | 0 => []
  | _ => []
 keepX := fun b => match b with
  | 0 => [(3,false)]
  | _ => []
 keepXB := fun b => match b with
  | 0 => []
  | _ => []
theorem goodFZ48:∀ f ms F,EZ48.fn f = some (ms,F) → Sound Tryz.prog f ms F := fun f ms F h => by
 unfold EZ48 at h
 dsimp only at h
 split at h
 ·exact gF sZ59 h
 ·cases h
theorem goodZ48:Good Tryz.prog EZ48 := ⟨rfl,goodFZ48,fun f ms F h => by cases h⟩
noncomputable def OZ48_0:Orc := fun _ _ => none
noncomputable def msZ48:List PM := [.rd]
noncomputable def lsZ48:List (Nat×Code) := loopsAll 0 (Tryz.f93.body.getD .skip)
noncomputable def cZ48_0:Code := (loopOf 0 (Tryz.f93.body.getD .skip)).getD .skip
theorem lseqZ48:lsZ48 = [(0,cZ48_0)] := by kernel_rfl
theorem mZ48_0:∀ p,p ∈ lsZ48 → p.1 = 0 → p.2 = cZ48_0 := by
 intro p hp
 rw [lseqZ48] at hp
 simp only [List.mem_cons,List.not_mem_nil,or_false] at hp
 subst hp; simp
theorem kZ48_0:OrcOk EZ48 OZ48_0 lsZ48 0 := orcOk_none
noncomputable def hZ48_0 (y0:tL0) (y1:tL0) (y2:Int):List (Pl×LV) := [(.T 0,.t (.val false [.sl .any 169 (.pair (.int .i64) (.pair (.int .i64) (.pair (.sl 9 .str) (.sl 196 (.pair .str (.pair .bool (.sl 3 (.int .i64)))))))) y0])),(.T 3,.t (.val false [.row 3 0 0])),(.R 3 0,.r 0 (some ⟨false,.non,true,92,(.pair (.int .i64) (.pair (.int .i64) (.pair (.sl 9 .str) (.sl 155 (.pair .str (.pair .bool (.sl 3 (.int .i64)))))))),y1⟩)),(.T 4,.t (.val false [.int .i64 y2]))]
noncomputable def g_SZ48_0 (y0:tL0):(tL0×Int) → RT (tL0×Int) ((tL0))
 | (y1,y2) => .br (true) (.br (decide (y2 < (y0.length:Int))) (.br (decide (0 ≤ y2 ∧ y2 < (y0.length:Int))) (.br (g_AZ59 (at_ yT3 y0 (Int.toNat y2)).1 (at_ yT3 y0 (Int.toNat y2)).2.1 (at_ yT3 y0 (Int.toNat y2)).2.2.1 (at_ yT3 y0 (Int.toNat y2)).2.2.2) (.br (decide (0 ≤ y2 ∧ y2 < (y1.length:Int))) (.br (decide (Int.toNat y2 < List.length y1)) (.br (true) (.go ((List.set y1 (Int.toNat y2) ((at_ yT3 y0 (Int.toNat y2)).1,(at_ yT3 y0 (Int.toNat y2)).2.1,g_VZ58_0 (at_ yT3 y0 (Int.toNat y2)).2.2.1,g_VZ36_0 (at_ yT3 y0 (Int.toNat y2)).2.2.2),IntKind.i64.wrap (y2 + 1)))) .bad) .bad) .bad) .bad) .bad) (.out (y1))) .bad
noncomputable def g_LZ48_0 (y0:tL0) (x:tL0×Int):Option ((tL0)) := loopO (g_SZ48_0 y0) x
noncomputable def xZ48_0 (y0:tL0):((tL0)) → Ex×List (Pl×LV) := fun r => (.exit 0,[(.T 3,.t (.val false [.row 3 0 0])),(.R 3 0,.r 0 (some ⟨false,.non,true,92,(.pair (.int .i64) (.pair (.int .i64) (.pair (.sl 9 .str) (.sl 155 (.pair .str (.pair .bool (.sl 3 (.int .i64)))))))),r⟩))])
noncomputable def OZ48_1:Orc := fun b h => match b,h with
 | 0,[(.T 0,.t (.val false [.sl .any 169 (.pair (.int .i64) (.pair (.int .i64) (.pair (.sl 9 .str) (.sl 196 (.pair .str (.pair .bool (.sl 3 (.int .i64)))))))) y0])),(.T 3,.t (.val false [.row 3 0 0])),(.R 3 0,.r 0 (some ⟨false,.non,true,92,(.pair (.int .i64) (.pair (.int .i64) (.pair (.sl 9 .str) (.sl 155 (.pair .str (.pair .bool (.sl 3 (.int .i64)))))))),y1⟩)),(.T 4,.t (.val false [.int .i64 y2]))] => some (okO (g_LZ48_0 y0 (y1,y2)),(.leaf (.exit 0) [(.T 3,.t (.val false [.row 3 0 0])),(.R 3 0,.r 0 (some ⟨false,.non,true,92,(.pair (.int .i64) (.pair (.int .i64) (.pair (.sl 9 .str) (.sl 155 (.pair .str (.pair .bool (.sl 3 (.int .i64)))))))),(valO (g_LZ48_0 y0 (y1,y2)))⟩))]))
 | b,h => OZ48_0 b h
theorem bZ48_0 (y0:tL0) (y1:tL0) (y2:Int):Tr.bt EZ48 OZ48_0 (exec EZ48 0 cZ48_0 (St.of (hZ48_0 y0 y1 y2)) (leafRd EZ48 0)) = (g_SZ48_0 y0 (y1,y2)).bt (fun ((y1,y2):tL0×Int) => (hZ48_0 y0 y1 y2)) (xZ48_0 y0) := by kernel_rfl
theorem kZ48_1:OrcOk EZ48 OZ48_1 lsZ48 1 := orc_add kZ48_0 (fun n p hp h ex h' ho => by
 obtain ⟨b,c⟩ := p
 obtain ⟨xt,h1,h2⟩ := ho
 have h1:OZ48_1 b h = some (true,xt) := h1
 unfold OZ48_1 at h1
 split at h1
 ·injection h1 with h1
  injection h1 with e1 e2
  subst e2
  have hc:c = cZ48_0 := mZ48_0 _ hp rfl
  subst hc
  right
  rename_i y0 y1 y2
  have key := LT_step kZ48_0 hp (fun q hq => loopsAll_in _ _ _ _ hp hq) (fun ((y1,y2):tL0×Int) => (hZ48_0 y0 y1 y2)) (xZ48_0 y0) (g_SZ48_0 y0) (fun x => by first | exact bZ48_0 y0 x.1 x.2) n (x := (y1,y2)) (okO_some e1)
  have hx:∀ r,XT.sel (.leaf (.exit 0) [(.T 3,.t (.val false [.row 3 0 0])),(.R 3 0,.r 0 (some ⟨false,.non,true,92,(.pair (.int .i64) (.pair (.int .i64) (.pair (.sl 9 .str) (.sl 155 (.pair .str (.pair .bool (.sl 3 (.int .i64)))))))),r⟩))]) = xZ48_0 y0 r := fun r => by first | rfl | rcases r with r | r <;> rfl | rcases r with r | r | r <;> rfl | rcases r with r | r | r | r <;> rfl
  have h3 := (hx (valO (g_LZ48_0 y0 (y1,y2)))).symm.trans h2
  have e3 := congrArg Prod.fst h3
  have e4 := congrArg Prod.snd h3
  simp only at e3 e4
  rw [← e3,← e4]
  exact key
 ·exact .inl ⟨xt,h1,h2⟩)
noncomputable def g_AZ48 (a0:tL0):Bool := decide ((a0.length:Int) = (a0.length:Int) ∧ 0 ≤ (a0.length:Int) ∧ (a0.length:Int) ≤ 9223372036854775807 ∧ 64 * (a0.length:Int) ≤ 281474976710656)&&okO (g_LZ48_0 a0 (List.replicate (Int.toNat (a0.length:Int)) ((0:Int),(0:Int),[],[]),(0:Int)))
noncomputable def g_VZ48_0 (a0:tL0):tL0 := valO (g_LZ48_0 a0 (List.replicate (Int.toNat (a0.length:Int)) ((0:Int),(0:Int),[],[]),(0:Int)))
noncomputable def FZ48:FSem := fun ys => match ys with
 | [.val false [.sl .any 169 (.pair (.int .i64) (.pair (.int .i64) (.pair (.sl 9 .str) (.sl 196 (.pair .str (.pair .bool (.sl 3 (.int .i64)))))))) a0]] => some ((g_AZ48 a0),.val false [.own .any true 92 (.pair (.int .i64) (.pair (.int .i64) (.pair (.sl 9 .str) (.sl 155 (.pair .str (.pair .bool (.sl 3 (.int .i64)))))))) (g_VZ48_0 a0)],[])
 | _ => none
theorem vZ48 (a0:tL0):collapseH .std EZ48 OZ48_1 (execFn EZ48 Tryz.f93 msZ48 [.val false [.sl .any 169 (.pair (.int .i64) (.pair (.int .i64) (.pair (.sl 9 .str) (.sl 196 (.pair .str (.pair .bool (.sl 3 (.int .i64)))))))) a0]]) = some ((g_AZ48 a0),.val false [.own .any true 92 (.pair (.int .i64) (.pair (.int .i64) (.pair (.sl 9 .str) (.sl 155 (.pair .str (.pair .bool (.sl 3 (.int .i64)))))))) (g_VZ48_0 a0)],[]) := by kernel_rfl
theorem sZ48:Sound Tryz.prog 93 msZ48 FZ48 := by
 refine fn_gen goodZ48 (by kernel_rfl) .std (fn := Tryz.f93) (c := (Tryz.f93.body.getD .skip)) (o := OZ48_1) (k := 1) (by kernel_rfl) (by kernel_rfl) (by kernel_rfl) (by kernel_rfl) (by decide) kZ48_1 ?_
 intro ys r outs h
 unfold FZ48 at h
 split at h
 ·exact (vZ48 _).trans h
 ·cases h
noncomputable def EZ60:Env where
 tt := mkTI Tryz.prog
 fn := fun f => match f with
  | 93 => some (msZ48,FSem.wk msZ48 FZ48)
  | _ => none
 bxf := fun _ => none
 mv := []
 keep := fun _ => []
 keepB := fun _ => []
 keepX := fun _ => []
 keepXB := fun _ => []
theorem goodFZ60:∀ f ms F,EZ60.fn f = some (ms,F) → Sound Tryz.prog f ms F := fun f ms F h => by
 unfold EZ60 at h
 dsimp only at h
 split at h
 ·exact gF sZ48 h
 ·cases h
theorem goodZ60:Good Tryz.prog EZ60 := ⟨rfl,goodFZ60,fun f ms F h => by cases h⟩
noncomputable def OZ60_0:Orc := fun _ _ => none
noncomputable def msZ60:List PM := [.rd]
noncomputable def lsZ60:List (Nat×Code) := loopsAll 0 (Tryz.f34.body.getD .skip)
theorem kZ60_0:OrcOk EZ60 OZ60_0 lsZ60 0 := orcOk_none
noncomputable def g_AZ60 (a0:tL0) (a1:Int):Bool := g_AZ48 a0
noncomputable def FZ60:FSem := fun ys => match ys with
 | [.val true [.sl .any 169 (.pair (.int .i64) (.pair (.int .i64) (.pair (.sl 9 .str) (.sl 196 (.pair .str (.pair .bool (.sl 3 (.int .i64)))))))) a0,.int .i64 a1]] => some ((g_AZ60 a0 a1),.val true [.own .any true 92 (.pair (.int .i64) (.pair (.int .i64) (.pair (.sl 9 .str) (.sl 155 (.pair .str (.pair .bool (.sl 3 (.int .i64)))))))) (g_VZ48_0 a0),.int .i64 a1],[])
 | _ => none
theorem vZ60 (a0:tL0) (a1:Int):collapseH .std EZ60 OZ60_0 (execFn EZ60 Tryz.f34 msZ60 [.val true [.sl .any 169 (.pair (.int .i64) (.pair (.int .i64) (.pair (.sl 9 .str) (.sl 196 (.pair .str (.pair .bool (.sl 3 (.int .i64)))))))) a0,.int .i64 a1]]) = some ((g_AZ60 a0 a1),.val true [.own .any true 92 (.pair (.int .i64) (.pair (.int .i64) (.pair (.sl 9 .str) (.sl 155 (.pair .str (.pair .bool (.sl 3 (.int .i64)))))))) (g_VZ48_0 a0),.int .i64 a1],[]) := by kernel_rfl
theorem sZ60:Sound Tryz.prog 34 msZ60 FZ60 := by
 refine fn_gen goodZ60 (by kernel_rfl) .std (fn := Tryz.f34) (c := (Tryz.f34.body.getD .skip)) (o := OZ60_0) (k := 0) (by kernel_rfl) (by kernel_rfl) (by kernel_rfl) (by kernel_rfl) (by decide) kZ60_0 ?_
 intro ys r outs h
 unfold FZ60 at h
 split at h
 ·exact (vZ60 _ _).trans h
 ·cases h
noncomputable def EZ49:Env where
 tt := mkTI Tryz.prog
 fn := fun f => match f with
  | 34 => some (msZ60,FSem.wk msZ60 FZ60)
  | 35 => some (msZ73,FSem.wk msZ73 FZ73)
  | _ => none
 bxf := fun _ => none
 mv := []
 keep := fun _ => []
 keepB := fun _ => []
 keepX := fun _ => []
 keepXB := fun _ => []
theorem goodFZ49:∀ f ms F,EZ49.fn f = some (ms,F) → Sound Tryz.prog f ms F := fun f ms F h => by
 unfold EZ49 at h
 dsimp only at h
 split at h
 ·exact gF sZ60 h
 ·exact gF sZ73 h
 ·cases h
theorem goodZ49:Good Tryz.prog EZ49 := ⟨rfl,goodFZ49,fun f ms F h => by cases h⟩
noncomputable def OZ49_0:Orc := fun _ _ => none
noncomputable def msZ49:List PM := [.rd]
noncomputable def lsZ49:List (Nat×Code) := loopsAll 0 (Tryz.f9.body.getD .skip)
theorem kZ49_0:OrcOk EZ49 OZ49_0 lsZ49 0 := orcOk_none
noncomputable def g_AZ49 (a0:tL0) (a1:Int) (a2:tL1):Bool := g_AZ60 a0 a1&&g_AZ73 a2
noncomputable def FZ49:FSem := fun ys => match ys with
 | [.val true [.sl .any 169 (.pair (.int .i64) (.pair (.int .i64) (.pair (.sl 9 .str) (.sl 196 (.pair .str (.pair .bool (.sl 3 (.int .i64)))))))) a0,.int .i64 a1,.sl .any 129 (.pair (.int .i64) (.pair (.pair (.int .i64) (.pair (.int .i64) (.pair (.int .i64) (.pair (.int .i64) (.pair (.int .i64) (.pair (.int .i64) (.int .i64))))))) (.pair .bool (.pair (.sl 3 (.int .i64)) (.sl 3 (.int .i64)))))) a2]] => some ((g_AZ49 a0 a1 a2),.val true [.own .any true 92 (.pair (.int .i64) (.pair (.int .i64) (.pair (.sl 9 .str) (.sl 155 (.pair .str (.pair .bool (.sl 3 (.int .i64)))))))) (g_VZ48_0 a0),.int .i64 a1,.own .any true 73 (.pair (.int .i64) (.pair (.pair (.int .i64) (.pair (.int .i64) (.pair (.int .i64) (.pair (.int .i64) (.pair (.int .i64) (.pair (.int .i64) (.int .i64))))))) (.pair .bool (.pair (.sl 3 (.int .i64)) (.sl 3 (.int .i64)))))) (g_VZ73_0 a2)],[])
 | _ => none
theorem vZ49 (a0:tL0) (a1:Int) (a2:tL1):collapseH .std EZ49 OZ49_0 (execFn EZ49 Tryz.f9 msZ49 [.val true [.sl .any 169 (.pair (.int .i64) (.pair (.int .i64) (.pair (.sl 9 .str) (.sl 196 (.pair .str (.pair .bool (.sl 3 (.int .i64)))))))) a0,.int .i64 a1,.sl .any 129 (.pair (.int .i64) (.pair (.pair (.int .i64) (.pair (.int .i64) (.pair (.int .i64) (.pair (.int .i64) (.pair (.int .i64) (.pair (.int .i64) (.int .i64))))))) (.pair .bool (.pair (.sl 3 (.int .i64)) (.sl 3 (.int .i64)))))) a2]]) = some ((g_AZ49 a0 a1 a2),.val true [.own .any true 92 (.pair (.int .i64) (.pair (.int .i64) (.pair (.sl 9 .str) (.sl 155 (.pair .str (.pair .bool (.sl 3 (.int .i64)))))))) (g_VZ48_0 a0),.int .i64 a1,.own .any true 73 (.pair (.int .i64) (.pair (.pair (.int .i64) (.pair (.int .i64) (.pair (.int .i64) (.pair (.int .i64) (.pair (.int .i64) (.pair (.int .i64) (.int .i64))))))) (.pair .bool (.pair (.sl 3 (.int .i64)) (.sl 3 (.int .i64)))))) (g_VZ73_0 a2)],[]) := by kernel_rfl
theorem sZ49:Sound Tryz.prog 9 msZ49 FZ49 := by
 refine fn_gen goodZ49 (by kernel_rfl) .std (fn := Tryz.f9) (c := (Tryz.f9.body.getD .skip)) (o := OZ49_0) (k := 0) (by kernel_rfl) (by kernel_rfl) (by kernel_rfl) (by kernel_rfl) (by decide) kZ49_0 ?_
 intro ys r outs h
 unfold FZ49 at h
 split at h
 ·exact (vZ49 _ _ _).trans h
 ·cases h
noncomputable def Ew_FnExactFroFall:Env where
 tt := mkTI Tryz.prog
 fn := fun f => match f with
  | 7 => some (msZ46,FSem.wk msZ46 FZ46)
  | 9 => some (msZ49,FSem.wk msZ49 FZ49)
  | 12 => some (msZ41,FSem.wk msZ41 FZ41)
  | 13 => some (msZ29,FSem.wk msZ29 FZ29)
  | 16 => some (mss_FroFall,FSem.wk mss_FroFall Fs_FroFall)
  | 17 => some (msi_FroFall,FSem.wk msi_FroFall Fi_FroFall)
  | 18 => some (msZ27,FSem.wk msZ27 FZ27)
  | _ => none
 bxf := fun _ => none
 mv := []
 keep := fun _ => []
 keepB := fun _ => []
 keepX := fun _ => []
 keepXB := fun _ => []
theorem goodFw_FnExactFroFall:∀ f ms F,Ew_FnExactFroFall.fn f = some (ms,F) → Sound Tryz.prog f ms F := fun f ms F h => by
 unfold Ew_FnExactFroFall at h
 dsimp only at h
 split at h
 ·exact gF sZ46 h
 ·exact gF sZ49 h
 ·exact gF sZ41 h
 ·exact gF sZ29 h
 ·exact gF ss_FroFall h
 ·exact gF si_FroFall h
 ·exact gF sZ27 h
 ·cases h
theorem goodw_FnExactFroFall:Good Tryz.prog Ew_FnExactFroFall := ⟨rfl,goodFw_FnExactFroFall,fun f ms F h => by cases h⟩
noncomputable def Ow_FnExactFroFall_0:Orc := fun _ _ => none
noncomputable def msw_FnExactFroFall:List PM := [.rd,.own]
noncomputable def lsw_FnExactFroFall:List (Nat×Code) := loopsAll 0 (Tryz.f4.body.getD .skip)
theorem kw_FnExactFroFall_0:OrcOk Ew_FnExactFroFall Ow_FnExactFroFall_0 lsw_FnExactFroFall 0 := orcOk_none
noncomputable def g_Aw_FnExactFroFall (a0:tL0) (a1:Int) (a2:tL1) (a3:Int):Bool := g_AZ46 a0 a1 a2 (1048576:Int)&&(decide (g_VZ46_0 a0 a1 a2 (1048576:Int) < (0:Int)) || g_AZ49 a0 a1 a2&&(g_As_FroFall (g_VZ48_0 a0) a1 (g_VZ73_0 a2) a3&&(g_AZ49 a0 a1 a2&&(g_Ai_FroFall (g_VZ48_0 a0) a1 (g_VZ73_0 a2) a3&&(g_AZ41 (g_Vi_FroFall_0 (g_VZ48_0 a0) a1 (g_VZ73_0 a2) a3) (g_VZ51 (g_VZ48_0 a0) a1 (g_VZ73_0 a2) a3) (g_Vi_FroFall_2 (g_VZ48_0 a0) a1 (g_VZ73_0 a2) a3) (g_Vs_FroFall_0 (g_VZ48_0 a0) a1 (g_VZ73_0 a2) a3) (g_Vs_FroFall_1 (g_VZ48_0 a0) a1 (g_VZ73_0 a2) a3) (g_Vs_FroFall_2 (g_VZ48_0 a0) a1 (g_VZ73_0 a2) a3)&&(!g_VZ41_0 (g_Vi_FroFall_0 (g_VZ48_0 a0) a1 (g_VZ73_0 a2) a3) (g_VZ51 (g_VZ48_0 a0) a1 (g_VZ73_0 a2) a3) (g_Vi_FroFall_2 (g_VZ48_0 a0) a1 (g_VZ73_0 a2) a3) (g_Vs_FroFall_0 (g_VZ48_0 a0) a1 (g_VZ73_0 a2) a3) (g_Vs_FroFall_1 (g_VZ48_0 a0) a1 (g_VZ73_0 a2) a3) (g_Vs_FroFall_2 (g_VZ48_0 a0) a1 (g_VZ73_0 a2) a3) || g_AZ49 a0 a1 a2&&(g_AZ41 (g_VZ48_0 a0) a1 (g_VZ73_0 a2) (g_VZ48_0 a0) a1 (g_VZ73_0 a2)&&(!g_VZ41_0 (g_VZ48_0 a0) a1 (g_VZ73_0 a2) (g_VZ48_0 a0) a1 (g_VZ73_0 a2) || g_AZ29 (g_VZ48_0 a0) a1 (g_VZ73_0 a2) (1:Int)&&(decide (g_VZ43_0 (g_VZ73_0 a2) (g_VZ28_0 (g_VZ48_0 a0) (1:Int)) < 0) || g_AZ41 (g_Vi_FroFall_0 (g_VZ48_0 a0) a1 (g_VZ73_0 a2) a3) (g_VZ51 (g_VZ48_0 a0) a1 (g_VZ73_0 a2) a3) (g_Vi_FroFall_2 (g_VZ48_0 a0) a1 (g_VZ73_0 a2) a3) (g_Vs_FroFall_0 (g_VZ48_0 a0) a1 (g_VZ73_0 a2) a3) (g_Vs_FroFall_1 (g_VZ48_0 a0) a1 (g_VZ73_0 a2) a3) (g_Vs_FroFall_2 (g_VZ48_0 a0) a1 (g_VZ73_0 a2) a3)&&(!g_VZ41_0 (g_Vi_FroFall_0 (g_VZ48_0 a0) a1 (g_VZ73_0 a2) a3) (g_VZ51 (g_VZ48_0 a0) a1 (g_VZ73_0 a2) a3) (g_Vi_FroFall_2 (g_VZ48_0 a0) a1 (g_VZ73_0 a2) a3) (g_Vs_FroFall_0 (g_VZ48_0 a0) a1 (g_VZ73_0 a2) a3) (g_Vs_FroFall_1 (g_VZ48_0 a0) a1 (g_VZ73_0 a2) a3) (g_Vs_FroFall_2 (g_VZ48_0 a0) a1 (g_VZ73_0 a2) a3) || g_AZ29 (g_Vi_FroFall_0 (g_VZ48_0 a0) a1 (g_VZ73_0 a2) a3) (g_VZ51 (g_VZ48_0 a0) a1 (g_VZ73_0 a2) a3) (g_Vi_FroFall_2 (g_VZ48_0 a0) a1 (g_VZ73_0 a2) a3) (1:Int)&&(g_AZ27 (g_VZ28_1 (g_Vi_FroFall_0 (g_VZ48_0 a0) a1 (g_VZ73_0 a2) a3) (1:Int)) (g_VZ51 (g_VZ48_0 a0) a1 (g_VZ73_0 a2) a3) (g_VZ43_1 (g_Vi_FroFall_2 (g_VZ48_0 a0) a1 (g_VZ73_0 a2) a3) (g_VZ28_0 (g_Vi_FroFall_0 (g_VZ48_0 a0) a1 (g_VZ73_0 a2) a3) (1:Int))) (1:Int)&&(decide (g_VZ27_0 (g_VZ28_1 (g_Vi_FroFall_0 (g_VZ48_0 a0) a1 (g_VZ73_0 a2) a3) (1:Int)) (g_VZ51 (g_VZ48_0 a0) a1 (g_VZ73_0 a2) a3) (g_VZ43_1 (g_Vi_FroFall_2 (g_VZ48_0 a0) a1 (g_VZ73_0 a2) a3) (g_VZ28_0 (g_Vi_FroFall_0 (g_VZ48_0 a0) a1 (g_VZ73_0 a2) a3) (1:Int))) (1:Int) < (0:Int)) || (g_VZ27_0 (g_VZ28_1 (g_Vi_FroFall_0 (g_VZ48_0 a0) a1 (g_VZ73_0 a2) a3) (1:Int)) (g_VZ51 (g_VZ48_0 a0) a1 (g_VZ73_0 a2) a3) (g_VZ43_1 (g_Vi_FroFall_2 (g_VZ48_0 a0) a1 (g_VZ73_0 a2) a3) (g_VZ28_0 (g_Vi_FroFall_0 (g_VZ48_0 a0) a1 (g_VZ73_0 a2) a3) (1:Int))) 1 != g_VZ43_0 (g_Vi_FroFall_2 (g_VZ48_0 a0) a1 (g_VZ73_0 a2) a3) (g_VZ28_0 (g_Vi_FroFall_0 (g_VZ48_0 a0) a1 (g_VZ73_0 a2) a3) (1:Int)) || g_AZ49 a0 a1 a2&&(g_Ai_FroFall (g_VZ48_0 a0) a1 (g_VZ73_0 a2) a3&&(g_AZ41 (g_Vi_FroFall_0 (g_VZ48_0 a0) a1 (g_VZ73_0 a2) a3) (g_VZ51 (g_VZ48_0 a0) a1 (g_VZ73_0 a2) a3) (g_Vi_FroFall_2 (g_VZ48_0 a0) a1 (g_VZ73_0 a2) a3) (g_Vs_FroFall_0 (g_VZ48_0 a0) a1 (g_VZ73_0 a2) a3) (g_Vs_FroFall_1 (g_VZ48_0 a0) a1 (g_VZ73_0 a2) a3) (g_Vs_FroFall_2 (g_VZ48_0 a0) a1 (g_VZ73_0 a2) a3)&&(!g_VZ41_0 (g_Vi_FroFall_0 (g_VZ48_0 a0) a1 (g_VZ73_0 a2) a3) (g_VZ51 (g_VZ48_0 a0) a1 (g_VZ73_0 a2) a3) (g_Vi_FroFall_2 (g_VZ48_0 a0) a1 (g_VZ73_0 a2) a3) (g_Vs_FroFall_0 (g_VZ48_0 a0) a1 (g_VZ73_0 a2) a3) (g_Vs_FroFall_1 (g_VZ48_0 a0) a1 (g_VZ73_0 a2) a3) (g_Vs_FroFall_2 (g_VZ48_0 a0) a1 (g_VZ73_0 a2) a3) || g_AZ27 (g_VZ28_1 (g_Vi_FroFall_0 (g_VZ48_0 a0) a1 (g_VZ73_0 a2) a3) (1:Int)) (g_VZ51 (g_VZ48_0 a0) a1 (g_VZ73_0 a2) a3) (g_VZ43_1 (g_Vi_FroFall_2 (g_VZ48_0 a0) a1 (g_VZ73_0 a2) a3) (g_VZ28_0 (g_Vi_FroFall_0 (g_VZ48_0 a0) a1 (g_VZ73_0 a2) a3) (1:Int))) (1:Int)&&(decide (g_VZ27_0 (g_VZ28_1 (g_Vi_FroFall_0 (g_VZ48_0 a0) a1 (g_VZ73_0 a2) a3) (1:Int)) (g_VZ51 (g_VZ48_0 a0) a1 (g_VZ73_0 a2) a3) (g_VZ43_1 (g_Vi_FroFall_2 (g_VZ48_0 a0) a1 (g_VZ73_0 a2) a3) (g_VZ28_0 (g_Vi_FroFall_0 (g_VZ48_0 a0) a1 (g_VZ73_0 a2) a3) (1:Int))) (1:Int) < (0:Int)) || true)))))))))))))))))
noncomputable def g_Vw_FnExactFroFall_0 (a0:tL0) (a1:Int) (a2:tL1) (a3:Int):Bool := bif decide (g_VZ46_0 a0 a1 a2 (1048576:Int) < (0:Int)) then true else bif !g_VZ41_0 (g_Vi_FroFall_0 (g_VZ48_0 a0) a1 (g_VZ73_0 a2) a3) (g_VZ51 (g_VZ48_0 a0) a1 (g_VZ73_0 a2) a3) (g_Vi_FroFall_2 (g_VZ48_0 a0) a1 (g_VZ73_0 a2) a3) (g_Vs_FroFall_0 (g_VZ48_0 a0) a1 (g_VZ73_0 a2) a3) (g_Vs_FroFall_1 (g_VZ48_0 a0) a1 (g_VZ73_0 a2) a3) (g_Vs_FroFall_2 (g_VZ48_0 a0) a1 (g_VZ73_0 a2) a3) then false else bif !g_VZ41_0 (g_VZ48_0 a0) a1 (g_VZ73_0 a2) (g_VZ48_0 a0) a1 (g_VZ73_0 a2) then false else bif decide (g_VZ43_0 (g_VZ73_0 a2) (g_VZ28_0 (g_VZ48_0 a0) (1:Int)) < 0) then false else bif !g_VZ41_0 (g_Vi_FroFall_0 (g_VZ48_0 a0) a1 (g_VZ73_0 a2) a3) (g_VZ51 (g_VZ48_0 a0) a1 (g_VZ73_0 a2) a3) (g_Vi_FroFall_2 (g_VZ48_0 a0) a1 (g_VZ73_0 a2) a3) (g_Vs_FroFall_0 (g_VZ48_0 a0) a1 (g_VZ73_0 a2) a3) (g_Vs_FroFall_1 (g_VZ48_0 a0) a1 (g_VZ73_0 a2) a3) (g_Vs_FroFall_2 (g_VZ48_0 a0) a1 (g_VZ73_0 a2) a3) then false else bif decide (g_VZ27_0 (g_VZ28_1 (g_Vi_FroFall_0 (g_VZ48_0 a0) a1 (g_VZ73_0 a2) a3) (1:Int)) (g_VZ51 (g_VZ48_0 a0) a1 (g_VZ73_0 a2) a3) (g_VZ43_1 (g_Vi_FroFall_2 (g_VZ48_0 a0) a1 (g_VZ73_0 a2) a3) (g_VZ28_0 (g_Vi_FroFall_0 (g_VZ48_0 a0) a1 (g_VZ73_0 a2) a3) (1:Int))) (1:Int) < (0:Int)) then false else bif g_VZ27_0 (g_VZ28_1 (g_Vi_FroFall_0 (g_VZ48_0 a0) a1 (g_VZ73_0 a2) a3) (1:Int)) (g_VZ51 (g_VZ48_0 a0) a1 (g_VZ73_0 a2) a3) (g_VZ43_1 (g_Vi_FroFall_2 (g_VZ48_0 a0) a1 (g_VZ73_0 a2) a3) (g_VZ28_0 (g_Vi_FroFall_0 (g_VZ48_0 a0) a1 (g_VZ73_0 a2) a3) (1:Int))) 1 != g_VZ43_0 (g_Vi_FroFall_2 (g_VZ48_0 a0) a1 (g_VZ73_0 a2) a3) (g_VZ28_0 (g_Vi_FroFall_0 (g_VZ48_0 a0) a1 (g_VZ73_0 a2) a3) (1:Int)) then false else bif !g_VZ41_0 (g_Vi_FroFall_0 (g_VZ48_0 a0) a1 (g_VZ73_0 a2) a3) (g_VZ51 (g_VZ48_0 a0) a1 (g_VZ73_0 a2) a3) (g_Vi_FroFall_2 (g_VZ48_0 a0) a1 (g_VZ73_0 a2) a3) (g_Vs_FroFall_0 (g_VZ48_0 a0) a1 (g_VZ73_0 a2) a3) (g_Vs_FroFall_1 (g_VZ48_0 a0) a1 (g_VZ73_0 a2) a3) (g_Vs_FroFall_2 (g_VZ48_0 a0) a1 (g_VZ73_0 a2) a3) then false else bif decide (g_VZ27_0 (g_VZ28_1 (g_Vi_FroFall_0 (g_VZ48_0 a0) a1 (g_VZ73_0 a2) a3) (1:Int)) (g_VZ51 (g_VZ48_0 a0) a1 (g_VZ73_0 a2) a3) (g_VZ43_1 (g_Vi_FroFall_2 (g_VZ48_0 a0) a1 (g_VZ73_0 a2) a3) (g_VZ28_0 (g_Vi_FroFall_0 (g_VZ48_0 a0) a1 (g_VZ73_0 a2) a3) (1:Int))) (1:Int) < (0:Int)) then false else bif g_VZ27_0 (g_VZ28_1 (g_Vi_FroFall_0 (g_VZ48_0 a0) a1 (g_VZ73_0 a2) a3) (1:Int)) (g_VZ51 (g_VZ48_0 a0) a1 (g_VZ73_0 a2) a3) (g_VZ43_1 (g_Vi_FroFall_2 (g_VZ48_0 a0) a1 (g_VZ73_0 a2) a3) (g_VZ28_0 (g_Vi_FroFall_0 (g_VZ48_0 a0) a1 (g_VZ73_0 a2) a3) (1:Int))) 1 != g_VZ43_0 (g_Vi_FroFall_2 (g_VZ48_0 a0) a1 (g_VZ73_0 a2) a3) (g_VZ28_0 (g_Vi_FroFall_0 (g_VZ48_0 a0) a1 (g_VZ73_0 a2) a3) (1:Int)) then false else true
noncomputable def Fw_FnExactFroFall:FSem := fun ys => match ys with
 | [.val true [.sl .any 169 (.pair (.int .i64) (.pair (.int .i64) (.pair (.sl 9 .str) (.sl 196 (.pair .str (.pair .bool (.sl 3 (.int .i64)))))))) a0,.int .i64 a1,.sl .any 129 (.pair (.int .i64) (.pair (.pair (.int .i64) (.pair (.int .i64) (.pair (.int .i64) (.pair (.int .i64) (.pair (.int .i64) (.pair (.int .i64) (.int .i64))))))) (.pair .bool (.pair (.sl 3 (.int .i64)) (.sl 3 (.int .i64)))))) a2],.val false [.int .i64 a3]] => some ((g_Aw_FnExactFroFall a0 a1 a2 a3),.val false [.bool (g_Vw_FnExactFroFall_0 a0 a1 a2 a3)],[])
 | _ => none
theorem vw_FnExactFroFall (a0:tL0) (a1:Int) (a2:tL1) (a3:Int):collapseH .std Ew_FnExactFroFall Ow_FnExactFroFall_0 (execFn Ew_FnExactFroFall Tryz.f4 msw_FnExactFroFall [.val true [.sl .any 169 (.pair (.int .i64) (.pair (.int .i64) (.pair (.sl 9 .str) (.sl 196 (.pair .str (.pair .bool (.sl 3 (.int .i64)))))))) a0,.int .i64 a1,.sl .any 129 (.pair (.int .i64) (.pair (.pair (.int .i64) (.pair (.int .i64) (.pair (.int .i64) (.pair (.int .i64) (.pair (.int .i64) (.pair (.int .i64) (.int .i64))))))) (.pair .bool (.pair (.sl 3 (.int .i64)) (.sl 3 (.int .i64)))))) a2],.val false [.int .i64 a3]]) = some ((g_Aw_FnExactFroFall a0 a1 a2 a3),.val false [.bool (g_Vw_FnExactFroFall_0 a0 a1 a2 a3)],[]) := by kernel_rfl
theorem sw_FnExactFroFall:Sound Tryz.prog 4 msw_FnExactFroFall Fw_FnExactFroFall := by
 refine fn_gen goodw_FnExactFroFall (by kernel_rfl) .std (fn := Tryz.f4) (c := (Tryz.f4.body.getD .skip)) (o := Ow_FnExactFroFall_0) (k := 0) (by kernel_rfl) (by kernel_rfl) (by kernel_rfl) (by kernel_rfl) (by decide) kw_FnExactFroFall_0 ?_
 intro ys r outs h
 unfold Fw_FnExactFroFall at h
 split at h
 ·exact (vw_FnExactFroFall _ _ _ _).trans h
 ·cases h
end Go.Proofs.YtedhpmhlmdcpbaaGreatDoor.E
