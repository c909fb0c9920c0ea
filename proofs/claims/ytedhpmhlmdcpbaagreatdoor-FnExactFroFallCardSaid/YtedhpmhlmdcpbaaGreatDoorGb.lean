/- What the functions that are reached do, by the engine: for the proof (laws.FnExactFroFall): part 2. No conditions. -/
import Derived.Test.YtedhpmhlmdcpbaaGreatDoorGa
import Derived.Test.YtedhpmhlmdcpbaaGreatDoorProg
set_option linter.all false
namespace Go.Proofs.YtedhpmhlmdcpbaaGreatDoor.E
open Go
set_option maxRecDepth 100000
set_option maxHeartbeats 0
noncomputable section
def Es_l2Copy:Env where
 tt := mkTI Tryz.prog
 fn := fun f => match f with
  | 145 => some (mss_l2Note,FSem.wk mss_l2Note Fs_l2Note)
  | _ => none
 bxf := fun _ => none
 mv := []
 keep := fun b => match b with
  | 0 => [(1,false),(2,false),(3,false),(4,false)]
  | _ => []
 keepB := fun b => match b with
  | 0 => [(1,false),(2,false),(3,false)]
  | _ => []
 keepX := fun b => match b with
  | 0 => [(2,false),(3,false)]
  | _ => []
 keepXB := fun b => match b with
  | 0 => [(2,false),(3,false)]
  | _ => []
theorem goodFs_l2Copy:∀ f ms F,Es_l2Copy.fn f = some (ms,F) → Sound Tryz.prog f ms F := fun f ms F h => by
 unfold Es_l2Copy at h
 dsimp only at h
 split at h
 ·exact gF ss_l2Note h
 ·cases h
theorem goods_l2Copy:Good Tryz.prog Es_l2Copy := ⟨rfl,goodFs_l2Copy,fun f ms F h => by cases h⟩
def Os_l2Copy_0:Orc := fun _ _ => none
def mss_l2Copy:List PM := [.rd]
def lss_l2Copy:List (Nat×Code) := loopsAll 0 (Tryz.f107.body.getD .skip)
def cs_l2Copy_0:Code := (loopOf 0 (Tryz.f107.body.getD .skip)).getD .skip
theorem lseqs_l2Copy:lss_l2Copy = [(0,cs_l2Copy_0)] := by kernel_rfl
theorem ms_l2Copy_0:∀ p,p ∈ lss_l2Copy → p.1 = 0 → p.2 = cs_l2Copy_0 := by
 intro p hp
 rw [lseqs_l2Copy] at hp
 simp only [List.mem_cons,List.not_mem_nil,or_false] at hp
 subst hp; simp
theorem ks_l2Copy_0:OrcOk Es_l2Copy Os_l2Copy_0 lss_l2Copy 0 := orcOk_none
def hs_l2Copy_0 (y0:Int) (y1:tL0) (y2:Int) (y3:Int) (y4:tL0) (y5:Int) (y6:tL0):List (Pl×LV) := [(.T 1,.t (.val false [.ptr 1 0 0])),(.T 2,.t (.val false [.ptr 2 0 0])),(.T 3,.t (.val false [.ptr 3 0 0])),(.T 4,.t (.val false [.int .i64 y0])),(.B 1,.b 0 false [.sl .any 92 (.pair (.int .i64) (.pair (.int .i64) (.pair (.sl 9 .str) (.sl 155 (.pair .str (.pair .bool (.sl 3 (.int .i64)))))))) y1,.int .i64 y2]),(.B 2,.b 0 false [.row 2 1 0,.int .i64 y3]),(.R 2 1,.r 0 (some ⟨false,.any,true,92,(.pair (.int .i64) (.pair (.int .i64) (.pair (.sl 9 .str) (.sl 155 (.pair .str (.pair .bool (.sl 3 (.int .i64)))))))),y4⟩)),(.B 3,.b 0 false [.row 3 1 0,.int .i64 y5]),(.R 3 1,.r 0 (some ⟨false,.any,true,92,(.pair (.int .i64) (.pair (.int .i64) (.pair (.sl 9 .str) (.sl 155 (.pair .str (.pair .bool (.sl 3 (.int .i64)))))))),y6⟩))]
def g_Ss_l2Copy_0 (y1:tL0) (y2:Int) (y3:Int) (y4:tL0) (y5:Int):(Int×tL0) → RT (Int×tL0) ((tL0))
 | (y0,y6) => .br (true) (.br (decide (y0 < (y1.length:Int))) (.br (decide (0 ≤ y0 ∧ y0 < (y1.length:Int))) (.br (g_As_l2Note (at_ yT1 y1 (Int.toNat y0)).1 (at_ yT1 y1 (Int.toNat y0)).2.1 (at_ yT1 y1 (Int.toNat y0)).2.2.1 (at_ yT1 y1 (Int.toNat y0)).2.2.2) (.br (decide ((List.length y6 + List.length [((at_ yT1 y1 (Int.toNat y0)).1,(at_ yT1 y1 (Int.toNat y0)).2.1,g_Vs_l2Note_0 (at_ yT1 y1 (Int.toNat y0)).1 (at_ yT1 y1 (Int.toNat y0)).2.1 (at_ yT1 y1 (Int.toNat y0)).2.2.1 (at_ yT1 y1 (Int.toNat y0)).2.2.2,g_Vs_l2Note_1 (at_ yT1 y1 (Int.toNat y0)).1 (at_ yT1 y1 (Int.toNat y0)).2.1 (at_ yT1 y1 (Int.toNat y0)).2.2.1 (at_ yT1 y1 (Int.toNat y0)).2.2.2)]) * nat_lit 64 ≤ nat_lit 140737488355328 ∧ List.length y6 + List.length [((at_ yT1 y1 (Int.toNat y0)).1,(at_ yT1 y1 (Int.toNat y0)).2.1,g_Vs_l2Note_0 (at_ yT1 y1 (Int.toNat y0)).1 (at_ yT1 y1 (Int.toNat y0)).2.1 (at_ yT1 y1 (Int.toNat y0)).2.2.1 (at_ yT1 y1 (Int.toNat y0)).2.2.2,g_Vs_l2Note_1 (at_ yT1 y1 (Int.toNat y0)).1 (at_ yT1 y1 (Int.toNat y0)).2.1 (at_ yT1 y1 (Int.toNat y0)).2.2.1 (at_ yT1 y1 (Int.toNat y0)).2.2.2)] ≤ nat_lit 9223372036854775807)) (.br (true) (.go ((IntKind.i64.wrap (y0 + 1),y6 ++ [((at_ yT1 y1 (Int.toNat y0)).1,(at_ yT1 y1 (Int.toNat y0)).2.1,g_Vs_l2Note_0 (at_ yT1 y1 (Int.toNat y0)).1 (at_ yT1 y1 (Int.toNat y0)).2.1 (at_ yT1 y1 (Int.toNat y0)).2.2.1 (at_ yT1 y1 (Int.toNat y0)).2.2.2,g_Vs_l2Note_1 (at_ yT1 y1 (Int.toNat y0)).1 (at_ yT1 y1 (Int.toNat y0)).2.1 (at_ yT1 y1 (Int.toNat y0)).2.2.1 (at_ yT1 y1 (Int.toNat y0)).2.2.2)]))) .bad) .bad) .bad) .bad) (.out (y6))) .bad
def g_Ls_l2Copy_0 (y1:tL0) (y2:Int) (y3:Int) (y4:tL0) (y5:Int) (x:Int×tL0):Option ((tL0)) := loopO (g_Ss_l2Copy_0 y1 y2 y3 y4 y5) x
def xs_l2Copy_0 (y1:tL0) (y2:Int) (y3:Int) (y4:tL0) (y5:Int):((tL0)) → Ex×List (Pl×LV) := fun r => (.exit 0,[(.T 2,.t (.val false [.ptr 2 0 0])),(.T 3,.t (.val false [.ptr 3 0 0])),(.B 2,.b 0 false [.row 2 1 0,.int .i64 y3]),(.R 2 1,.r 0 (some ⟨false,.any,true,92,(.pair (.int .i64) (.pair (.int .i64) (.pair (.sl 9 .str) (.sl 155 (.pair .str (.pair .bool (.sl 3 (.int .i64)))))))),y4⟩)),(.B 3,.b 0 false [.row 3 1 0,.int .i64 y5]),(.R 3 1,.r 0 (some ⟨false,.any,true,92,(.pair (.int .i64) (.pair (.int .i64) (.pair (.sl 9 .str) (.sl 155 (.pair .str (.pair .bool (.sl 3 (.int .i64)))))))),r⟩))])
def Os_l2Copy_1:Orc := fun b h => match b,h with
 | 0,[(.T 1,.t (.val false [.ptr 1 0 0])),(.T 2,.t (.val false [.ptr 2 0 0])),(.T 3,.t (.val false [.ptr 3 0 0])),(.T 4,.t (.val false [.int .i64 y0])),(.B 1,.b 0 false [.sl .any 92 (.pair (.int .i64) (.pair (.int .i64) (.pair (.sl 9 .str) (.sl 155 (.pair .str (.pair .bool (.sl 3 (.int .i64)))))))) y1,.int .i64 y2]),(.B 2,.b 0 false [.row 2 1 0,.int .i64 y3]),(.R 2 1,.r 0 (some ⟨false,.any,true,92,(.pair (.int .i64) (.pair (.int .i64) (.pair (.sl 9 .str) (.sl 155 (.pair .str (.pair .bool (.sl 3 (.int .i64)))))))),y4⟩)),(.B 3,.b 0 false [.row 3 1 0,.int .i64 y5]),(.R 3 1,.r 0 (some ⟨false,.any,true,92,(.pair (.int .i64) (.pair (.int .i64) (.pair (.sl 9 .str) (.sl 155 (.pair .str (.pair .bool (.sl 3 (.int .i64)))))))),y6⟩))] => some (okO (g_Ls_l2Copy_0 y1 y2 y3 y4 y5 (y0,y6)),(.leaf (.exit 0) [(.T 2,.t (.val false [.ptr 2 0 0])),(.T 3,.t (.val false [.ptr 3 0 0])),(.B 2,.b 0 false [.row 2 1 0,.int .i64 y3]),(.R 2 1,.r 0 (some ⟨false,.any,true,92,(.pair (.int .i64) (.pair (.int .i64) (.pair (.sl 9 .str) (.sl 155 (.pair .str (.pair .bool (.sl 3 (.int .i64)))))))),y4⟩)),(.B 3,.b 0 false [.row 3 1 0,.int .i64 y5]),(.R 3 1,.r 0 (some ⟨false,.any,true,92,(.pair (.int .i64) (.pair (.int .i64) (.pair (.sl 9 .str) (.sl 155 (.pair .str (.pair .bool (.sl 3 (.int .i64)))))))),(valO (g_Ls_l2Copy_0 y1 y2 y3 y4 y5 (y0,y6)))⟩))]))
 | b,h => Os_l2Copy_0 b h
theorem bs_l2Copy_0 (y0:Int) (y1:tL0) (y2:Int) (y3:Int) (y4:tL0) (y5:Int) (y6:tL0):Tr.bt Es_l2Copy Os_l2Copy_0 (exec Es_l2Copy 0 cs_l2Copy_0 (St.of (hs_l2Copy_0 y0 y1 y2 y3 y4 y5 y6)) (leafRd Es_l2Copy 0)) = (g_Ss_l2Copy_0 y1 y2 y3 y4 y5 (y0,y6)).bt (fun ((y0,y6):Int×tL0) => (hs_l2Copy_0 y0 y1 y2 y3 y4 y5 y6)) (xs_l2Copy_0 y1 y2 y3 y4 y5) := by kernel_rfl
theorem ks_l2Copy_1:OrcOk Es_l2Copy Os_l2Copy_1 lss_l2Copy 1 := orc_add ks_l2Copy_0 (fun n p hp h ex h' ho => by
 obtain ⟨b,c⟩ := p
 obtain ⟨xt,h1,h2⟩ := ho
 have h1:Os_l2Copy_1 b h = some (true,xt) := h1
 unfold Os_l2Copy_1 at h1
 split at h1
 ·injection h1 with h1
  injection h1 with e1 e2
  subst e2
  have hc:c = cs_l2Copy_0 := ms_l2Copy_0 _ hp rfl
  subst hc
  right
  rename_i y0 y1 y2 y3 y4 y5 y6
  have key := LT_step ks_l2Copy_0 hp (fun q hq => loopsAll_in _ _ _ _ hp hq) (fun ((y0,y6):Int×tL0) => (hs_l2Copy_0 y0 y1 y2 y3 y4 y5 y6)) (xs_l2Copy_0 y1 y2 y3 y4 y5) (g_Ss_l2Copy_0 y1 y2 y3 y4 y5) (fun x => by first | exact bs_l2Copy_0 x.1 y1 y2 y3 y4 y5 x.2) n (x := (y0,y6)) (okO_some e1)
  have hx:∀ r,XT.sel (.leaf (.exit 0) [(.T 2,.t (.val false [.ptr 2 0 0])),(.T 3,.t (.val false [.ptr 3 0 0])),(.B 2,.b 0 false [.row 2 1 0,.int .i64 y3]),(.R 2 1,.r 0 (some ⟨false,.any,true,92,(.pair (.int .i64) (.pair (.int .i64) (.pair (.sl 9 .str) (.sl 155 (.pair .str (.pair .bool (.sl 3 (.int .i64)))))))),y4⟩)),(.B 3,.b 0 false [.row 3 1 0,.int .i64 y5]),(.R 3 1,.r 0 (some ⟨false,.any,true,92,(.pair (.int .i64) (.pair (.int .i64) (.pair (.sl 9 .str) (.sl 155 (.pair .str (.pair .bool (.sl 3 (.int .i64)))))))),r⟩))]) = xs_l2Copy_0 y1 y2 y3 y4 y5 r := fun r => by first | rfl | rcases r with r | r <;> rfl | rcases r with r | r | r <;> rfl | rcases r with r | r | r | r <;> rfl
  have h3 := (hx (valO (g_Ls_l2Copy_0 y1 y2 y3 y4 y5 (y0,y6)))).symm.trans h2
  have e3 := congrArg Prod.fst h3
  have e4 := congrArg Prod.snd h3
  simp only at e3 e4
  rw [← e3,← e4]
  exact key
 ·exact .inl ⟨xt,h1,h2⟩)
def g_As_l2Copy (a0:tL0) (a1:Int):Bool := okO (g_Ls_l2Copy_0 a0 a1 (0:Int) [] a1 ((0:Int),[]))
def g_Vs_l2Copy_0 (a0:tL0) (a1:Int):tL0 := valO (g_Ls_l2Copy_0 a0 a1 (0:Int) [] a1 ((0:Int),[]))
def Fs_l2Copy:FSem := fun ys => match ys with
 | [.val true [.sl .any 92 (.pair (.int .i64) (.pair (.int .i64) (.pair (.sl 9 .str) (.sl 155 (.pair .str (.pair .bool (.sl 3 (.int .i64)))))))) a0,.int .i64 a1]] => some ((g_As_l2Copy a0 a1),.val true [.own .any true 92 (.pair (.int .i64) (.pair (.int .i64) (.pair (.sl 9 .str) (.sl 155 (.pair .str (.pair .bool (.sl 3 (.int .i64)))))))) (g_Vs_l2Copy_0 a0 a1),.int .i64 a1],[])
 | _ => none
theorem vs_l2Copy (a0:tL0) (a1:Int):collapseH .std Es_l2Copy Os_l2Copy_1 (execFn Es_l2Copy Tryz.f107 mss_l2Copy [.val true [.sl .any 92 (.pair (.int .i64) (.pair (.int .i64) (.pair (.sl 9 .str) (.sl 155 (.pair .str (.pair .bool (.sl 3 (.int .i64)))))))) a0,.int .i64 a1]]) = some ((g_As_l2Copy a0 a1),.val true [.own .any true 92 (.pair (.int .i64) (.pair (.int .i64) (.pair (.sl 9 .str) (.sl 155 (.pair .str (.pair .bool (.sl 3 (.int .i64)))))))) (g_Vs_l2Copy_0 a0 a1),.int .i64 a1],[]) := by kernel_rfl
theorem ss_l2Copy:Sound Tryz.prog 107 mss_l2Copy Fs_l2Copy := by
 refine fn_gen goods_l2Copy (by kernel_rfl) .std (fn := Tryz.f107) (c := (Tryz.f107.body.getD .skip)) (o := Os_l2Copy_1) (k := 1) (by kernel_rfl) (by kernel_rfl) (by kernel_rfl) (by kernel_rfl) (by decide) ks_l2Copy_1 ?_
 intro ys r outs h
 unfold Fs_l2Copy at h
 split at h
 ·exact (vs_l2Copy _ _).trans h
 ·cases h
def Es_DiskFall:Env where
 tt := mkTI Tryz.prog
 fn := fun f => match f with
  | 90 => some (mss_DiskOk,FSem.wk mss_DiskOk Fs_DiskOk)
  | 107 => some (mss_l2Copy,FSem.wk mss_l2Copy Fs_l2Copy)
  | _ => none
 bxf := fun _ => none
 mv := []
 keep := fun _ => []
 keepB := fun _ => []
 keepX := fun _ => []
 keepXB := fun _ => []
theorem goodFs_DiskFall:∀ f ms F,Es_DiskFall.fn f = some (ms,F) → Sound Tryz.prog f ms F := fun f ms F h => by
 unfold Es_DiskFall at h
 dsimp only at h
 split at h
 ·exact gF ss_DiskOk h
 ·exact gF ss_l2Copy h
 ·cases h
theorem goods_DiskFall:Good Tryz.prog Es_DiskFall := ⟨rfl,goodFs_DiskFall,fun f ms F h => by cases h⟩
def Os_DiskFall_0:Orc := fun _ _ => none
def mss_DiskFall:List PM := [.rd,.own]
def lss_DiskFall:List (Nat×Code) := loopsAll 0 (Tryz.f46.body.getD .skip)
theorem ks_DiskFall_0:OrcOk Es_DiskFall Os_DiskFall_0 lss_DiskFall 0 := orcOk_none
def g_As_DiskFall (a0:tL0) (a1:Int) (a2:Int):Bool := g_As_DiskOk a0 a1&&(!g_Vs_DiskOk_0 a0 a1 || decide (0 ≤ IntKind.i64.wrap (a1 + if (if IntKind.i64.wrap ((a0.length:Int) - a1) < a2 then IntKind.i64.wrap ((a0.length:Int) - a1) else a2) > 0 then if IntKind.i64.wrap ((a0.length:Int) - a1) < a2 then IntKind.i64.wrap ((a0.length:Int) - a1) else a2 else (0:Int)) ∧ IntKind.i64.wrap (a1 + if (if IntKind.i64.wrap ((a0.length:Int) - a1) < a2 then IntKind.i64.wrap ((a0.length:Int) - a1) else a2) > 0 then if IntKind.i64.wrap ((a0.length:Int) - a1) < a2 then IntKind.i64.wrap ((a0.length:Int) - a1) else a2 else (0:Int)) ≤ (a0.length:Int))&&g_As_l2Copy (List.drop (nat_lit 0) (List.take (Int.toNat (IntKind.i64.wrap (a1 + if (if IntKind.i64.wrap ((a0.length:Int) - a1) < a2 then IntKind.i64.wrap ((a0.length:Int) - a1) else a2) > 0 then if IntKind.i64.wrap ((a0.length:Int) - a1) < a2 then IntKind.i64.wrap ((a0.length:Int) - a1) else a2 else (0:Int)))) a0)) (0:Int))
def g_Vs_DiskFall_0 (a0:tL0) (a1:Int) (a2:Int):tL0 := bif !g_Vs_DiskOk_0 a0 a1 then [] else g_Vs_l2Copy_0 (List.drop (nat_lit 0) (List.take (Int.toNat (IntKind.i64.wrap (a1 + if (if IntKind.i64.wrap ((a0.length:Int) - a1) < a2 then IntKind.i64.wrap ((a0.length:Int) - a1) else a2) > 0 then if IntKind.i64.wrap ((a0.length:Int) - a1) < a2 then IntKind.i64.wrap ((a0.length:Int) - a1) else a2 else (0:Int)))) a0)) (0:Int)
def g_Vs_DiskFall_1 (a0:tL0) (a1:Int) (a2:Int):Int := bif !g_Vs_DiskOk_0 a0 a1 then (0:Int) else IntKind.i64.wrap (a1 + if (if IntKind.i64.wrap ((a0.length:Int) - a1) < a2 then IntKind.i64.wrap ((a0.length:Int) - a1) else a2) > 0 then if IntKind.i64.wrap ((a0.length:Int) - a1) < a2 then IntKind.i64.wrap ((a0.length:Int) - a1) else a2 else (0:Int))
def Fs_DiskFall:FSem := fun ys => match ys with
 | [.val true [.sl .any 92 (.pair (.int .i64) (.pair (.int .i64) (.pair (.sl 9 .str) (.sl 155 (.pair .str (.pair .bool (.sl 3 (.int .i64)))))))) a0,.int .i64 a1],.val false [.int .i64 a2]] => some ((g_As_DiskFall a0 a1 a2),.val true [.own .any true 92 (.pair (.int .i64) (.pair (.int .i64) (.pair (.sl 9 .str) (.sl 155 (.pair .str (.pair .bool (.sl 3 (.int .i64)))))))) (g_Vs_DiskFall_0 a0 a1 a2),.int .i64 (g_Vs_DiskFall_1 a0 a1 a2)],[])
 | _ => none
theorem vs_DiskFall (a0:tL0) (a1:Int) (a2:Int):collapseH .std Es_DiskFall Os_DiskFall_0 (execFn Es_DiskFall Tryz.f46 mss_DiskFall [.val true [.sl .any 92 (.pair (.int .i64) (.pair (.int .i64) (.pair (.sl 9 .str) (.sl 155 (.pair .str (.pair .bool (.sl 3 (.int .i64)))))))) a0,.int .i64 a1],.val false [.int .i64 a2]]) = some ((g_As_DiskFall a0 a1 a2),.val true [.own .any true 92 (.pair (.int .i64) (.pair (.int .i64) (.pair (.sl 9 .str) (.sl 155 (.pair .str (.pair .bool (.sl 3 (.int .i64)))))))) (g_Vs_DiskFall_0 a0 a1 a2),.int .i64 (g_Vs_DiskFall_1 a0 a1 a2)],[]) := by kernel_rfl
theorem ss_DiskFall:Sound Tryz.prog 46 mss_DiskFall Fs_DiskFall := by
 refine fn_gen goods_DiskFall (by kernel_rfl) .std (fn := Tryz.f46) (c := (Tryz.f46.body.getD .skip)) (o := Os_DiskFall_0) (k := 0) (by kernel_rfl) (by kernel_rfl) (by kernel_rfl) (by kernel_rfl) (by decide) ks_DiskFall_0 ?_
 intro ys r outs h
 unfold Fs_DiskFall at h
 split at h
 ·exact (vs_DiskFall _ _ _).trans h
 ·cases h
def Es_OpOk:Env where
 tt := mkTI Tryz.prog
 fn := fun f => match f with
  | 55 => some (mss_l1In,FSem.wk mss_l1In Fs_l1In)
  | _ => none
 bxf := fun _ => none
 mv := []
 keep := fun _ => []
 keepB := fun _ => []
 keepX := fun _ => []
 keepXB := fun _ => []
theorem goodFs_OpOk:∀ f ms F,Es_OpOk.fn f = some (ms,F) → Sound Tryz.prog f ms F := fun f ms F h => by
 unfold Es_OpOk at h
 dsimp only at h
 split at h
 ·exact gF ss_l1In h
 ·cases h
theorem goods_OpOk:Good Tryz.prog Es_OpOk := ⟨rfl,goodFs_OpOk,fun f ms F h => by cases h⟩
def Os_OpOk_0:Orc := fun _ _ => none
def mss_OpOk:List PM := [.own]
def lss_OpOk:List (Nat×Code) := loopsAll 0 (Tryz.f56.body.getD .skip)
theorem ks_OpOk_0:OrcOk Es_OpOk Os_OpOk_0 lss_OpOk 0 := orcOk_none
def g_As_OpOk (a0:Int) (a1:Int) (a2:Int) (a3:Int) (a4:Int) (a5:Int) (a6:Int):Bool := g_As_l1In a1 (0:Int) (9:Int)&&(!g_Vs_l1In_0 a1 (0:Int) (9:Int) || g_As_l1In a2 (0:Int) (9:Int)&&(!g_Vs_l1In_0 a2 (0:Int) (9:Int) || g_As_l1In a3 (0:Int) (9:Int)&&(!g_Vs_l1In_0 a3 (0:Int) (9:Int) || g_As_l1In a4 (0:Int) (99:Int)&&(!g_Vs_l1In_0 a4 (0:Int) (99:Int) || g_As_l1In a5 (0:Int) (9:Int)&&(!g_Vs_l1In_0 a5 (0:Int) (9:Int) || g_As_l1In a6 (0:Int) (99:Int)&&(!g_Vs_l1In_0 a6 (0:Int) (99:Int) || bif a0 == 1 then bif a0 == 1 then !a3 == 0 || (!a4 == 0 || (!a5 == 0 || true)) else bif a0 == 2 then !a5 == 0 || true else bif a0 == 3 then !a1 == 0 || (!a2 == 0 || true) else !a0 == 4 || (!a1 == 0 || (!a2 == 0 || (!a3 == 0 || true))) else bif a0 == 5 then !a3 == 0 || (!a4 == 0 || (!a5 == 0 || true)) else bif a0 == 2 then !a5 == 0 || true else bif a0 == 3 then !a1 == 0 || (!a2 == 0 || true) else !a0 == 4 || (!a1 == 0 || (!a2 == 0 || (!a3 == 0 || true)))))))))
def g_Vs_OpOk_0 (a0:Int) (a1:Int) (a2:Int) (a3:Int) (a4:Int) (a5:Int) (a6:Int):Bool := bif !g_Vs_l1In_0 a1 (0:Int) (9:Int) then false else bif !g_Vs_l1In_0 a2 (0:Int) (9:Int) then false else bif !g_Vs_l1In_0 a3 (0:Int) (9:Int) then false else bif !g_Vs_l1In_0 a4 (0:Int) (99:Int) then false else bif !g_Vs_l1In_0 a5 (0:Int) (9:Int) then false else bif !g_Vs_l1In_0 a6 (0:Int) (99:Int) then false else bif a0 == 1 then bif a0 == 1 then bif a3 == 0 then bif a4 == 0 then bif a5 == 0 then a6 == 0 else false else false else false else bif a0 == 2 then bif a5 == 0 then a6 == 0 else false else bif a0 == 3 then bif a1 == 0 then bif a2 == 0 then a6 == 0 else false else false else bif a0 == 4 then bif a1 == 0 then bif a2 == 0 then bif a3 == 0 then a4 == 0 else false else false else false else false else bif a0 == 5 then bif a3 == 0 then bif a4 == 0 then bif a5 == 0 then a6 == 0 else false else false else false else bif a0 == 2 then bif a5 == 0 then a6 == 0 else false else bif a0 == 3 then bif a1 == 0 then bif a2 == 0 then a6 == 0 else false else false else bif a0 == 4 then bif a1 == 0 then bif a2 == 0 then bif a3 == 0 then a4 == 0 else false else false else false else false
def Fs_OpOk:FSem := fun ys => match ys with
 | [.val true [.int .i64 a0,.int .i64 a1,.int .i64 a2,.int .i64 a3,.int .i64 a4,.int .i64 a5,.int .i64 a6]] => some ((g_As_OpOk a0 a1 a2 a3 a4 a5 a6),.val false [.bool (g_Vs_OpOk_0 a0 a1 a2 a3 a4 a5 a6)],[])
 | _ => none
theorem vs_OpOk (a0:Int) (a1:Int) (a2:Int) (a3:Int) (a4:Int) (a5:Int) (a6:Int):collapseH .std Es_OpOk Os_OpOk_0 (execFn Es_OpOk Tryz.f56 mss_OpOk [.val true [.int .i64 a0,.int .i64 a1,.int .i64 a2,.int .i64 a3,.int .i64 a4,.int .i64 a5,.int .i64 a6]]) = some ((g_As_OpOk a0 a1 a2 a3 a4 a5 a6),.val false [.bool (g_Vs_OpOk_0 a0 a1 a2 a3 a4 a5 a6)],[]) := by kernel_rfl
theorem ss_OpOk:Sound Tryz.prog 56 mss_OpOk Fs_OpOk := by
 refine fn_gen goods_OpOk (by kernel_rfl) .std (fn := Tryz.f56) (c := (Tryz.f56.body.getD .skip)) (o := Os_OpOk_0) (k := 0) (by kernel_rfl) (by kernel_rfl) (by kernel_rfl) (by kernel_rfl) (by decide) ks_OpOk_0 ?_
 intro ys r outs h
 unfold Fs_OpOk at h
 split at h
 ·exact (vs_OpOk _ _ _ _ _ _ _).trans h
 ·cases h
def Es_l2Of:Env where
 tt := mkTI Tryz.prog
 fn := fun _ => none
 bxf := fun _ => none
 mv := []
 keep := fun b => match b with
  | 0 => [(0,false),(1,false),(5,false),(6,false)]
  | _ => []
 keepB := fun b => match b with
  | 0 => []
  | _ => []
 keepX := fun b => match b with
  | 0 => [(5,false)]
  | _ => []
 keepXB := fun b => match b with
  | 0 => []
  | _ => []
theorem goodFs_l2Of:∀ f ms F,Es_l2Of.fn f = some (ms,F) → Sound Tryz.prog f ms F := fun f ms F h => by cases h
theorem goods_l2Of:Good Tryz.prog Es_l2Of := ⟨rfl,goodFs_l2Of,fun f ms F h => by cases h⟩
def Os_l2Of_0:Orc := fun _ _ => none
def mss_l2Of:List PM := [.rd,.own]
def lss_l2Of:List (Nat×Code) := loopsAll 0 (Tryz.f47.body.getD .skip)
def cs_l2Of_0:Code := (loopOf 0 (Tryz.f47.body.getD .skip)).getD .skip
theorem lseqs_l2Of:lss_l2Of = [(0,cs_l2Of_0)] := by kernel_rfl
theorem ms_l2Of_0:∀ p,p ∈ lss_l2Of → p.1 = 0 → p.2 = cs_l2Of_0 := by
 intro p hp
 rw [lseqs_l2Of] at hp
 simp only [List.mem_cons,List.not_mem_nil,or_false] at hp
 subst hp; simp
theorem ks_l2Of_0:OrcOk Es_l2Of Os_l2Of_0 lss_l2Of 0 := orcOk_none
def hs_l2Of_0 (y0:tL0) (y1:Int) (y2:Int) (y3:Int):List (Pl×LV) := [(.T 0,.t (.val false [.sl .any 92 (.pair (.int .i64) (.pair (.int .i64) (.pair (.sl 9 .str) (.sl 155 (.pair .str (.pair .bool (.sl 3 (.int .i64)))))))) y0])),(.T 1,.t (.val false [.int .i64 y1])),(.T 5,.t (.val false [.int .i64 y2])),(.T 6,.t (.val false [.int .i64 y3]))]
def g_Ss_l2Of_0 (y0:tL0) (y1:Int):(Int×Int) → RT (Int×Int) ((Int))
 | (y2,y3) => .br (true) (.br (decide (y3 < (y0.length:Int))) (.br (decide (0 ≤ y3 ∧ y3 < (y0.length:Int))) (.br (true) (.br ((at_ yT1 y0 (Int.toNat y3)).2.1 == y1) (.br (decide (0 ≤ y3 ∧ y3 < (y0.length:Int))) (.br (true) (.br ((at_ yT1 y0 (Int.toNat y3)).1 != 4) (.br (decide (0 ≤ y3 ∧ y3 < (y0.length:Int))) (.br (true) (.go (((at_ yT1 y0 (Int.toNat y3)).1,IntKind.i64.wrap (y3 + 1)))) .bad) .bad) (.br (true) (.go ((y2,IntKind.i64.wrap (y3 + 1)))) .bad)) .bad) .bad) (.br (true) (.go ((y2,IntKind.i64.wrap (y3 + 1)))) .bad)) .bad) .bad) (.out (y2))) .bad
def g_Ls_l2Of_0 (y0:tL0) (y1:Int) (x:Int×Int):Option ((Int)) := loopO (g_Ss_l2Of_0 y0 y1) x
def xs_l2Of_0 (y0:tL0) (y1:Int):((Int)) → Ex×List (Pl×LV) := fun r => (.exit 0,[(.T 5,.t (.val false [.int .i64 r]))])
def Os_l2Of_1:Orc := fun b h => match b,h with
 | 0,[(.T 0,.t (.val false [.sl .any 92 (.pair (.int .i64) (.pair (.int .i64) (.pair (.sl 9 .str) (.sl 155 (.pair .str (.pair .bool (.sl 3 (.int .i64)))))))) y0])),(.T 1,.t (.val false [.int .i64 y1])),(.T 5,.t (.val false [.int .i64 y2])),(.T 6,.t (.val false [.int .i64 y3]))] => some (okO (g_Ls_l2Of_0 y0 y1 (y2,y3)),(.leaf (.exit 0) [(.T 5,.t (.val false [.int .i64 (valO (g_Ls_l2Of_0 y0 y1 (y2,y3)))]))]))
 | b,h => Os_l2Of_0 b h
theorem bs_l2Of_0 (y0:tL0) (y1:Int) (y2:Int) (y3:Int):Tr.bt Es_l2Of Os_l2Of_0 (exec Es_l2Of 0 cs_l2Of_0 (St.of (hs_l2Of_0 y0 y1 y2 y3)) (leafRd Es_l2Of 0)) = (g_Ss_l2Of_0 y0 y1 (y2,y3)).bt (fun ((y2,y3):Int×Int) => (hs_l2Of_0 y0 y1 y2 y3)) (xs_l2Of_0 y0 y1) := by kernel_rfl
theorem ks_l2Of_1:OrcOk Es_l2Of Os_l2Of_1 lss_l2Of 1 := orc_add ks_l2Of_0 (fun n p hp h ex h' ho => by
 obtain ⟨b,c⟩ := p
 obtain ⟨xt,h1,h2⟩ := ho
 have h1:Os_l2Of_1 b h = some (true,xt) := h1
 unfold Os_l2Of_1 at h1
 split at h1
 ·injection h1 with h1
  injection h1 with e1 e2
  subst e2
  have hc:c = cs_l2Of_0 := ms_l2Of_0 _ hp rfl
  subst hc
  right
  rename_i y0 y1 y2 y3
  have key := LT_step ks_l2Of_0 hp (fun q hq => loopsAll_in _ _ _ _ hp hq) (fun ((y2,y3):Int×Int) => (hs_l2Of_0 y0 y1 y2 y3)) (xs_l2Of_0 y0 y1) (g_Ss_l2Of_0 y0 y1) (fun x => by first | exact bs_l2Of_0 y0 y1 x.1 x.2) n (x := (y2,y3)) (okO_some e1)
  have hx:∀ r,XT.sel (.leaf (.exit 0) [(.T 5,.t (.val false [.int .i64 r]))]) = xs_l2Of_0 y0 y1 r := fun r => by first | rfl | rcases r with r | r <;> rfl | rcases r with r | r | r <;> rfl | rcases r with r | r | r | r <;> rfl
  have h3 := (hx (valO (g_Ls_l2Of_0 y0 y1 (y2,y3)))).symm.trans h2
  have e3 := congrArg Prod.fst h3
  have e4 := congrArg Prod.snd h3
  simp only at e3 e4
  rw [← e3,← e4]
  exact key
 ·exact .inl ⟨xt,h1,h2⟩)
def g_As_l2Of (a0:tL0) (a1:Int):Bool := okO (g_Ls_l2Of_0 a0 a1 ((0:Int),(0:Int)))
def g_Vs_l2Of_0 (a0:tL0) (a1:Int):Int := valO (g_Ls_l2Of_0 a0 a1 ((0:Int),(0:Int)))
def Fs_l2Of:FSem := fun ys => match ys with
 | [.val false [.sl .any 92 (.pair (.int .i64) (.pair (.int .i64) (.pair (.sl 9 .str) (.sl 155 (.pair .str (.pair .bool (.sl 3 (.int .i64)))))))) a0],.val false [.int .i64 a1]] => some ((g_As_l2Of a0 a1),.val false [.int .i64 (g_Vs_l2Of_0 a0 a1)],[])
 | _ => none
theorem vs_l2Of (a0:tL0) (a1:Int):collapseH .std Es_l2Of Os_l2Of_1 (execFn Es_l2Of Tryz.f47 mss_l2Of [.val false [.sl .any 92 (.pair (.int .i64) (.pair (.int .i64) (.pair (.sl 9 .str) (.sl 155 (.pair .str (.pair .bool (.sl 3 (.int .i64)))))))) a0],.val false [.int .i64 a1]]) = some ((g_As_l2Of a0 a1),.val false [.int .i64 (g_Vs_l2Of_0 a0 a1)],[]) := by kernel_rfl
theorem ss_l2Of:Sound Tryz.prog 47 mss_l2Of Fs_l2Of := by
 refine fn_gen goods_l2Of (by kernel_rfl) .std (fn := Tryz.f47) (c := (Tryz.f47.body.getD .skip)) (o := Os_l2Of_1) (k := 1) (by kernel_rfl) (by kernel_rfl) (by kernel_rfl) (by kernel_rfl) (by decide) ks_l2Of_1 ?_
 intro ys r outs h
 unfold Fs_l2Of at h
 split at h
 ·exact (vs_l2Of _ _).trans h
 ·cases h
def Es_l6Places:Env where
 tt := mkTI Tryz.prog
 fn := fun f => match f with
  | 55 => some (mss_l1In,FSem.wk mss_l1In Fs_l1In)
  | _ => none
 bxf := fun _ => none
 mv := []
 keep := fun b => match b with
  | 0 => [(0,false),(3,false)]
  | _ => []
 keepB := fun b => match b with
  | 0 => []
  | _ => []
 keepX := fun b => match b with
  | 0 => [(2,false)]
  | _ => []
 keepXB := fun b => match b with
  | 0 => []
  | _ => []
theorem goodFs_l6Places:∀ f ms F,Es_l6Places.fn f = some (ms,F) → Sound Tryz.prog f ms F := fun f ms F h => by
 unfold Es_l6Places at h
 dsimp only at h
 split at h
 ·exact gF ss_l1In h
 ·cases h
theorem goods_l6Places:Good Tryz.prog Es_l6Places := ⟨rfl,goodFs_l6Places,fun f ms F h => by cases h⟩
def Os_l6Places_0:Orc := fun _ _ => none
def mss_l6Places:List PM := [.rd]
def lss_l6Places:List (Nat×Code) := loopsAll 0 (Tryz.f91.body.getD .skip)
def cs_l6Places_0:Code := (loopOf 0 (Tryz.f91.body.getD .skip)).getD .skip
theorem lseqs_l6Places:lss_l6Places = [(0,cs_l6Places_0)] := by kernel_rfl
theorem ms_l6Places_0:∀ p,p ∈ lss_l6Places → p.1 = 0 → p.2 = cs_l6Places_0 := by
 intro p hp
 rw [lseqs_l6Places] at hp
 simp only [List.mem_cons,List.not_mem_nil,or_false] at hp
 subst hp; simp
theorem ks_l6Places_0:OrcOk Es_l6Places Os_l6Places_0 lss_l6Places 0 := orcOk_none
def hs_l6Places_0 (y0:List Int) (y1:Int):List (Pl×LV) := [(.T 0,.t (.val false [.sl .any 3 (.int .i64) y0])),(.T 3,.t (.val false [.int .i64 y1]))]
def g_Ss_l6Places_0 (y0:List Int):(Int) → RT (Int) ((Bool) ⊕ (Unit))
 | y1 => .br (true) (.br (decide (y1 < (y0.length:Int))) (.br (decide (0 ≤ y1 ∧ y1 < (y0.length:Int))) (.br (g_As_l1In (at_ (.int .i64) y0 (Int.toNat y1)) (1:Int) (3:Int)) (.br (!g_Vs_l1In_0 (at_ (.int .i64) y0 (Int.toNat y1)) (1:Int) (3:Int)) (.out (.inl false)) (.br (true) (.br (decide (y1 > 0)) (.br (true) (.br (decide (0 ≤ IntKind.i64.wrap (y1 - 1) ∧ IntKind.i64.wrap (y1 - 1) < (y0.length:Int))) (.br (decide (0 ≤ y1 ∧ y1 < (y0.length:Int))) (.br (true) (.br (decide (at_ (.int .i64) y0 (Int.toNat (IntKind.i64.wrap (y1 - 1))) ≥ at_ (.int .i64) y0 (Int.toNat y1))) (.out (.inl false)) (.br (true) (.go (IntKind.i64.wrap (y1 + 1))) .bad)) .bad) .bad) .bad) .bad) (.br (true) (.go (IntKind.i64.wrap (y1 + 1))) .bad)) .bad)) .bad) .bad) (.out (.inr (())))) .bad
def g_Ls_l6Places_0 (y0:List Int) (x:Int):Option ((Bool) ⊕ (Unit)) := loopO (g_Ss_l6Places_0 y0) x
def xs_l6Places_0 (y0:List Int):((Bool) ⊕ (Unit)) → Ex×List (Pl×LV) := fun
 | .inl r => (.ret,[(.T 2,.t (.val false [.bool r]))])
 | .inr (r) => (.exit 0,[(.T 2,.t (.val false [.undef]))])
def Os_l6Places_1:Orc := fun b h => match b,h with
 | 0,[(.T 0,.t (.val false [.sl .any 3 (.int .i64) y0])),(.T 3,.t (.val false [.int .i64 y1]))] => some (okO (g_Ls_l6Places_0 y0 y1),(.br (isL (valO (g_Ls_l6Places_0 y0 y1))) (.leaf .ret [(.T 2,.t (.val false [.bool (getL (valO (g_Ls_l6Places_0 y0 y1)))]))]) (.leaf (.exit 0) [(.T 2,.t (.val false [.undef]))])))
 | b,h => Os_l6Places_0 b h
theorem bs_l6Places_0 (y0:List Int) (y1:Int):Tr.bt Es_l6Places Os_l6Places_0 (exec Es_l6Places 0 cs_l6Places_0 (St.of (hs_l6Places_0 y0 y1)) (leafRd Es_l6Places 0)) = (g_Ss_l6Places_0 y0 y1).bt (fun (y1:Int) => (hs_l6Places_0 y0 y1)) (xs_l6Places_0 y0) := by kernel_rfl
theorem ks_l6Places_1:OrcOk Es_l6Places Os_l6Places_1 lss_l6Places 1 := orc_add ks_l6Places_0 (fun n p hp h ex h' ho => by
 obtain ⟨b,c⟩ := p
 obtain ⟨xt,h1,h2⟩ := ho
 have h1:Os_l6Places_1 b h = some (true,xt) := h1
 unfold Os_l6Places_1 at h1
 split at h1
 ·injection h1 with h1
  injection h1 with e1 e2
  subst e2
  have hc:c = cs_l6Places_0 := ms_l6Places_0 _ hp rfl
  subst hc
  right
  rename_i y0 y1
  have key := LT_step ks_l6Places_0 hp (fun q hq => loopsAll_in _ _ _ _ hp hq) (fun (y1:Int) => (hs_l6Places_0 y0 y1)) (xs_l6Places_0 y0) (g_Ss_l6Places_0 y0) (fun x => by first | exact bs_l6Places_0 y0 x) n (x := y1) (okO_some e1)
  have hx:∀ r,XT.sel (.br (isL r) (.leaf .ret [(.T 2,.t (.val false [.bool (getL r)]))]) (.leaf (.exit 0) [(.T 2,.t (.val false [.undef]))])) = xs_l6Places_0 y0 r := fun r => by first | rfl | rcases r with r | r <;> rfl | rcases r with r | r | r <;> rfl | rcases r with r | r | r | r <;> rfl
  have h3 := (hx (valO (g_Ls_l6Places_0 y0 y1))).symm.trans h2
  have e3 := congrArg Prod.fst h3
  have e4 := congrArg Prod.snd h3
  simp only at e3 e4
  rw [← e3,← e4]
  exact key
 ·exact .inl ⟨xt,h1,h2⟩)
def g_As_l6Places (a0:List Int):Bool := okO (g_Ls_l6Places_0 a0 (0:Int))
def g_Vs_l6Places_0 (a0:List Int):Bool := bif isL (valO (g_Ls_l6Places_0 a0 (0:Int))) then getL (valO (g_Ls_l6Places_0 a0 (0:Int))) else true
def Fs_l6Places:FSem := fun ys => match ys with
 | [.val false [.sl .any 3 (.int .i64) a0]] => some ((g_As_l6Places a0),.val false [.bool (g_Vs_l6Places_0 a0)],[])
 | _ => none
theorem vs_l6Places (a0:List Int):collapseH .std Es_l6Places Os_l6Places_1 (execFn Es_l6Places Tryz.f91 mss_l6Places [.val false [.sl .any 3 (.int .i64) a0]]) = some ((g_As_l6Places a0),.val false [.bool (g_Vs_l6Places_0 a0)],[]) := by kernel_rfl
theorem ss_l6Places:Sound Tryz.prog 91 mss_l6Places Fs_l6Places := by
 refine fn_gen goods_l6Places (by kernel_rfl) .std (fn := Tryz.f91) (c := (Tryz.f91.body.getD .skip)) (o := Os_l6Places_1) (k := 1) (by kernel_rfl) (by kernel_rfl) (by kernel_rfl) (by kernel_rfl) (by decide) ks_l6Places_1 ?_
 intro ys r outs h
 unfold Fs_l6Places at h
 split at h
 ·exact (vs_l6Places _).trans h
 ·cases h
def Es_FroOk:Env where
 tt := mkTI Tryz.prog
 fn := fun f => match f with
  | 47 => some (mss_l2Of,FSem.wk mss_l2Of Fs_l2Of)
  | 55 => some (mss_l1In,FSem.wk mss_l1In Fs_l1In)
  | 56 => some (mss_OpOk,FSem.wk mss_OpOk Fs_OpOk)
  | 90 => some (mss_DiskOk,FSem.wk mss_DiskOk Fs_DiskOk)
  | 91 => some (mss_l6Places,FSem.wk mss_l6Places Fs_l6Places)
  | _ => none
 bxf := fun _ => none
 mv := []
 keep := fun b => match b with
  | 0 => [(1,false),(3,false)]
  | 2 => [(1,false),(4,false)]
  | _ => []
 keepB := fun b => match b with
  | 0 => [(1,false)]
  | 2 => [(1,false)]
  | _ => []
 keepX := fun b => match b with
  | 0 => [(1,false),(2,false)]
  | 2 => [(2,false)]
  | _ => []
 keepXB := fun b => match b with
  | 0 => [(1,false)]
  | 2 => []
  | _ => []
theorem goodFs_FroOk:∀ f ms F,Es_FroOk.fn f = some (ms,F) → Sound Tryz.prog f ms F := fun f ms F h => by
 unfold Es_FroOk at h
 dsimp only at h
 split at h
 ·exact gF ss_l2Of h
 ·exact gF ss_l1In h
 ·exact gF ss_OpOk h
 ·exact gF ss_DiskOk h
 ·exact gF ss_l6Places h
 ·cases h
theorem goods_FroOk:Good Tryz.prog Es_FroOk := ⟨rfl,goodFs_FroOk,fun f ms F h => by cases h⟩
def Os_FroOk_0:Orc := fun _ _ => none
def mss_FroOk:List PM := [.rd]
def lss_FroOk:List (Nat×Code) := loopsAll 0 (Tryz.f29.body.getD .skip)
def cs_FroOk_0:Code := (loopOf 0 (Tryz.f29.body.getD .skip)).getD .skip
def cs_FroOk_2:Code := (loopOf 2 (Tryz.f29.body.getD .skip)).getD .skip
theorem lseqs_FroOk:lss_FroOk = [(0,cs_FroOk_0),(2,cs_FroOk_2)] := by kernel_rfl
theorem ms_FroOk_0:∀ p,p ∈ lss_FroOk → p.1 = 0 → p.2 = cs_FroOk_0 := by
 intro p hp
 rw [lseqs_FroOk] at hp
 simp only [List.mem_cons,List.not_mem_nil,or_false] at hp
 rcases hp with rfl | rfl <;> simp
theorem ms_FroOk_2:∀ p,p ∈ lss_FroOk → p.1 = 2 → p.2 = cs_FroOk_2 := by
 intro p hp
 rw [lseqs_FroOk] at hp
 simp only [List.mem_cons,List.not_mem_nil,or_false] at hp
 rcases hp with rfl | rfl <;> simp
theorem ks_FroOk_0:OrcOk Es_FroOk Os_FroOk_0 lss_FroOk 0 := orcOk_none
def hs_FroOk_0 (y0:Int) (y1:tL0) (y2:Int) (y3:tL1):List (Pl×LV) := [(.T 1,.t (.val false [.ptr 1 0 0])),(.T 3,.t (.val false [.int .i64 y0])),(.B 1,.b 0 false [.sl .any 92 (.pair (.int .i64) (.pair (.int .i64) (.pair (.sl 9 .str) (.sl 155 (.pair .str (.pair .bool (.sl 3 (.int .i64)))))))) y1,.int .i64 y2,.sl .any 73 (.pair (.int .i64) (.pair (.pair (.int .i64) (.pair (.int .i64) (.pair (.int .i64) (.pair (.int .i64) (.pair (.int .i64) (.pair (.int .i64) (.int .i64))))))) (.pair .bool (.pair (.sl 3 (.int .i64)) (.sl 3 (.int .i64)))))) y3])]
def g_Ss_FroOk_0 (y1:tL0) (y2:Int) (y3:tL1):(Int) → RT (Int) ((Bool) ⊕ (Unit))
 | y0 => .br (true) (.br (decide (y0 < (y1.length:Int))) (.br (decide (0 ≤ y0 ∧ y0 < (y1.length:Int))) (.br (true) (.br ((at_ yT1 y1 (Int.toNat y0)).1 != 2) (.br (decide (0 ≤ y0 ∧ y0 < (y1.length:Int))) (.br (true) (.br ((at_ yT1 y1 (Int.toNat y0)).1 != 4) (.out (.inl false)) (.br (true) (.go (IntKind.i64.wrap (y0 + 1))) .bad)) .bad) .bad) (.br (true) (.go (IntKind.i64.wrap (y0 + 1))) .bad)) .bad) .bad) (.out (.inr (())))) .bad
def g_Ls_FroOk_0 (y1:tL0) (y2:Int) (y3:tL1) (x:Int):Option ((Bool) ⊕ (Unit)) := loopO (g_Ss_FroOk_0 y1 y2 y3) x
def xs_FroOk_0 (y1:tL0) (y2:Int) (y3:tL1):((Bool) ⊕ (Unit)) → Ex×List (Pl×LV) := fun
 | .inl r => (.ret,[(.T 1,.t (.val false [.ptr 1 0 0])),(.T 2,.t (.val false [.bool r])),(.B 1,.b 0 false [.sl .any 92 (.pair (.int .i64) (.pair (.int .i64) (.pair (.sl 9 .str) (.sl 155 (.pair .str (.pair .bool (.sl 3 (.int .i64)))))))) y1,.int .i64 y2,.sl .any 73 (.pair (.int .i64) (.pair (.pair (.int .i64) (.pair (.int .i64) (.pair (.int .i64) (.pair (.int .i64) (.pair (.int .i64) (.pair (.int .i64) (.int .i64))))))) (.pair .bool (.pair (.sl 3 (.int .i64)) (.sl 3 (.int .i64)))))) y3])])
 | .inr (r) => (.exit 0,[(.T 1,.t (.val false [.ptr 1 0 0])),(.T 2,.t (.val false [.undef])),(.B 1,.b 0 false [.sl .any 92 (.pair (.int .i64) (.pair (.int .i64) (.pair (.sl 9 .str) (.sl 155 (.pair .str (.pair .bool (.sl 3 (.int .i64)))))))) y1,.int .i64 y2,.sl .any 73 (.pair (.int .i64) (.pair (.pair (.int .i64) (.pair (.int .i64) (.pair (.int .i64) (.pair (.int .i64) (.pair (.int .i64) (.pair (.int .i64) (.int .i64))))))) (.pair .bool (.pair (.sl 3 (.int .i64)) (.sl 3 (.int .i64)))))) y3])])
def Os_FroOk_1:Orc := fun b h => match b,h with
 | 0,[(.T 1,.t (.val false [.ptr 1 0 0])),(.T 3,.t (.val false [.int .i64 y0])),(.B 1,.b 0 false [.sl .any 92 (.pair (.int .i64) (.pair (.int .i64) (.pair (.sl 9 .str) (.sl 155 (.pair .str (.pair .bool (.sl 3 (.int .i64)))))))) y1,.int .i64 y2,.sl .any 73 (.pair (.int .i64) (.pair (.pair (.int .i64) (.pair (.int .i64) (.pair (.int .i64) (.pair (.int .i64) (.pair (.int .i64) (.pair (.int .i64) (.int .i64))))))) (.pair .bool (.pair (.sl 3 (.int .i64)) (.sl 3 (.int .i64)))))) y3])] => some (okO (g_Ls_FroOk_0 y1 y2 y3 y0),(.br (isL (valO (g_Ls_FroOk_0 y1 y2 y3 y0))) (.leaf .ret [(.T 1,.t (.val false [.ptr 1 0 0])),(.T 2,.t (.val false [.bool (getL (valO (g_Ls_FroOk_0 y1 y2 y3 y0)))])),(.B 1,.b 0 false [.sl .any 92 (.pair (.int .i64) (.pair (.int .i64) (.pair (.sl 9 .str) (.sl 155 (.pair .str (.pair .bool (.sl 3 (.int .i64)))))))) y1,.int .i64 y2,.sl .any 73 (.pair (.int .i64) (.pair (.pair (.int .i64) (.pair (.int .i64) (.pair (.int .i64) (.pair (.int .i64) (.pair (.int .i64) (.pair (.int .i64) (.int .i64))))))) (.pair .bool (.pair (.sl 3 (.int .i64)) (.sl 3 (.int .i64)))))) y3])]) (.leaf (.exit 0) [(.T 1,.t (.val false [.ptr 1 0 0])),(.T 2,.t (.val false [.undef])),(.B 1,.b 0 false [.sl .any 92 (.pair (.int .i64) (.pair (.int .i64) (.pair (.sl 9 .str) (.sl 155 (.pair .str (.pair .bool (.sl 3 (.int .i64)))))))) y1,.int .i64 y2,.sl .any 73 (.pair (.int .i64) (.pair (.pair (.int .i64) (.pair (.int .i64) (.pair (.int .i64) (.pair (.int .i64) (.pair (.int .i64) (.pair (.int .i64) (.int .i64))))))) (.pair .bool (.pair (.sl 3 (.int .i64)) (.sl 3 (.int .i64)))))) y3])])))
 | b,h => Os_FroOk_0 b h
theorem bs_FroOk_0 (y0:Int) (y1:tL0) (y2:Int) (y3:tL1):Tr.bt Es_FroOk Os_FroOk_0 (exec Es_FroOk 0 cs_FroOk_0 (St.of (hs_FroOk_0 y0 y1 y2 y3)) (leafRd Es_FroOk 0)) = (g_Ss_FroOk_0 y1 y2 y3 y0).bt (fun (y0:Int) => (hs_FroOk_0 y0 y1 y2 y3)) (xs_FroOk_0 y1 y2 y3) := by kernel_rfl
theorem ks_FroOk_1:OrcOk Es_FroOk Os_FroOk_1 lss_FroOk 1 := orc_add ks_FroOk_0 (fun n p hp h ex h' ho => by
 obtain ⟨b,c⟩ := p
 obtain ⟨xt,h1,h2⟩ := ho
 have h1:Os_FroOk_1 b h = some (true,xt) := h1
 unfold Os_FroOk_1 at h1
 split at h1
 ·injection h1 with h1
  injection h1 with e1 e2
  subst e2
  have hc:c = cs_FroOk_0 := ms_FroOk_0 _ hp rfl
  subst hc
  right
  rename_i y0 y1 y2 y3
  have key := LT_step ks_FroOk_0 hp (fun q hq => loopsAll_in _ _ _ _ hp hq) (fun (y0:Int) => (hs_FroOk_0 y0 y1 y2 y3)) (xs_FroOk_0 y1 y2 y3) (g_Ss_FroOk_0 y1 y2 y3) (fun x => by first | exact bs_FroOk_0 x y1 y2 y3) n (x := y0) (okO_some e1)
  have hx:∀ r,XT.sel (.br (isL r) (.leaf .ret [(.T 1,.t (.val false [.ptr 1 0 0])),(.T 2,.t (.val false [.bool (getL r)])),(.B 1,.b 0 false [.sl .any 92 (.pair (.int .i64) (.pair (.int .i64) (.pair (.sl 9 .str) (.sl 155 (.pair .str (.pair .bool (.sl 3 (.int .i64)))))))) y1,.int .i64 y2,.sl .any 73 (.pair (.int .i64) (.pair (.pair (.int .i64) (.pair (.int .i64) (.pair (.int .i64) (.pair (.int .i64) (.pair (.int .i64) (.pair (.int .i64) (.int .i64))))))) (.pair .bool (.pair (.sl 3 (.int .i64)) (.sl 3 (.int .i64)))))) y3])]) (.leaf (.exit 0) [(.T 1,.t (.val false [.ptr 1 0 0])),(.T 2,.t (.val false [.undef])),(.B 1,.b 0 false [.sl .any 92 (.pair (.int .i64) (.pair (.int .i64) (.pair (.sl 9 .str) (.sl 155 (.pair .str (.pair .bool (.sl 3 (.int .i64)))))))) y1,.int .i64 y2,.sl .any 73 (.pair (.int .i64) (.pair (.pair (.int .i64) (.pair (.int .i64) (.pair (.int .i64) (.pair (.int .i64) (.pair (.int .i64) (.pair (.int .i64) (.int .i64))))))) (.pair .bool (.pair (.sl 3 (.int .i64)) (.sl 3 (.int .i64)))))) y3])])) = xs_FroOk_0 y1 y2 y3 r := fun r => by first | rfl | rcases r with r | r <;> rfl | rcases r with r | r | r <;> rfl | rcases r with r | r | r | r <;> rfl
  have h3 := (hx (valO (g_Ls_FroOk_0 y1 y2 y3 y0))).symm.trans h2
  have e3 := congrArg Prod.fst h3
  have e4 := congrArg Prod.snd h3
  simp only at e3 e4
  rw [← e3,← e4]
  exact key
 ·exact .inl ⟨xt,h1,h2⟩)
def hs_FroOk_2 (y0:Int) (y1:tL0) (y2:Int) (y3:tL1):List (Pl×LV) := [(.T 1,.t (.val false [.ptr 1 0 0])),(.T 4,.t (.val false [.int .i64 y0])),(.B 1,.b 0 false [.sl .any 92 (.pair (.int .i64) (.pair (.int .i64) (.pair (.sl 9 .str) (.sl 155 (.pair .str (.pair .bool (.sl 3 (.int .i64)))))))) y1,.int .i64 y2,.sl .any 73 (.pair (.int .i64) (.pair (.pair (.int .i64) (.pair (.int .i64) (.pair (.int .i64) (.pair (.int .i64) (.pair (.int .i64) (.pair (.int .i64) (.int .i64))))))) (.pair .bool (.pair (.sl 3 (.int .i64)) (.sl 3 (.int .i64)))))) y3])]
def g_Ss_FroOk_2 (y1:tL0) (y2:Int) (y3:tL1):(Int) → RT (Int) ((Bool) ⊕ (Unit))
 | y0 => .br (true) (.br (decide (y0 < (y3.length:Int))) (.br (decide (0 ≤ y0 ∧ y0 < (y3.length:Int))) (.br (g_As_l1In (at_ yT0 y3 (Int.toNat y0)).1 (0:Int) (29:Int)) (.br (!g_Vs_l1In_0 (at_ yT0 y3 (Int.toNat y0)).1 (0:Int) (29:Int)) (.out (.inl false)) (.br (true) (.br (decide (y0 > 0)) (.br (true) (.br (decide (0 ≤ IntKind.i64.wrap (y0 - 1) ∧ IntKind.i64.wrap (y0 - 1) < (y3.length:Int))) (.br (true) (.br (decide ((at_ yT0 y3 (Int.toNat (IntKind.i64.wrap (y0 - 1)))).1 ≥ (at_ yT0 y3 (Int.toNat y0)).1)) (.out (.inl false)) (.br (g_As_l6Places (at_ yT0 y3 (Int.toNat y0)).2.2.2.1) (.br (!g_Vs_l6Places_0 (at_ yT0 y3 (Int.toNat y0)).2.2.2.1) (.out (.inl false)) (.br (g_As_l6Places (at_ yT0 y3 (Int.toNat y0)).2.2.2.2) (.br (!g_Vs_l6Places_0 (at_ yT0 y3 (Int.toNat y0)).2.2.2.2) (.out (.inl false)) (.br (g_As_l2Of y1 (at_ yT0 y3 (Int.toNat y0)).1) (.br (true) (.br (!(at_ yT0 y3 (Int.toNat y0)).2.2.1 == (g_Vs_l2Of_0 y1 (at_ yT0 y3 (Int.toNat y0)).1 == 2)) (.out (.inl false)) (.br (!(at_ yT0 y3 (Int.toNat y0)).2.2.1) (.br (g_As_OpOk (at_ yT0 y3 (Int.toNat y0)).2.1.1 (at_ yT0 y3 (Int.toNat y0)).2.1.2.1 (at_ yT0 y3 (Int.toNat y0)).2.1.2.2.1 (at_ yT0 y3 (Int.toNat y0)).2.1.2.2.2.1 (at_ yT0 y3 (Int.toNat y0)).2.1.2.2.2.2.1 (at_ yT0 y3 (Int.toNat y0)).2.1.2.2.2.2.2.1 (at_ yT0 y3 (Int.toNat y0)).2.1.2.2.2.2.2.2) (.br (!g_Vs_OpOk_0 (at_ yT0 y3 (Int.toNat y0)).2.1.1 (at_ yT0 y3 (Int.toNat y0)).2.1.2.1 (at_ yT0 y3 (Int.toNat y0)).2.1.2.2.1 (at_ yT0 y3 (Int.toNat y0)).2.1.2.2.2.1 (at_ yT0 y3 (Int.toNat y0)).2.1.2.2.2.2.1 (at_ yT0 y3 (Int.toNat y0)).2.1.2.2.2.2.2.1 (at_ yT0 y3 (Int.toNat y0)).2.1.2.2.2.2.2.2) (.out (.inl false)) (.br (true) (.br (decide ((↑(List.length (at_ yT0 y3 (Int.toNat y0)).2.2.2.2):Int) > 0)) (.out (.inl false)) (.br (true) (.go (IntKind.i64.wrap (y0 + 1))) .bad)) .bad)) .bad) (.br (true) (.go (IntKind.i64.wrap (y0 + 1))) .bad))) .bad) .bad)) .bad)) .bad)) .bad) .bad) .bad) (.br (g_As_l6Places (at_ yT0 y3 (Int.toNat y0)).2.2.2.1) (.br (!g_Vs_l6Places_0 (at_ yT0 y3 (Int.toNat y0)).2.2.2.1) (.out (.inl false)) (.br (g_As_l6Places (at_ yT0 y3 (Int.toNat y0)).2.2.2.2) (.br (!g_Vs_l6Places_0 (at_ yT0 y3 (Int.toNat y0)).2.2.2.2) (.out (.inl false)) (.br (g_As_l2Of y1 (at_ yT0 y3 (Int.toNat y0)).1) (.br (true) (.br (!(at_ yT0 y3 (Int.toNat y0)).2.2.1 == (g_Vs_l2Of_0 y1 (at_ yT0 y3 (Int.toNat y0)).1 == 2)) (.out (.inl false)) (.br (!(at_ yT0 y3 (Int.toNat y0)).2.2.1) (.br (g_As_OpOk (at_ yT0 y3 (Int.toNat y0)).2.1.1 (at_ yT0 y3 (Int.toNat y0)).2.1.2.1 (at_ yT0 y3 (Int.toNat y0)).2.1.2.2.1 (at_ yT0 y3 (Int.toNat y0)).2.1.2.2.2.1 (at_ yT0 y3 (Int.toNat y0)).2.1.2.2.2.2.1 (at_ yT0 y3 (Int.toNat y0)).2.1.2.2.2.2.2.1 (at_ yT0 y3 (Int.toNat y0)).2.1.2.2.2.2.2.2) (.br (!g_Vs_OpOk_0 (at_ yT0 y3 (Int.toNat y0)).2.1.1 (at_ yT0 y3 (Int.toNat y0)).2.1.2.1 (at_ yT0 y3 (Int.toNat y0)).2.1.2.2.1 (at_ yT0 y3 (Int.toNat y0)).2.1.2.2.2.1 (at_ yT0 y3 (Int.toNat y0)).2.1.2.2.2.2.1 (at_ yT0 y3 (Int.toNat y0)).2.1.2.2.2.2.2.1 (at_ yT0 y3 (Int.toNat y0)).2.1.2.2.2.2.2.2) (.out (.inl false)) (.br (true) (.br (decide ((↑(List.length (at_ yT0 y3 (Int.toNat y0)).2.2.2.2):Int) > 0)) (.out (.inl false)) (.br (true) (.go (IntKind.i64.wrap (y0 + 1))) .bad)) .bad)) .bad) (.br (true) (.go (IntKind.i64.wrap (y0 + 1))) .bad))) .bad) .bad)) .bad)) .bad)) .bad)) .bad) .bad) (.out (.inr (())))) .bad
def g_Ls_FroOk_2 (y1:tL0) (y2:Int) (y3:tL1) (x:Int):Option ((Bool) ⊕ (Unit)) := loopO (g_Ss_FroOk_2 y1 y2 y3) x
def xs_FroOk_2 (y1:tL0) (y2:Int) (y3:tL1):((Bool) ⊕ (Unit)) → Ex×List (Pl×LV) := fun
 | .inl r => (.ret,[(.T 2,.t (.val false [.bool r]))])
 | .inr (r) => (.exit 2,[(.T 2,.t (.val false [.undef]))])
def Os_FroOk_2:Orc := fun b h => match b,h with
 | 2,[(.T 1,.t (.val false [.ptr 1 0 0])),(.T 4,.t (.val false [.int .i64 y0])),(.B 1,.b 0 false [.sl .any 92 (.pair (.int .i64) (.pair (.int .i64) (.pair (.sl 9 .str) (.sl 155 (.pair .str (.pair .bool (.sl 3 (.int .i64)))))))) y1,.int .i64 y2,.sl .any 73 (.pair (.int .i64) (.pair (.pair (.int .i64) (.pair (.int .i64) (.pair (.int .i64) (.pair (.int .i64) (.pair (.int .i64) (.pair (.int .i64) (.int .i64))))))) (.pair .bool (.pair (.sl 3 (.int .i64)) (.sl 3 (.int .i64)))))) y3])] => some (okO (g_Ls_FroOk_2 y1 y2 y3 y0),(.br (isL (valO (g_Ls_FroOk_2 y1 y2 y3 y0))) (.leaf .ret [(.T 2,.t (.val false [.bool (getL (valO (g_Ls_FroOk_2 y1 y2 y3 y0)))]))]) (.leaf (.exit 2) [(.T 2,.t (.val false [.undef]))])))
 | b,h => Os_FroOk_1 b h
theorem bs_FroOk_2 (y0:Int) (y1:tL0) (y2:Int) (y3:tL1):Tr.bt Es_FroOk Os_FroOk_1 (exec Es_FroOk 2 cs_FroOk_2 (St.of (hs_FroOk_2 y0 y1 y2 y3)) (leafRd Es_FroOk 2)) = (g_Ss_FroOk_2 y1 y2 y3 y0).bt (fun (y0:Int) => (hs_FroOk_2 y0 y1 y2 y3)) (xs_FroOk_2 y1 y2 y3) := by kernel_rfl
theorem ks_FroOk_2:OrcOk Es_FroOk Os_FroOk_2 lss_FroOk 2 := orc_add ks_FroOk_1 (fun n p hp h ex h' ho => by
 obtain ⟨b,c⟩ := p
 obtain ⟨xt,h1,h2⟩ := ho
 have h1:Os_FroOk_2 b h = some (true,xt) := h1
 unfold Os_FroOk_2 at h1
 split at h1
 ·injection h1 with h1
  injection h1 with e1 e2
  subst e2
  have hc:c = cs_FroOk_2 := ms_FroOk_2 _ hp rfl
  subst hc
  right
  rename_i y0 y1 y2 y3
  have key := LT_step ks_FroOk_1 hp (fun q hq => loopsAll_in _ _ _ _ hp hq) (fun (y0:Int) => (hs_FroOk_2 y0 y1 y2 y3)) (xs_FroOk_2 y1 y2 y3) (g_Ss_FroOk_2 y1 y2 y3) (fun x => by first | exact bs_FroOk_2 x y1 y2 y3) n (x := y0) (okO_some e1)
  have hx:∀ r,XT.sel (.br (isL r) (.leaf .ret [(.T 2,.t (.val false [.bool (getL r)]))]) (.leaf (.exit 2) [(.T 2,.t (.val false [.undef]))])) = xs_FroOk_2 y1 y2 y3 r := fun r => by first | rfl | rcases r with r | r <;> rfl | rcases r with r | r | r <;> rfl | rcases r with r | r | r | r <;> rfl
  have h3 := (hx (valO (g_Ls_FroOk_2 y1 y2 y3 y0))).symm.trans h2
  have e3 := congrArg Prod.fst h3
  have e4 := congrArg Prod.snd h3
  simp only at e3 e4
  rw [← e3,← e4]
  exact key
 ·exact .inl ⟨xt,h1,h2⟩)
def g_As_FroOk (a0:tL0) (a1:Int) (a2:tL1):Bool := g_As_DiskOk a0 a1&&(!g_Vs_DiskOk_0 a0 a1 || (decide ((a2.length:Int) > 30) || okO (g_Ls_FroOk_0 a0 a1 a2 (0:Int))&&(isL (valO (g_Ls_FroOk_0 a0 a1 a2 (0:Int))) || okO (g_Ls_FroOk_2 a0 a1 a2 (0:Int)))))
def g_Vs_FroOk_0 (a0:tL0) (a1:Int) (a2:tL1):Bool := bif !g_Vs_DiskOk_0 a0 a1 then false else bif decide ((a2.length:Int) > 30) then false else bif isL (valO (g_Ls_FroOk_0 a0 a1 a2 (0:Int))) then getL (valO (g_Ls_FroOk_0 a0 a1 a2 (0:Int))) else bif isL (valO (g_Ls_FroOk_2 a0 a1 a2 (0:Int))) then getL (valO (g_Ls_FroOk_2 a0 a1 a2 (0:Int))) else true
def Fs_FroOk:FSem := fun ys => match ys with
 | [.val true [.sl .any 92 (.pair (.int .i64) (.pair (.int .i64) (.pair (.sl 9 .str) (.sl 155 (.pair .str (.pair .bool (.sl 3 (.int .i64)))))))) a0,.int .i64 a1,.sl .any 73 (.pair (.int .i64) (.pair (.pair (.int .i64) (.pair (.int .i64) (.pair (.int .i64) (.pair (.int .i64) (.pair (.int .i64) (.pair (.int .i64) (.int .i64))))))) (.pair .bool (.pair (.sl 3 (.int .i64)) (.sl 3 (.int .i64)))))) a2]] => some ((g_As_FroOk a0 a1 a2),.val false [.bool (g_Vs_FroOk_0 a0 a1 a2)],[])
 | _ => none
theorem vs_FroOk (a0:tL0) (a1:Int) (a2:tL1):collapseH .std Es_FroOk Os_FroOk_2 (execFn Es_FroOk Tryz.f29 mss_FroOk [.val true [.sl .any 92 (.pair (.int .i64) (.pair (.int .i64) (.pair (.sl 9 .str) (.sl 155 (.pair .str (.pair .bool (.sl 3 (.int .i64)))))))) a0,.int .i64 a1,.sl .any 73 (.pair (.int .i64) (.pair (.pair (.int .i64) (.pair (.int .i64) (.pair (.int .i64) (.pair (.int .i64) (.pair (.int .i64) (.pair (.int .i64) (.int .i64))))))) (.pair .bool (.pair (.sl 3 (.int .i64)) (.sl 3 (.int .i64)))))) a2]]) = some ((g_As_FroOk a0 a1 a2),.val false [.bool (g_Vs_FroOk_0 a0 a1 a2)],[]) := by kernel_rfl
theorem ss_FroOk:Sound Tryz.prog 29 mss_FroOk Fs_FroOk := by
 refine fn_gen goods_FroOk (by kernel_rfl) .std (fn := Tryz.f29) (c := (Tryz.f29.body.getD .skip)) (o := Os_FroOk_2) (k := 2) (by kernel_rfl) (by kernel_rfl) (by kernel_rfl) (by kernel_rfl) (by decide) ks_FroOk_2 ?_
 intro ys r outs h
 unfold Fs_FroOk at h
 split at h
 ·exact (vs_FroOk _ _ _).trans h
 ·cases h
def Es_l6Copy:Env where
 tt := mkTI Tryz.prog
 fn := fun f => match f with
  | 107 => some (mss_l2Copy,FSem.wk mss_l2Copy Fs_l2Copy)
  | _ => none
 bxf := fun _ => none
 mv := []
 keep := fun b => match b with
  | 0 => [(1,false),(2,false),(3,false),(4,false)]
  | _ => []
 keepB := fun b => match b with
  | 0 => [(1,false),(2,false),(3,false)]
  | _ => []
 keepX := fun b => match b with
  | 0 => [(2,false),(3,false)]
  | _ => []
 keepXB := fun b => match b with
  | 0 => [(2,false),(3,false)]
  | _ => []
theorem goodFs_l6Copy:∀ f ms F,Es_l6Copy.fn f = some (ms,F) → Sound Tryz.prog f ms F := fun f ms F h => by
 unfold Es_l6Copy at h
 dsimp only at h
 split at h
 ·exact gF ss_l2Copy h
 ·cases h
theorem goods_l6Copy:Good Tryz.prog Es_l6Copy := ⟨rfl,goodFs_l6Copy,fun f ms F h => by cases h⟩
def Os_l6Copy_0:Orc := fun _ _ => none
def mss_l6Copy:List PM := [.rd]
def lss_l6Copy:List (Nat×Code) := loopsAll 0 (Tryz.f48.body.getD .skip)
def cs_l6Copy_0:Code := (loopOf 0 (Tryz.f48.body.getD .skip)).getD .skip
theorem lseqs_l6Copy:lss_l6Copy = [(0,cs_l6Copy_0)] := by kernel_rfl
theorem ms_l6Copy_0:∀ p,p ∈ lss_l6Copy → p.1 = 0 → p.2 = cs_l6Copy_0 := by
 intro p hp
 rw [lseqs_l6Copy] at hp
 simp only [List.mem_cons,List.not_mem_nil,or_false] at hp
 subst hp; simp
theorem ks_l6Copy_0:OrcOk Es_l6Copy Os_l6Copy_0 lss_l6Copy 0 := orcOk_none
def hs_l6Copy_0 (y0:Int) (y1:tL0) (y2:Int) (y3:tL1) (y4:Int) (y5:tL0) (y6:tL1) (y7:Int) (y8:tL0) (y9:tL1):List (Pl×LV) := [(.T 1,.t (.val false [.ptr 1 0 0])),(.T 2,.t (.val false [.ptr 2 0 0])),(.T 3,.t (.val false [.ptr 3 0 0])),(.T 4,.t (.val false [.int .i64 y0])),(.B 1,.b 0 false [.sl .any 92 (.pair (.int .i64) (.pair (.int .i64) (.pair (.sl 9 .str) (.sl 155 (.pair .str (.pair .bool (.sl 3 (.int .i64)))))))) y1,.int .i64 y2,.sl .any 73 (.pair (.int .i64) (.pair (.pair (.int .i64) (.pair (.int .i64) (.pair (.int .i64) (.pair (.int .i64) (.pair (.int .i64) (.pair (.int .i64) (.int .i64))))))) (.pair .bool (.pair (.sl 3 (.int .i64)) (.sl 3 (.int .i64)))))) y3]),(.B 2,.b 0 false [.row 2 1 0,.int .i64 y4,.row 2 5 0]),(.R 2 1,.r 0 (some ⟨false,.any,true,92,(.pair (.int .i64) (.pair (.int .i64) (.pair (.sl 9 .str) (.sl 155 (.pair .str (.pair .bool (.sl 3 (.int .i64)))))))),y5⟩)),(.R 2 5,.r 0 (some ⟨false,.any,true,73,(.pair (.int .i64) (.pair (.pair (.int .i64) (.pair (.int .i64) (.pair (.int .i64) (.pair (.int .i64) (.pair (.int .i64) (.pair (.int .i64) (.int .i64))))))) (.pair .bool (.pair (.sl 3 (.int .i64)) (.sl 3 (.int .i64)))))),y6⟩)),(.B 3,.b 0 false [.row 3 1 0,.int .i64 y7,.row 3 5 0]),(.R 3 1,.r 0 (some ⟨false,.any,true,92,(.pair (.int .i64) (.pair (.int .i64) (.pair (.sl 9 .str) (.sl 155 (.pair .str (.pair .bool (.sl 3 (.int .i64)))))))),y8⟩)),(.R 3 5,.r 0 (some ⟨false,.any,true,73,(.pair (.int .i64) (.pair (.pair (.int .i64) (.pair (.int .i64) (.pair (.int .i64) (.pair (.int .i64) (.pair (.int .i64) (.pair (.int .i64) (.int .i64))))))) (.pair .bool (.pair (.sl 3 (.int .i64)) (.sl 3 (.int .i64)))))),y9⟩))]
def g_Ss_l6Copy_0 (y1:tL0) (y2:Int) (y3:tL1) (y4:Int) (y5:tL0) (y6:tL1) (y7:Int) (y8:tL0):(Int×tL1) → RT (Int×tL1) ((tL1))
 | (y0,y9) => .br (true) (.br (decide (y0 < (y3.length:Int))) (.br (decide (0 ≤ y0 ∧ y0 < (y3.length:Int))) (.br (decide ((nat_lit 0 + List.length (at_ yT0 y3 (Int.toNat y0)).2.2.2.1) * nat_lit 8 ≤ nat_lit 140737488355328 ∧ nat_lit 0 + List.length (at_ yT0 y3 (Int.toNat y0)).2.2.2.1 ≤ nat_lit 9223372036854775807)) (.br (decide ((nat_lit 0 + List.length (at_ yT0 y3 (Int.toNat y0)).2.2.2.2) * nat_lit 8 ≤ nat_lit 140737488355328 ∧ nat_lit 0 + List.length (at_ yT0 y3 (Int.toNat y0)).2.2.2.2 ≤ nat_lit 9223372036854775807)) (.br (decide ((List.length y9 + List.length [((at_ yT0 y3 (Int.toNat y0)).1,((at_ yT0 y3 (Int.toNat y0)).2.1.1,(at_ yT0 y3 (Int.toNat y0)).2.1.2.1,(at_ yT0 y3 (Int.toNat y0)).2.1.2.2.1,(at_ yT0 y3 (Int.toNat y0)).2.1.2.2.2.1,(at_ yT0 y3 (Int.toNat y0)).2.1.2.2.2.2.1,(at_ yT0 y3 (Int.toNat y0)).2.1.2.2.2.2.2.1,(at_ yT0 y3 (Int.toNat y0)).2.1.2.2.2.2.2.2),(at_ yT0 y3 (Int.toNat y0)).2.2.1,[] ++ (at_ yT0 y3 (Int.toNat y0)).2.2.2.1,[] ++ (at_ yT0 y3 (Int.toNat y0)).2.2.2.2)]) * nat_lit 120 ≤ nat_lit 140737488355328 ∧ List.length y9 + List.length [((at_ yT0 y3 (Int.toNat y0)).1,((at_ yT0 y3 (Int.toNat y0)).2.1.1,(at_ yT0 y3 (Int.toNat y0)).2.1.2.1,(at_ yT0 y3 (Int.toNat y0)).2.1.2.2.1,(at_ yT0 y3 (Int.toNat y0)).2.1.2.2.2.1,(at_ yT0 y3 (Int.toNat y0)).2.1.2.2.2.2.1,(at_ yT0 y3 (Int.toNat y0)).2.1.2.2.2.2.2.1,(at_ yT0 y3 (Int.toNat y0)).2.1.2.2.2.2.2.2),(at_ yT0 y3 (Int.toNat y0)).2.2.1,[] ++ (at_ yT0 y3 (Int.toNat y0)).2.2.2.1,[] ++ (at_ yT0 y3 (Int.toNat y0)).2.2.2.2)] ≤ nat_lit 9223372036854775807)) (.br (true) (.go ((IntKind.i64.wrap (y0 + 1),y9 ++ [((at_ yT0 y3 (Int.toNat y0)).1,((at_ yT0 y3 (Int.toNat y0)).2.1.1,(at_ yT0 y3 (Int.toNat y0)).2.1.2.1,(at_ yT0 y3 (Int.toNat y0)).2.1.2.2.1,(at_ yT0 y3 (Int.toNat y0)).2.1.2.2.2.1,(at_ yT0 y3 (Int.toNat y0)).2.1.2.2.2.2.1,(at_ yT0 y3 (Int.toNat y0)).2.1.2.2.2.2.2.1,(at_ yT0 y3 (Int.toNat y0)).2.1.2.2.2.2.2.2),(at_ yT0 y3 (Int.toNat y0)).2.2.1,[] ++ (at_ yT0 y3 (Int.toNat y0)).2.2.2.1,[] ++ (at_ yT0 y3 (Int.toNat y0)).2.2.2.2)]))) .bad) .bad) .bad) .bad) .bad) (.out (y9))) .bad
def g_Ls_l6Copy_0 (y1:tL0) (y2:Int) (y3:tL1) (y4:Int) (y5:tL0) (y6:tL1) (y7:Int) (y8:tL0) (x:Int×tL1):Option ((tL1)) := loopO (g_Ss_l6Copy_0 y1 y2 y3 y4 y5 y6 y7 y8) x
def xs_l6Copy_0 (y1:tL0) (y2:Int) (y3:tL1) (y4:Int) (y5:tL0) (y6:tL1) (y7:Int) (y8:tL0):((tL1)) → Ex×List (Pl×LV) := fun r => (.exit 0,[(.T 2,.t (.val false [.ptr 2 0 0])),(.T 3,.t (.val false [.ptr 3 0 0])),(.B 2,.b 0 false [.row 2 1 0,.int .i64 y4,.row 2 5 0]),(.R 2 1,.r 0 (some ⟨false,.any,true,92,(.pair (.int .i64) (.pair (.int .i64) (.pair (.sl 9 .str) (.sl 155 (.pair .str (.pair .bool (.sl 3 (.int .i64)))))))),y5⟩)),(.R 2 5,.r 0 (some ⟨false,.any,true,73,(.pair (.int .i64) (.pair (.pair (.int .i64) (.pair (.int .i64) (.pair (.int .i64) (.pair (.int .i64) (.pair (.int .i64) (.pair (.int .i64) (.int .i64))))))) (.pair .bool (.pair (.sl 3 (.int .i64)) (.sl 3 (.int .i64)))))),y6⟩)),(.B 3,.b 0 false [.row 3 1 0,.int .i64 y7,.row 3 5 0]),(.R 3 1,.r 0 (some ⟨false,.any,true,92,(.pair (.int .i64) (.pair (.int .i64) (.pair (.sl 9 .str) (.sl 155 (.pair .str (.pair .bool (.sl 3 (.int .i64)))))))),y8⟩)),(.R 3 5,.r 0 (some ⟨false,.any,true,73,(.pair (.int .i64) (.pair (.pair (.int .i64) (.pair (.int .i64) (.pair (.int .i64) (.pair (.int .i64) (.pair (.int .i64) (.pair (.int .i64) (.int .i64))))))) (.pair .bool (.pair (.sl 3 (.int .i64)) (.sl 3 (.int .i64)))))),r⟩))])
def Os_l6Copy_1:Orc := fun b h => match b,h with
 | 0,[(.T 1,.t (.val false [.ptr 1 0 0])),(.T 2,.t (.val false [.ptr 2 0 0])),(.T 3,.t (.val false [.ptr 3 0 0])),(.T 4,.t (.val false [.int .i64 y0])),(.B 1,.b 0 false [.sl .any 92 (.pair (.int .i64) (.pair (.int .i64) (.pair (.sl 9 .str) (.sl 155 (.pair .str (.pair .bool (.sl 3 (.int .i64)))))))) y1,.int .i64 y2,.sl .any 73 (.pair (.int .i64) (.pair (.pair (.int .i64) (.pair (.int .i64) (.pair (.int .i64) (.pair (.int .i64) (.pair (.int .i64) (.pair (.int .i64) (.int .i64))))))) (.pair .bool (.pair (.sl 3 (.int .i64)) (.sl 3 (.int .i64)))))) y3]),(.B 2,.b 0 false [.row 2 1 0,.int .i64 y4,.row 2 5 0]),(.R 2 1,.r 0 (some ⟨false,.any,true,92,(.pair (.int .i64) (.pair (.int .i64) (.pair (.sl 9 .str) (.sl 155 (.pair .str (.pair .bool (.sl 3 (.int .i64)))))))),y5⟩)),(.R 2 5,.r 0 (some ⟨false,.any,true,73,(.pair (.int .i64) (.pair (.pair (.int .i64) (.pair (.int .i64) (.pair (.int .i64) (.pair (.int .i64) (.pair (.int .i64) (.pair (.int .i64) (.int .i64))))))) (.pair .bool (.pair (.sl 3 (.int .i64)) (.sl 3 (.int .i64)))))),y6⟩)),(.B 3,.b 0 false [.row 3 1 0,.int .i64 y7,.row 3 5 0]),(.R 3 1,.r 0 (some ⟨false,.any,true,92,(.pair (.int .i64) (.pair (.int .i64) (.pair (.sl 9 .str) (.sl 155 (.pair .str (.pair .bool (.sl 3 (.int .i64)))))))),y8⟩)),(.R 3 5,.r 0 (some ⟨false,.any,true,73,(.pair (.int .i64) (.pair (.pair (.int .i64) (.pair (.int .i64) (.pair (.int .i64) (.pair (.int .i64) (.pair (.int .i64) (.pair (.int .i64) (.int .i64))))))) (.pair .bool (.pair (.sl 3 (.int .i64)) (.sl 3 (.int .i64)))))),y9⟩))] => some (okO (g_Ls_l6Copy_0 y1 y2 y3 y4 y5 y6 y7 y8 (y0,y9)),(.leaf (.exit 0) [(.T 2,.t (.val false [.ptr 2 0 0])),(.T 3,.t (.val false [.ptr 3 0 0])),(.B 2,.b 0 false [.row 2 1 0,.int .i64 y4,.row 2 5 0]),(.R 2 1,.r 0 (some ⟨false,.any,true,92,(.pair (.int .i64) (.pair (.int .i64) (.pair (.sl 9 .str) (.sl 155 (.pair .str (.pair .bool (.sl 3 (.int .i64)))))))),y5⟩)),(.R 2 5,.r 0 (some ⟨false,.any,true,73,(.pair (.int .i64) (.pair (.pair (.int .i64) (.pair (.int .i64) (.pair (.int .i64) (.pair (.int .i64) (.pair (.int .i64) (.pair (.int .i64) (.int .i64))))))) (.pair .bool (.pair (.sl 3 (.int .i64)) (.sl 3 (.int .i64)))))),y6⟩)),(.B 3,.b 0 false [.row 3 1 0,.int .i64 y7,.row 3 5 0]),(.R 3 1,.r 0 (some ⟨false,.any,true,92,(.pair (.int .i64) (.pair (.int .i64) (.pair (.sl 9 .str) (.sl 155 (.pair .str (.pair .bool (.sl 3 (.int .i64)))))))),y8⟩)),(.R 3 5,.r 0 (some ⟨false,.any,true,73,(.pair (.int .i64) (.pair (.pair (.int .i64) (.pair (.int .i64) (.pair (.int .i64) (.pair (.int .i64) (.pair (.int .i64) (.pair (.int .i64) (.int .i64))))))) (.pair .bool (.pair (.sl 3 (.int .i64)) (.sl 3 (.int .i64)))))),(valO (g_Ls_l6Copy_0 y1 y2 y3 y4 y5 y6 y7 y8 (y0,y9)))⟩))]))
 | b,h => Os_l6Copy_0 b h
theorem bs_l6Copy_0 (y0:Int) (y1:tL0) (y2:Int) (y3:tL1) (y4:Int) (y5:tL0) (y6:tL1) (y7:Int) (y8:tL0) (y9:tL1):Tr.bt Es_l6Copy Os_l6Copy_0 (exec Es_l6Copy 0 cs_l6Copy_0 (St.of (hs_l6Copy_0 y0 y1 y2 y3 y4 y5 y6 y7 y8 y9)) (leafRd Es_l6Copy 0)) = (g_Ss_l6Copy_0 y1 y2 y3 y4 y5 y6 y7 y8 (y0,y9)).bt (fun ((y0,y9):Int×tL1) => (hs_l6Copy_0 y0 y1 y2 y3 y4 y5 y6 y7 y8 y9)) (xs_l6Copy_0 y1 y2 y3 y4 y5 y6 y7 y8) := by kernel_rfl
theorem ks_l6Copy_1:OrcOk Es_l6Copy Os_l6Copy_1 lss_l6Copy 1 := orc_add ks_l6Copy_0 (fun n p hp h ex h' ho => by
 obtain ⟨b,c⟩ := p
 obtain ⟨xt,h1,h2⟩ := ho
 have h1:Os_l6Copy_1 b h = some (true,xt) := h1
 unfold Os_l6Copy_1 at h1
 split at h1
 ·injection h1 with h1
  injection h1 with e1 e2
  subst e2
  have hc:c = cs_l6Copy_0 := ms_l6Copy_0 _ hp rfl
  subst hc
  right
  rename_i y0 y1 y2 y3 y4 y5 y6 y7 y8 y9
  have key := LT_step ks_l6Copy_0 hp (fun q hq => loopsAll_in _ _ _ _ hp hq) (fun ((y0,y9):Int×tL1) => (hs_l6Copy_0 y0 y1 y2 y3 y4 y5 y6 y7 y8 y9)) (xs_l6Copy_0 y1 y2 y3 y4 y5 y6 y7 y8) (g_Ss_l6Copy_0 y1 y2 y3 y4 y5 y6 y7 y8) (fun x => by first | exact bs_l6Copy_0 x.1 y1 y2 y3 y4 y5 y6 y7 y8 x.2) n (x := (y0,y9)) (okO_some e1)
  have hx:∀ r,XT.sel (.leaf (.exit 0) [(.T 2,.t (.val false [.ptr 2 0 0])),(.T 3,.t (.val false [.ptr 3 0 0])),(.B 2,.b 0 false [.row 2 1 0,.int .i64 y4,.row 2 5 0]),(.R 2 1,.r 0 (some ⟨false,.any,true,92,(.pair (.int .i64) (.pair (.int .i64) (.pair (.sl 9 .str) (.sl 155 (.pair .str (.pair .bool (.sl 3 (.int .i64)))))))),y5⟩)),(.R 2 5,.r 0 (some ⟨false,.any,true,73,(.pair (.int .i64) (.pair (.pair (.int .i64) (.pair (.int .i64) (.pair (.int .i64) (.pair (.int .i64) (.pair (.int .i64) (.pair (.int .i64) (.int .i64))))))) (.pair .bool (.pair (.sl 3 (.int .i64)) (.sl 3 (.int .i64)))))),y6⟩)),(.B 3,.b 0 false [.row 3 1 0,.int .i64 y7,.row 3 5 0]),(.R 3 1,.r 0 (some ⟨false,.any,true,92,(.pair (.int .i64) (.pair (.int .i64) (.pair (.sl 9 .str) (.sl 155 (.pair .str (.pair .bool (.sl 3 (.int .i64)))))))),y8⟩)),(.R 3 5,.r 0 (some ⟨false,.any,true,73,(.pair (.int .i64) (.pair (.pair (.int .i64) (.pair (.int .i64) (.pair (.int .i64) (.pair (.int .i64) (.pair (.int .i64) (.pair (.int .i64) (.int .i64))))))) (.pair .bool (.pair (.sl 3 (.int .i64)) (.sl 3 (.int .i64)))))),r⟩))]) = xs_l6Copy_0 y1 y2 y3 y4 y5 y6 y7 y8 r := fun r => by first | rfl | rcases r with r | r <;> rfl | rcases r with r | r | r <;> rfl | rcases r with r | r | r | r <;> rfl
  have h3 := (hx (valO (g_Ls_l6Copy_0 y1 y2 y3 y4 y5 y6 y7 y8 (y0,y9)))).symm.trans h2
  have e3 := congrArg Prod.fst h3
  have e4 := congrArg Prod.snd h3
  simp only at e3 e4
  rw [← e3,← e4]
  exact key
 ·exact .inl ⟨xt,h1,h2⟩)
def g_As_l6Copy (a0:tL0) (a1:Int) (a2:tL1):Bool := g_As_l2Copy a0 a1&&okO (g_Ls_l6Copy_0 a0 a1 a2 (0:Int) [] [] a1 (g_Vs_l2Copy_0 a0 a1) ((0:Int),[]))
def g_Vs_l6Copy_0 (a0:tL0) (a1:Int) (a2:tL1):tL1 := valO (g_Ls_l6Copy_0 a0 a1 a2 (0:Int) [] [] a1 (g_Vs_l2Copy_0 a0 a1) ((0:Int),[]))
def Fs_l6Copy:FSem := fun ys => match ys with
 | [.val true [.sl .any 92 (.pair (.int .i64) (.pair (.int .i64) (.pair (.sl 9 .str) (.sl 155 (.pair .str (.pair .bool (.sl 3 (.int .i64)))))))) a0,.int .i64 a1,.sl .any 73 (.pair (.int .i64) (.pair (.pair (.int .i64) (.pair (.int .i64) (.pair (.int .i64) (.pair (.int .i64) (.pair (.int .i64) (.pair (.int .i64) (.int .i64))))))) (.pair .bool (.pair (.sl 3 (.int .i64)) (.sl 3 (.int .i64)))))) a2]] => some ((g_As_l6Copy a0 a1 a2),.val true [.own .any true 92 (.pair (.int .i64) (.pair (.int .i64) (.pair (.sl 9 .str) (.sl 155 (.pair .str (.pair .bool (.sl 3 (.int .i64)))))))) (g_Vs_l2Copy_0 a0 a1),.int .i64 a1,.own .any true 73 (.pair (.int .i64) (.pair (.pair (.int .i64) (.pair (.int .i64) (.pair (.int .i64) (.pair (.int .i64) (.pair (.int .i64) (.pair (.int .i64) (.int .i64))))))) (.pair .bool (.pair (.sl 3 (.int .i64)) (.sl 3 (.int .i64)))))) (g_Vs_l6Copy_0 a0 a1 a2)],[])
 | _ => none
theorem vs_l6Copy (a0:tL0) (a1:Int) (a2:tL1):collapseH .std Es_l6Copy Os_l6Copy_1 (execFn Es_l6Copy Tryz.f48 mss_l6Copy [.val true [.sl .any 92 (.pair (.int .i64) (.pair (.int .i64) (.pair (.sl 9 .str) (.sl 155 (.pair .str (.pair .bool (.sl 3 (.int .i64)))))))) a0,.int .i64 a1,.sl .any 73 (.pair (.int .i64) (.pair (.pair (.int .i64) (.pair (.int .i64) (.pair (.int .i64) (.pair (.int .i64) (.pair (.int .i64) (.pair (.int .i64) (.int .i64))))))) (.pair .bool (.pair (.sl 3 (.int .i64)) (.sl 3 (.int .i64)))))) a2]]) = some ((g_As_l6Copy a0 a1 a2),.val true [.own .any true 92 (.pair (.int .i64) (.pair (.int .i64) (.pair (.sl 9 .str) (.sl 155 (.pair .str (.pair .bool (.sl 3 (.int .i64)))))))) (g_Vs_l2Copy_0 a0 a1),.int .i64 a1,.own .any true 73 (.pair (.int .i64) (.pair (.pair (.int .i64) (.pair (.int .i64) (.pair (.int .i64) (.pair (.int .i64) (.pair (.int .i64) (.pair (.int .i64) (.int .i64))))))) (.pair .bool (.pair (.sl 3 (.int .i64)) (.sl 3 (.int .i64)))))) (g_Vs_l6Copy_0 a0 a1 a2)],[]) := by kernel_rfl
theorem ss_l6Copy:Sound Tryz.prog 48 mss_l6Copy Fs_l6Copy := by
 refine fn_gen goods_l6Copy (by kernel_rfl) .std (fn := Tryz.f48) (c := (Tryz.f48.body.getD .skip)) (o := Os_l6Copy_1) (k := 1) (by kernel_rfl) (by kernel_rfl) (by kernel_rfl) (by kernel_rfl) (by decide) ks_l6Copy_1 ?_
 intro ys r outs h
 unfold Fs_l6Copy at h
 split at h
 ·exact (vs_l6Copy _ _ _).trans h
 ·cases h
def Es_FroFall:Env where
 tt := mkTI Tryz.prog
 fn := fun f => match f with
  | 29 => some (mss_FroOk,FSem.wk mss_FroOk Fs_FroOk)
  | 46 => some (mss_DiskFall,FSem.wk mss_DiskFall Fs_DiskFall)
  | 47 => some (mss_l2Of,FSem.wk mss_l2Of Fs_l2Of)
  | 48 => some (mss_l6Copy,FSem.wk mss_l6Copy Fs_l6Copy)
  | _ => none
 bxf := fun _ => none
 mv := []
 keep := fun b => match b with
  | 0 => [(4,false),(5,false),(6,false)]
  | 2 => [(4,false),(5,false),(6,false),(7,false),(8,false)]
  | _ => []
 keepB := fun b => match b with
  | 0 => [(4,false),(5,false)]
  | 2 => [(4,false),(5,false)]
  | _ => []
 keepX := fun b => match b with
  | 0 => [(4,false),(5,false)]
  | 2 => [(4,false),(5,false),(6,false),(7,false)]
  | _ => []
 keepXB := fun b => match b with
  | 0 => [(4,false),(5,false)]
  | 2 => [(4,false),(5,false)]
  | _ => []
theorem goodFs_FroFall:∀ f ms F,Es_FroFall.fn f = some (ms,F) → Sound Tryz.prog f ms F := fun f ms F h => by
 unfold Es_FroFall at h
 dsimp only at h
 split at h
 ·exact gF ss_FroOk h
 ·exact gF ss_DiskFall h
 ·exact gF ss_l2Of h
 ·exact gF ss_l6Copy h
 ·cases h
theorem goods_FroFall:Good Tryz.prog Es_FroFall := ⟨rfl,goodFs_FroFall,fun f ms F h => by cases h⟩
def Os_FroFall_0:Orc := fun _ _ => none
def mss_FroFall:List PM := [.rd,.own]
def lss_FroFall:List (Nat×Code) := loopsAll 0 (Tryz.f16.body.getD .skip)
def cs_FroFall_0:Code := (loopOf 0 (Tryz.f16.body.getD .skip)).getD .skip
def cs_FroFall_2:Code := (loopOf 2 (Tryz.f16.body.getD .skip)).getD .skip
theorem lseqs_FroFall:lss_FroFall = [(0,cs_FroFall_0),(2,cs_FroFall_2)] := by kernel_rfl
theorem ms_FroFall_0:∀ p,p ∈ lss_FroFall → p.1 = 0 → p.2 = cs_FroFall_0 := by
 intro p hp
 rw [lseqs_FroFall] at hp
 simp only [List.mem_cons,List.not_mem_nil,or_false] at hp
 rcases hp with rfl | rfl <;> simp
theorem ms_FroFall_2:∀ p,p ∈ lss_FroFall → p.1 = 2 → p.2 = cs_FroFall_2 := by
 intro p hp
 rw [lseqs_FroFall] at hp
 simp only [List.mem_cons,List.not_mem_nil,or_false] at hp
 rcases hp with rfl | rfl <;> simp
theorem ks_FroFall_0:OrcOk Es_FroFall Os_FroFall_0 lss_FroFall 0 := orcOk_none
def hs_FroFall_0 (y0:Int) (y1:Int) (y2:tL0) (y3:tL1) (y4:Int) (y5:tL0) (y6:tL1):List (Pl×LV) := [(.T 4,.t (.val false [.ptr 4 0 0])),(.T 5,.t (.val false [.ptr 5 0 0])),(.T 6,.t (.val false [.int .i64 y0])),(.B 4,.b 0 false [.row 4 1 0,.int .i64 y1,.row 4 5 0]),(.R 4 1,.r 0 (some ⟨false,.any,true,92,(.pair (.int .i64) (.pair (.int .i64) (.pair (.sl 9 .str) (.sl 155 (.pair .str (.pair .bool (.sl 3 (.int .i64)))))))),y2⟩)),(.R 4 5,.r 0 (some ⟨false,.any,true,73,(.pair (.int .i64) (.pair (.pair (.int .i64) (.pair (.int .i64) (.pair (.int .i64) (.pair (.int .i64) (.pair (.int .i64) (.pair (.int .i64) (.int .i64))))))) (.pair .bool (.pair (.sl 3 (.int .i64)) (.sl 3 (.int .i64)))))),y3⟩)),(.B 5,.b 0 false [.row 5 1 0,.int .i64 y4,.row 5 5 0]),(.R 5 1,.r 0 (some ⟨false,.any,true,92,(.pair (.int .i64) (.pair (.int .i64) (.pair (.sl 9 .str) (.sl 155 (.pair .str (.pair .bool (.sl 3 (.int .i64)))))))),y5⟩)),(.R 5 5,.r 0 (some ⟨false,.any,true,73,(.pair (.int .i64) (.pair (.pair (.int .i64) (.pair (.int .i64) (.pair (.int .i64) (.pair (.int .i64) (.pair (.int .i64) (.pair (.int .i64) (.int .i64))))))) (.pair .bool (.pair (.sl 3 (.int .i64)) (.sl 3 (.int .i64)))))),y6⟩))]
def hs_FroFall_2 (y0:Int) (y1:Bool) (y2:Int) (y3:Int) (y4:tL0) (y5:tL1) (y6:Int) (y7:tL0) (y8:tL1):List (Pl×LV) := [(.T 4,.t (.val false [.ptr 4 0 0])),(.T 5,.t (.val false [.ptr 5 0 0])),(.T 6,.t (.val false [.int .i64 y0])),(.T 7,.t (.val false [.bool y1])),(.T 8,.t (.val false [.int .i64 y2])),(.B 4,.b 0 false [.row 4 1 0,.int .i64 y3,.row 4 5 0]),(.R 4 1,.r 0 (some ⟨false,.any,true,92,(.pair (.int .i64) (.pair (.int .i64) (.pair (.sl 9 .str) (.sl 155 (.pair .str (.pair .bool (.sl 3 (.int .i64)))))))),y4⟩)),(.R 4 5,.r 0 (some ⟨false,.any,true,73,(.pair (.int .i64) (.pair (.pair (.int .i64) (.pair (.int .i64) (.pair (.int .i64) (.pair (.int .i64) (.pair (.int .i64) (.pair (.int .i64) (.int .i64))))))) (.pair .bool (.pair (.sl 3 (.int .i64)) (.sl 3 (.int .i64)))))),y5⟩)),(.B 5,.b 0 false [.row 5 1 0,.int .i64 y6,.row 5 5 0]),(.R 5 1,.r 0 (some ⟨false,.any,true,92,(.pair (.int .i64) (.pair (.int .i64) (.pair (.sl 9 .str) (.sl 155 (.pair .str (.pair .bool (.sl 3 (.int .i64)))))))),y7⟩)),(.R 5 5,.r 0 (some ⟨false,.any,true,73,(.pair (.int .i64) (.pair (.pair (.int .i64) (.pair (.int .i64) (.pair (.int .i64) (.pair (.int .i64) (.pair (.int .i64) (.pair (.int .i64) (.int .i64))))))) (.pair .bool (.pair (.sl 3 (.int .i64)) (.sl 3 (.int .i64)))))),y8⟩))]
def g_Ss_FroFall_2 (y0:Int) (y3:Int) (y4:tL0) (y5:tL1) (y6:Int) (y7:tL0) (y8:tL1):(Bool×Int) → RT (Bool×Int) ((Bool))
 | (y1,y2) => .br (true) (.br (decide (y2 < (y7.length:Int))) (.br (y1) (.br (true) (.go ((true,IntKind.i64.wrap (y2 + 1)))) .bad) (.br (decide (0 ≤ y2 ∧ y2 < (y7.length:Int))) (.br (decide (Int.toNat y2 < List.length y7)) (.br (true) (.br ((at_ yT1 y7 (Int.toNat y2)).2.1 == y0) (.br (decide (0 ≤ y2 ∧ y2 < (y7.length:Int))) (.br (decide (Int.toNat y2 < List.length y7)) (.br (true) (.br (true) (.go (((at_ yT1 y7 (Int.toNat y2)).1 == 4,IntKind.i64.wrap (y2 + 1)))) .bad) .bad) .bad) .bad) (.br (true) (.go ((false,IntKind.i64.wrap (y2 + 1)))) .bad)) .bad) .bad) .bad)) (.out (y1))) .bad
def g_Ls_FroFall_2 (y0:Int) (y3:Int) (y4:tL0) (y5:tL1) (y6:Int) (y7:tL0) (y8:tL1) (x:Bool×Int):Option ((Bool)) := loopO (g_Ss_FroFall_2 y0 y3 y4 y5 y6 y7 y8) x
def xs_FroFall_2 (y0:Int) (y3:Int) (y4:tL0) (y5:tL1) (y6:Int) (y7:tL0) (y8:tL1):((Bool)) → Ex×List (Pl×LV) := fun r => (.exit 2,[(.T 4,.t (.val false [.ptr 4 0 0])),(.T 5,.t (.val false [.ptr 5 0 0])),(.T 6,.t (.val false [.int .i64 y0])),(.T 7,.t (.val false [.bool r])),(.B 4,.b 0 false [.row 4 1 0,.int .i64 y3,.row 4 5 0]),(.R 4 1,.r 0 (some ⟨false,.any,true,92,(.pair (.int .i64) (.pair (.int .i64) (.pair (.sl 9 .str) (.sl 155 (.pair .str (.pair .bool (.sl 3 (.int .i64)))))))),y4⟩)),(.R 4 5,.r 0 (some ⟨false,.any,true,73,(.pair (.int .i64) (.pair (.pair (.int .i64) (.pair (.int .i64) (.pair (.int .i64) (.pair (.int .i64) (.pair (.int .i64) (.pair (.int .i64) (.int .i64))))))) (.pair .bool (.pair (.sl 3 (.int .i64)) (.sl 3 (.int .i64)))))),y5⟩)),(.B 5,.b 0 false [.row 5 1 0,.int .i64 y6,.row 5 5 0]),(.R 5 1,.r 0 (some ⟨false,.any,true,92,(.pair (.int .i64) (.pair (.int .i64) (.pair (.sl 9 .str) (.sl 155 (.pair .str (.pair .bool (.sl 3 (.int .i64)))))))),y7⟩)),(.R 5 5,.r 0 (some ⟨false,.any,true,73,(.pair (.int .i64) (.pair (.pair (.int .i64) (.pair (.int .i64) (.pair (.int .i64) (.pair (.int .i64) (.pair (.int .i64) (.pair (.int .i64) (.int .i64))))))) (.pair .bool (.pair (.sl 3 (.int .i64)) (.sl 3 (.int .i64)))))),y8⟩))])
def Os_FroFall_1:Orc := fun b h => match b,h with
 | 2,[(.T 4,.t (.val false [.ptr 4 0 0])),(.T 5,.t (.val false [.ptr 5 0 0])),(.T 6,.t (.val false [.int .i64 y0])),(.T 7,.t (.val false [.bool y1])),(.T 8,.t (.val false [.int .i64 y2])),(.B 4,.b 0 false [.row 4 1 0,.int .i64 y3,.row 4 5 0]),(.R 4 1,.r 0 (some ⟨false,.any,true,92,(.pair (.int .i64) (.pair (.int .i64) (.pair (.sl 9 .str) (.sl 155 (.pair .str (.pair .bool (.sl 3 (.int .i64)))))))),y4⟩)),(.R 4 5,.r 0 (some ⟨false,.any,true,73,(.pair (.int .i64) (.pair (.pair (.int .i64) (.pair (.int .i64) (.pair (.int .i64) (.pair (.int .i64) (.pair (.int .i64) (.pair (.int .i64) (.int .i64))))))) (.pair .bool (.pair (.sl 3 (.int .i64)) (.sl 3 (.int .i64)))))),y5⟩)),(.B 5,.b 0 false [.row 5 1 0,.int .i64 y6,.row 5 5 0]),(.R 5 1,.r 0 (some ⟨false,.any,true,92,(.pair (.int .i64) (.pair (.int .i64) (.pair (.sl 9 .str) (.sl 155 (.pair .str (.pair .bool (.sl 3 (.int .i64)))))))),y7⟩)),(.R 5 5,.r 0 (some ⟨false,.any,true,73,(.pair (.int .i64) (.pair (.pair (.int .i64) (.pair (.int .i64) (.pair (.int .i64) (.pair (.int .i64) (.pair (.int .i64) (.pair (.int .i64) (.int .i64))))))) (.pair .bool (.pair (.sl 3 (.int .i64)) (.sl 3 (.int .i64)))))),y8⟩))] => some (okO (g_Ls_FroFall_2 y0 y3 y4 y5 y6 y7 y8 (y1,y2)),(.leaf (.exit 2) [(.T 4,.t (.val false [.ptr 4 0 0])),(.T 5,.t (.val false [.ptr 5 0 0])),(.T 6,.t (.val false [.int .i64 y0])),(.T 7,.t (.val false [.bool (valO (g_Ls_FroFall_2 y0 y3 y4 y5 y6 y7 y8 (y1,y2)))])),(.B 4,.b 0 false [.row 4 1 0,.int .i64 y3,.row 4 5 0]),(.R 4 1,.r 0 (some ⟨false,.any,true,92,(.pair (.int .i64) (.pair (.int .i64) (.pair (.sl 9 .str) (.sl 155 (.pair .str (.pair .bool (.sl 3 (.int .i64)))))))),y4⟩)),(.R 4 5,.r 0 (some ⟨false,.any,true,73,(.pair (.int .i64) (.pair (.pair (.int .i64) (.pair (.int .i64) (.pair (.int .i64) (.pair (.int .i64) (.pair (.int .i64) (.pair (.int .i64) (.int .i64))))))) (.pair .bool (.pair (.sl 3 (.int .i64)) (.sl 3 (.int .i64)))))),y5⟩)),(.B 5,.b 0 false [.row 5 1 0,.int .i64 y6,.row 5 5 0]),(.R 5 1,.r 0 (some ⟨false,.any,true,92,(.pair (.int .i64) (.pair (.int .i64) (.pair (.sl 9 .str) (.sl 155 (.pair .str (.pair .bool (.sl 3 (.int .i64)))))))),y7⟩)),(.R 5 5,.r 0 (some ⟨false,.any,true,73,(.pair (.int .i64) (.pair (.pair (.int .i64) (.pair (.int .i64) (.pair (.int .i64) (.pair (.int .i64) (.pair (.int .i64) (.pair (.int .i64) (.int .i64))))))) (.pair .bool (.pair (.sl 3 (.int .i64)) (.sl 3 (.int .i64)))))),y8⟩))]))
 | b,h => Os_FroFall_0 b h
theorem bs_FroFall_2 (y0:Int) (y1:Bool) (y2:Int) (y3:Int) (y4:tL0) (y5:tL1) (y6:Int) (y7:tL0) (y8:tL1):Tr.bt Es_FroFall Os_FroFall_0 (exec Es_FroFall 2 cs_FroFall_2 (St.of (hs_FroFall_2 y0 y1 y2 y3 y4 y5 y6 y7 y8)) (leafRd Es_FroFall 2)) = (g_Ss_FroFall_2 y0 y3 y4 y5 y6 y7 y8 (y1,y2)).bt (fun ((y1,y2):Bool×Int) => (hs_FroFall_2 y0 y1 y2 y3 y4 y5 y6 y7 y8)) (xs_FroFall_2 y0 y3 y4 y5 y6 y7 y8) := by kernel_rfl
theorem ks_FroFall_1:OrcOk Es_FroFall Os_FroFall_1 lss_FroFall 1 := orc_add ks_FroFall_0 (fun n p hp h ex h' ho => by
 obtain ⟨b,c⟩ := p
 obtain ⟨xt,h1,h2⟩ := ho
 have h1:Os_FroFall_1 b h = some (true,xt) := h1
 unfold Os_FroFall_1 at h1
 split at h1
 ·injection h1 with h1
  injection h1 with e1 e2
  subst e2
  have hc:c = cs_FroFall_2 := ms_FroFall_2 _ hp rfl
  subst hc
  right
  rename_i y0 y1 y2 y3 y4 y5 y6 y7 y8
  have key := LT_step ks_FroFall_0 hp (fun q hq => loopsAll_in _ _ _ _ hp hq) (fun ((y1,y2):Bool×Int) => (hs_FroFall_2 y0 y1 y2 y3 y4 y5 y6 y7 y8)) (xs_FroFall_2 y0 y3 y4 y5 y6 y7 y8) (g_Ss_FroFall_2 y0 y3 y4 y5 y6 y7 y8) (fun x => by first | exact bs_FroFall_2 y0 x.1 x.2 y3 y4 y5 y6 y7 y8) n (x := (y1,y2)) (okO_some e1)
  have hx:∀ r,XT.sel (.leaf (.exit 2) [(.T 4,.t (.val false [.ptr 4 0 0])),(.T 5,.t (.val false [.ptr 5 0 0])),(.T 6,.t (.val false [.int .i64 y0])),(.T 7,.t (.val false [.bool r])),(.B 4,.b 0 false [.row 4 1 0,.int .i64 y3,.row 4 5 0]),(.R 4 1,.r 0 (some ⟨false,.any,true,92,(.pair (.int .i64) (.pair (.int .i64) (.pair (.sl 9 .str) (.sl 155 (.pair .str (.pair .bool (.sl 3 (.int .i64)))))))),y4⟩)),(.R 4 5,.r 0 (some ⟨false,.any,true,73,(.pair (.int .i64) (.pair (.pair (.int .i64) (.pair (.int .i64) (.pair (.int .i64) (.pair (.int .i64) (.pair (.int .i64) (.pair (.int .i64) (.int .i64))))))) (.pair .bool (.pair (.sl 3 (.int .i64)) (.sl 3 (.int .i64)))))),y5⟩)),(.B 5,.b 0 false [.row 5 1 0,.int .i64 y6,.row 5 5 0]),(.R 5 1,.r 0 (some ⟨false,.any,true,92,(.pair (.int .i64) (.pair (.int .i64) (.pair (.sl 9 .str) (.sl 155 (.pair .str (.pair .bool (.sl 3 (.int .i64)))))))),y7⟩)),(.R 5 5,.r 0 (some ⟨false,.any,true,73,(.pair (.int .i64) (.pair (.pair (.int .i64) (.pair (.int .i64) (.pair (.int .i64) (.pair (.int .i64) (.pair (.int .i64) (.pair (.int .i64) (.int .i64))))))) (.pair .bool (.pair (.sl 3 (.int .i64)) (.sl 3 (.int .i64)))))),y8⟩))]) = xs_FroFall_2 y0 y3 y4 y5 y6 y7 y8 r := fun r => by first | rfl | rcases r with r | r <;> rfl | rcases r with r | r | r <;> rfl | rcases r with r | r | r | r <;> rfl
  have h3 := (hx (valO (g_Ls_FroFall_2 y0 y3 y4 y5 y6 y7 y8 (y1,y2)))).symm.trans h2
  have e3 := congrArg Prod.fst h3
  have e4 := congrArg Prod.snd h3
  simp only at e3 e4
  rw [← e3,← e4]
  exact key
 ·exact .inl ⟨xt,h1,h2⟩)
def g_Ss_FroFall_0 (y1:Int) (y2:tL0) (y3:tL1) (y4:Int) (y5:tL0):(Int×tL1) → RT (Int×tL1) ((tL1))
 | (y0,y6) => .br (true) (.br (decide (y0 ≤ 29)) (.br (okO (g_Ls_FroFall_2 y0 y1 y2 y3 y4 y5 y6 (false,(0:Int)))) (.br (g_As_l2Of y5 y0) (.br (true) (.br (g_Vs_l2Of_0 y5 y0 == 2) (.br (!valO (g_Ls_FroFall_2 y0 y1 y2 y3 y4 y5 y6 (false,(0:Int)))) (.br (decide ((List.length y6 + List.length [(y0,((0:Int),(0:Int),(0:Int),(0:Int),(0:Int),(0:Int),(0:Int)),true,([]:List Int),([]:List Int))]) * nat_lit 120 ≤ nat_lit 140737488355328 ∧ List.length y6 + List.length [(y0,((0:Int),(0:Int),(0:Int),(0:Int),(0:Int),(0:Int),(0:Int)),true,([]:List Int),([]:List Int))] ≤ nat_lit 9223372036854775807)) (.br (true) (.go ((IntKind.i64.wrap (y0 + 1),y6 ++ [(y0,((0:Int),(0:Int),(0:Int),(0:Int),(0:Int),(0:Int),(0:Int)),true,([]:List Int),([]:List Int))]))) .bad) .bad) (.br (true) (.go ((IntKind.i64.wrap (y0 + 1),y6))) .bad)) (.br (true) (.go ((IntKind.i64.wrap (y0 + 1),y6))) .bad)) .bad) .bad) .bad) (.out (y6))) .bad
def g_Ls_FroFall_0 (y1:Int) (y2:tL0) (y3:tL1) (y4:Int) (y5:tL0) (x:Int×tL1):Option ((tL1)) := loopO (g_Ss_FroFall_0 y1 y2 y3 y4 y5) x
def xs_FroFall_0 (y1:Int) (y2:tL0) (y3:tL1) (y4:Int) (y5:tL0):((tL1)) → Ex×List (Pl×LV) := fun r => (.exit 0,[(.T 4,.t (.val false [.ptr 4 0 0])),(.T 5,.t (.val false [.ptr 5 0 0])),(.B 4,.b 0 false [.row 4 1 0,.int .i64 y1,.row 4 5 0]),(.R 4 1,.r 0 (some ⟨false,.any,true,92,(.pair (.int .i64) (.pair (.int .i64) (.pair (.sl 9 .str) (.sl 155 (.pair .str (.pair .bool (.sl 3 (.int .i64)))))))),y2⟩)),(.R 4 5,.r 0 (some ⟨false,.any,true,73,(.pair (.int .i64) (.pair (.pair (.int .i64) (.pair (.int .i64) (.pair (.int .i64) (.pair (.int .i64) (.pair (.int .i64) (.pair (.int .i64) (.int .i64))))))) (.pair .bool (.pair (.sl 3 (.int .i64)) (.sl 3 (.int .i64)))))),y3⟩)),(.B 5,.b 0 false [.row 5 1 0,.int .i64 y4,.row 5 5 0]),(.R 5 1,.r 0 (some ⟨false,.any,true,92,(.pair (.int .i64) (.pair (.int .i64) (.pair (.sl 9 .str) (.sl 155 (.pair .str (.pair .bool (.sl 3 (.int .i64)))))))),y5⟩)),(.R 5 5,.r 0 (some ⟨false,.any,true,73,(.pair (.int .i64) (.pair (.pair (.int .i64) (.pair (.int .i64) (.pair (.int .i64) (.pair (.int .i64) (.pair (.int .i64) (.pair (.int .i64) (.int .i64))))))) (.pair .bool (.pair (.sl 3 (.int .i64)) (.sl 3 (.int .i64)))))),r⟩))])
def Os_FroFall_2:Orc := fun b h => match b,h with
 | 0,[(.T 4,.t (.val false [.ptr 4 0 0])),(.T 5,.t (.val false [.ptr 5 0 0])),(.T 6,.t (.val false [.int .i64 y0])),(.B 4,.b 0 false [.row 4 1 0,.int .i64 y1,.row 4 5 0]),(.R 4 1,.r 0 (some ⟨false,.any,true,92,(.pair (.int .i64) (.pair (.int .i64) (.pair (.sl 9 .str) (.sl 155 (.pair .str (.pair .bool (.sl 3 (.int .i64)))))))),y2⟩)),(.R 4 5,.r 0 (some ⟨false,.any,true,73,(.pair (.int .i64) (.pair (.pair (.int .i64) (.pair (.int .i64) (.pair (.int .i64) (.pair (.int .i64) (.pair (.int .i64) (.pair (.int .i64) (.int .i64))))))) (.pair .bool (.pair (.sl 3 (.int .i64)) (.sl 3 (.int .i64)))))),y3⟩)),(.B 5,.b 0 false [.row 5 1 0,.int .i64 y4,.row 5 5 0]),(.R 5 1,.r 0 (some ⟨false,.any,true,92,(.pair (.int .i64) (.pair (.int .i64) (.pair (.sl 9 .str) (.sl 155 (.pair .str (.pair .bool (.sl 3 (.int .i64)))))))),y5⟩)),(.R 5 5,.r 0 (some ⟨false,.any,true,73,(.pair (.int .i64) (.pair (.pair (.int .i64) (.pair (.int .i64) (.pair (.int .i64) (.pair (.int .i64) (.pair (.int .i64) (.pair (.int .i64) (.int .i64))))))) (.pair .bool (.pair (.sl 3 (.int .i64)) (.sl 3 (.int .i64)))))),y6⟩))] => some (okO (g_Ls_FroFall_0 y1 y2 y3 y4 y5 (y0,y6)),(.leaf (.exit 0) [(.T 4,.t (.val false [.ptr 4 0 0])),(.T 5,.t (.val false [.ptr 5 0 0])),(.B 4,.b 0 false [.row 4 1 0,.int .i64 y1,.row 4 5 0]),(.R 4 1,.r 0 (some ⟨false,.any,true,92,(.pair (.int .i64) (.pair (.int .i64) (.pair (.sl 9 .str) (.sl 155 (.pair .str (.pair .bool (.sl 3 (.int .i64)))))))),y2⟩)),(.R 4 5,.r 0 (some ⟨false,.any,true,73,(.pair (.int .i64) (.pair (.pair (.int .i64) (.pair (.int .i64) (.pair (.int .i64) (.pair (.int .i64) (.pair (.int .i64) (.pair (.int .i64) (.int .i64))))))) (.pair .bool (.pair (.sl 3 (.int .i64)) (.sl 3 (.int .i64)))))),y3⟩)),(.B 5,.b 0 false [.row 5 1 0,.int .i64 y4,.row 5 5 0]),(.R 5 1,.r 0 (some ⟨false,.any,true,92,(.pair (.int .i64) (.pair (.int .i64) (.pair (.sl 9 .str) (.sl 155 (.pair .str (.pair .bool (.sl 3 (.int .i64)))))))),y5⟩)),(.R 5 5,.r 0 (some ⟨false,.any,true,73,(.pair (.int .i64) (.pair (.pair (.int .i64) (.pair (.int .i64) (.pair (.int .i64) (.pair (.int .i64) (.pair (.int .i64) (.pair (.int .i64) (.int .i64))))))) (.pair .bool (.pair (.sl 3 (.int .i64)) (.sl 3 (.int .i64)))))),(valO (g_Ls_FroFall_0 y1 y2 y3 y4 y5 (y0,y6)))⟩))]))
 | b,h => Os_FroFall_1 b h
theorem bs_FroFall_0 (y0:Int) (y1:Int) (y2:tL0) (y3:tL1) (y4:Int) (y5:tL0) (y6:tL1):Tr.bt Es_FroFall Os_FroFall_1 (exec Es_FroFall 0 cs_FroFall_0 (St.of (hs_FroFall_0 y0 y1 y2 y3 y4 y5 y6)) (leafRd Es_FroFall 0)) = (g_Ss_FroFall_0 y1 y2 y3 y4 y5 (y0,y6)).bt (fun ((y0,y6):Int×tL1) => (hs_FroFall_0 y0 y1 y2 y3 y4 y5 y6)) (xs_FroFall_0 y1 y2 y3 y4 y5) := by kernel_rfl
theorem ks_FroFall_2:OrcOk Es_FroFall Os_FroFall_2 lss_FroFall 2 := orc_add ks_FroFall_1 (fun n p hp h ex h' ho => by
 obtain ⟨b,c⟩ := p
 obtain ⟨xt,h1,h2⟩ := ho
 have h1:Os_FroFall_2 b h = some (true,xt) := h1
 unfold Os_FroFall_2 at h1
 split at h1
 ·injection h1 with h1
  injection h1 with e1 e2
  subst e2
  have hc:c = cs_FroFall_0 := ms_FroFall_0 _ hp rfl
  subst hc
  right
  rename_i y0 y1 y2 y3 y4 y5 y6
  have key := LT_step ks_FroFall_1 hp (fun q hq => loopsAll_in _ _ _ _ hp hq) (fun ((y0,y6):Int×tL1) => (hs_FroFall_0 y0 y1 y2 y3 y4 y5 y6)) (xs_FroFall_0 y1 y2 y3 y4 y5) (g_Ss_FroFall_0 y1 y2 y3 y4 y5) (fun x => by first | exact bs_FroFall_0 x.1 y1 y2 y3 y4 y5 x.2) n (x := (y0,y6)) (okO_some e1)
  have hx:∀ r,XT.sel (.leaf (.exit 0) [(.T 4,.t (.val false [.ptr 4 0 0])),(.T 5,.t (.val false [.ptr 5 0 0])),(.B 4,.b 0 false [.row 4 1 0,.int .i64 y1,.row 4 5 0]),(.R 4 1,.r 0 (some ⟨false,.any,true,92,(.pair (.int .i64) (.pair (.int .i64) (.pair (.sl 9 .str) (.sl 155 (.pair .str (.pair .bool (.sl 3 (.int .i64)))))))),y2⟩)),(.R 4 5,.r 0 (some ⟨false,.any,true,73,(.pair (.int .i64) (.pair (.pair (.int .i64) (.pair (.int .i64) (.pair (.int .i64) (.pair (.int .i64) (.pair (.int .i64) (.pair (.int .i64) (.int .i64))))))) (.pair .bool (.pair (.sl 3 (.int .i64)) (.sl 3 (.int .i64)))))),y3⟩)),(.B 5,.b 0 false [.row 5 1 0,.int .i64 y4,.row 5 5 0]),(.R 5 1,.r 0 (some ⟨false,.any,true,92,(.pair (.int .i64) (.pair (.int .i64) (.pair (.sl 9 .str) (.sl 155 (.pair .str (.pair .bool (.sl 3 (.int .i64)))))))),y5⟩)),(.R 5 5,.r 0 (some ⟨false,.any,true,73,(.pair (.int .i64) (.pair (.pair (.int .i64) (.pair (.int .i64) (.pair (.int .i64) (.pair (.int .i64) (.pair (.int .i64) (.pair (.int .i64) (.int .i64))))))) (.pair .bool (.pair (.sl 3 (.int .i64)) (.sl 3 (.int .i64)))))),r⟩))]) = xs_FroFall_0 y1 y2 y3 y4 y5 r := fun r => by first | rfl | rcases r with r | r <;> rfl | rcases r with r | r | r <;> rfl | rcases r with r | r | r | r <;> rfl
  have h3 := (hx (valO (g_Ls_FroFall_0 y1 y2 y3 y4 y5 (y0,y6)))).symm.trans h2
  have e3 := congrArg Prod.fst h3
  have e4 := congrArg Prod.snd h3
  simp only at e3 e4
  rw [← e3,← e4]
  exact key
 ·exact .inl ⟨xt,h1,h2⟩)
def g_As_FroFall (a0:tL0) (a1:Int) (a2:tL1) (a3:Int):Bool := g_As_FroOk a0 a1 a2&&(!g_Vs_FroOk_0 a0 a1 a2 || g_As_DiskFall a0 a1 a3&&(okO (g_Ls_FroFall_0 (0:Int) [] [] (g_Vs_DiskFall_1 a0 a1 a3) (g_Vs_DiskFall_0 a0 a1 a3) ((0:Int),[]))&&g_As_l6Copy (g_Vs_DiskFall_0 a0 a1 a3) (g_Vs_DiskFall_1 a0 a1 a3) (valO (g_Ls_FroFall_0 (0:Int) [] [] (g_Vs_DiskFall_1 a0 a1 a3) (g_Vs_DiskFall_0 a0 a1 a3) ((0:Int),[])))))
def g_Vs_FroFall_0 (a0:tL0) (a1:Int) (a2:tL1) (a3:Int):tL0 := bif !g_Vs_FroOk_0 a0 a1 a2 then [] else g_Vs_l2Copy_0 (g_Vs_DiskFall_0 a0 a1 a3) (g_Vs_DiskFall_1 a0 a1 a3)
def g_Vs_FroFall_1 (a0:tL0) (a1:Int) (a2:tL1) (a3:Int):Int := bif !g_Vs_FroOk_0 a0 a1 a2 then (0:Int) else g_Vs_DiskFall_1 a0 a1 a3
def g_Vs_FroFall_2 (a0:tL0) (a1:Int) (a2:tL1) (a3:Int):tL1 := bif !g_Vs_FroOk_0 a0 a1 a2 then [] else g_Vs_l6Copy_0 (g_Vs_DiskFall_0 a0 a1 a3) (g_Vs_DiskFall_1 a0 a1 a3) (valO (g_Ls_FroFall_0 (0:Int) [] [] (g_Vs_DiskFall_1 a0 a1 a3) (g_Vs_DiskFall_0 a0 a1 a3) ((0:Int),[])))
def Fs_FroFall:FSem := fun ys => match ys with
 | [.val true [.sl .any 92 (.pair (.int .i64) (.pair (.int .i64) (.pair (.sl 9 .str) (.sl 155 (.pair .str (.pair .bool (.sl 3 (.int .i64)))))))) a0,.int .i64 a1,.sl .any 73 (.pair (.int .i64) (.pair (.pair (.int .i64) (.pair (.int .i64) (.pair (.int .i64) (.pair (.int .i64) (.pair (.int .i64) (.pair (.int .i64) (.int .i64))))))) (.pair .bool (.pair (.sl 3 (.int .i64)) (.sl 3 (.int .i64)))))) a2],.val false [.int .i64 a3]] => some ((g_As_FroFall a0 a1 a2 a3),.val true [.own .any true 92 (.pair (.int .i64) (.pair (.int .i64) (.pair (.sl 9 .str) (.sl 155 (.pair .str (.pair .bool (.sl 3 (.int .i64)))))))) (g_Vs_FroFall_0 a0 a1 a2 a3),.int .i64 (g_Vs_FroFall_1 a0 a1 a2 a3),.own .any true 73 (.pair (.int .i64) (.pair (.pair (.int .i64) (.pair (.int .i64) (.pair (.int .i64) (.pair (.int .i64) (.pair (.int .i64) (.pair (.int .i64) (.int .i64))))))) (.pair .bool (.pair (.sl 3 (.int .i64)) (.sl 3 (.int .i64)))))) (g_Vs_FroFall_2 a0 a1 a2 a3)],[])
 | _ => none
theorem vs_FroFall (a0:tL0) (a1:Int) (a2:tL1) (a3:Int):collapseH .std Es_FroFall Os_FroFall_2 (execFn Es_FroFall Tryz.f16 mss_FroFall [.val true [.sl .any 92 (.pair (.int .i64) (.pair (.int .i64) (.pair (.sl 9 .str) (.sl 155 (.pair .str (.pair .bool (.sl 3 (.int .i64)))))))) a0,.int .i64 a1,.sl .any 73 (.pair (.int .i64) (.pair (.pair (.int .i64) (.pair (.int .i64) (.pair (.int .i64) (.pair (.int .i64) (.pair (.int .i64) (.pair (.int .i64) (.int .i64))))))) (.pair .bool (.pair (.sl 3 (.int .i64)) (.sl 3 (.int .i64)))))) a2],.val false [.int .i64 a3]]) = some ((g_As_FroFall a0 a1 a2 a3),.val true [.own .any true 92 (.pair (.int .i64) (.pair (.int .i64) (.pair (.sl 9 .str) (.sl 155 (.pair .str (.pair .bool (.sl 3 (.int .i64)))))))) (g_Vs_FroFall_0 a0 a1 a2 a3),.int .i64 (g_Vs_FroFall_1 a0 a1 a2 a3),.own .any true 73 (.pair (.int .i64) (.pair (.pair (.int .i64) (.pair (.int .i64) (.pair (.int .i64) (.pair (.int .i64) (.pair (.int .i64) (.pair (.int .i64) (.int .i64))))))) (.pair .bool (.pair (.sl 3 (.int .i64)) (.sl 3 (.int .i64)))))) (g_Vs_FroFall_2 a0 a1 a2 a3)],[]) := by kernel_rfl
theorem ss_FroFall:Sound Tryz.prog 16 mss_FroFall Fs_FroFall := by
 refine fn_gen goods_FroFall (by kernel_rfl) .std (fn := Tryz.f16) (c := (Tryz.f16.body.getD .skip)) (o := Os_FroFall_2) (k := 2) (by kernel_rfl) (by kernel_rfl) (by kernel_rfl) (by kernel_rfl) (by decide) ks_FroFall_2 ?_
 intro ys r outs h
 unfold Fs_FroFall at h
 split at h
 ·exact (vs_FroFall _ _ _ _).trans h
 ·cases h
def Ew_eqIntS:Env where
 tt := mkTI Tryz.prog
 fn := fun _ => none
 bxf := fun _ => none
 mv := []
 keep := fun b => match b with
  | 0 => [(0,false),(1,false),(5,false)]
  | _ => []
 keepB := fun b => match b with
  | 0 => []
  | _ => []
 keepX := fun b => match b with
  | 0 => [(4,false)]
  | _ => []
 keepXB := fun b => match b with
  | 0 => []
  | _ => []
theorem goodFw_eqIntS:∀ f ms F,Ew_eqIntS.fn f = some (ms,F) → Sound Tryz.prog f ms F := fun f ms F h => by cases h
theorem goodw_eqIntS:Good Tryz.prog Ew_eqIntS := ⟨rfl,goodFw_eqIntS,fun f ms F h => by cases h⟩
def Ow_eqIntS_0:Orc := fun _ _ => none
def msw_eqIntS:List PM := [.rd,.rd]
def lsw_eqIntS:List (Nat×Code) := loopsAll 0 (Tryz.f142.body.getD .skip)
def cw_eqIntS_0:Code := (loopOf 0 (Tryz.f142.body.getD .skip)).getD .skip
theorem lseqw_eqIntS:lsw_eqIntS = [(0,cw_eqIntS_0)] := by kernel_rfl
theorem mw_eqIntS_0:∀ p,p ∈ lsw_eqIntS → p.1 = 0 → p.2 = cw_eqIntS_0 := by
 intro p hp
 rw [lseqw_eqIntS] at hp
 simp only [List.mem_cons,List.not_mem_nil,or_false] at hp
 subst hp; simp
theorem kw_eqIntS_0:OrcOk Ew_eqIntS Ow_eqIntS_0 lsw_eqIntS 0 := orcOk_none
def hw_eqIntS_0 (y0:List Int) (y1:List Int) (y2:Int):List (Pl×LV) := [(.T 0,.t (.val false [.sl .any 3 (.int .i64) y0])),(.T 1,.t (.val false [.sl .any 3 (.int .i64) y1])),(.T 5,.t (.val false [.int .i64 y2]))]
def g_Sw_eqIntS_0 (y0:List Int) (y1:List Int):(Int) → RT (Int) ((Bool) ⊕ (Unit))
 | y2 => .br (true) (.br (decide (y2 < (y0.length:Int))) (.br (decide (0 ≤ y2 ∧ y2 < (y0.length:Int))) (.br (decide (0 ≤ y2 ∧ y2 < (y1.length:Int))) (.br (true) (.br (at_ (.int .i64) y0 (Int.toNat y2) != at_ (.int .i64) y1 (Int.toNat y2)) (.out (.inl false)) (.br (true) (.go (IntKind.i64.wrap (y2 + 1))) .bad)) .bad) .bad) .bad) (.out (.inr (())))) .bad
def g_Lw_eqIntS_0 (y0:List Int) (y1:List Int) (x:Int):Option ((Bool) ⊕ (Unit)) := loopO (g_Sw_eqIntS_0 y0 y1) x
def xw_eqIntS_0 (y0:List Int) (y1:List Int):((Bool) ⊕ (Unit)) → Ex×List (Pl×LV) := fun
 | .inl r => (.ret,[(.T 4,.t (.val false [.bool r]))])
 | .inr (r) => (.exit 0,[(.T 4,.t (.val false [.undef]))])
def Ow_eqIntS_1:Orc := fun b h => match b,h with
 | 0,[(.T 0,.t (.val false [.sl .any 3 (.int .i64) y0])),(.T 1,.t (.val false [.sl .any 3 (.int .i64) y1])),(.T 5,.t (.val false [.int .i64 y2]))] => some (okO (g_Lw_eqIntS_0 y0 y1 y2),(.br (isL (valO (g_Lw_eqIntS_0 y0 y1 y2))) (.leaf .ret [(.T 4,.t (.val false [.bool (getL (valO (g_Lw_eqIntS_0 y0 y1 y2)))]))]) (.leaf (.exit 0) [(.T 4,.t (.val false [.undef]))])))
 | b,h => Ow_eqIntS_0 b h
theorem bw_eqIntS_0 (y0:List Int) (y1:List Int) (y2:Int):Tr.bt Ew_eqIntS Ow_eqIntS_0 (exec Ew_eqIntS 0 cw_eqIntS_0 (St.of (hw_eqIntS_0 y0 y1 y2)) (leafRd Ew_eqIntS 0)) = (g_Sw_eqIntS_0 y0 y1 y2).bt (fun (y2:Int) => (hw_eqIntS_0 y0 y1 y2)) (xw_eqIntS_0 y0 y1) := by kernel_rfl
theorem kw_eqIntS_1:OrcOk Ew_eqIntS Ow_eqIntS_1 lsw_eqIntS 1 := orc_add kw_eqIntS_0 (fun n p hp h ex h' ho => by
 obtain ⟨b,c⟩ := p
 obtain ⟨xt,h1,h2⟩ := ho
 have h1:Ow_eqIntS_1 b h = some (true,xt) := h1
 unfold Ow_eqIntS_1 at h1
 split at h1
 ·injection h1 with h1
  injection h1 with e1 e2
  subst e2
  have hc:c = cw_eqIntS_0 := mw_eqIntS_0 _ hp rfl
  subst hc
  right
  rename_i y0 y1 y2
  have key := LT_step kw_eqIntS_0 hp (fun q hq => loopsAll_in _ _ _ _ hp hq) (fun (y2:Int) => (hw_eqIntS_0 y0 y1 y2)) (xw_eqIntS_0 y0 y1) (g_Sw_eqIntS_0 y0 y1) (fun x => by first | exact bw_eqIntS_0 y0 y1 x) n (x := y2) (okO_some e1)
  have hx:∀ r,XT.sel (.br (isL r) (.leaf .ret [(.T 4,.t (.val false [.bool (getL r)]))]) (.leaf (.exit 0) [(.T 4,.t (.val false [.undef]))])) = xw_eqIntS_0 y0 y1 r := fun r => by first | rfl | rcases r with r | r <;> rfl | rcases r with r | r | r <;> rfl | rcases r with r | r | r | r <;> rfl
  have h3 := (hx (valO (g_Lw_eqIntS_0 y0 y1 y2))).symm.trans h2
  have e3 := congrArg Prod.fst h3
  have e4 := congrArg Prod.snd h3
  simp only at e3 e4
  rw [← e3,← e4]
  exact key
 ·exact .inl ⟨xt,h1,h2⟩)
def g_Aw_eqIntS (a0:List Int) (a1:List Int):Bool := (a0.length:Int) != (a1.length:Int) || okO (g_Lw_eqIntS_0 a0 a1 (0:Int))
def g_Vw_eqIntS_0 (a0:List Int) (a1:List Int):Bool := bif (a0.length:Int) != (a1.length:Int) then false else bif isL (valO (g_Lw_eqIntS_0 a0 a1 (0:Int))) then getL (valO (g_Lw_eqIntS_0 a0 a1 (0:Int))) else true
def Fw_eqIntS:FSem := fun ys => match ys with
 | [.val false [.sl .any 3 (.int .i64) a0],.val false [.sl .any 3 (.int .i64) a1]] => some ((g_Aw_eqIntS a0 a1),.val false [.bool (g_Vw_eqIntS_0 a0 a1)],[])
 | _ => none
theorem vw_eqIntS (a0:List Int) (a1:List Int):collapseH .std Ew_eqIntS Ow_eqIntS_1 (execFn Ew_eqIntS Tryz.f142 msw_eqIntS [.val false [.sl .any 3 (.int .i64) a0],.val false [.sl .any 3 (.int .i64) a1]]) = some ((g_Aw_eqIntS a0 a1),.val false [.bool (g_Vw_eqIntS_0 a0 a1)],[]) := by kernel_rfl
theorem sw_eqIntS:Sound Tryz.prog 142 msw_eqIntS Fw_eqIntS := by
 refine fn_gen goodw_eqIntS (by kernel_rfl) .std (fn := Tryz.f142) (c := (Tryz.f142.body.getD .skip)) (o := Ow_eqIntS_1) (k := 1) (by kernel_rfl) (by kernel_rfl) (by kernel_rfl) (by kernel_rfl) (by decide) kw_eqIntS_1 ?_
 intro ys r outs h
 unfold Fw_eqIntS at h
 split at h
 ·exact (vw_eqIntS _ _).trans h
 ·cases h
def Ew_eqOpOp:Env where
 tt := mkTI Tryz.prog
 fn := fun _ => none
 bxf := fun _ => none
 mv := []
 keep := fun _ => []
 keepB := fun _ => []
 keepX := fun _ => []
 keepXB := fun _ => []
theorem goodFw_eqOpOp:∀ f ms F,Ew_eqOpOp.fn f = some (ms,F) → Sound Tryz.prog f ms F := fun f ms F h => by cases h
theorem goodw_eqOpOp:Good Tryz.prog Ew_eqOpOp := ⟨rfl,goodFw_eqOpOp,fun f ms F h => by cases h⟩
def Ow_eqOpOp_0:Orc := fun _ _ => none
def msw_eqOpOp:List PM := [.own,.own]
def lsw_eqOpOp:List (Nat×Code) := loopsAll 0 (Tryz.f102.body.getD .skip)
theorem kw_eqOpOp_0:OrcOk Ew_eqOpOp Ow_eqOpOp_0 lsw_eqOpOp 0 := orcOk_none
def g_Aw_eqOpOp (a0:Int) (a1:Int) (a2:Int) (a3:Int) (a4:Int) (a5:Int) (a6:Int) (a7:Int) (a8:Int) (a9:Int) (a10:Int) (a11:Int) (a12:Int) (a13:Int):Bool := a0 != a7 || (a1 != a8 || (a2 != a9 || (a3 != a10 || (a4 != a11 || (a5 != a12 || true)))))
def g_Vw_eqOpOp_0 (a0:Int) (a1:Int) (a2:Int) (a3:Int) (a4:Int) (a5:Int) (a6:Int) (a7:Int) (a8:Int) (a9:Int) (a10:Int) (a11:Int) (a12:Int) (a13:Int):Bool := bif a0 != a7 then false else bif a1 != a8 then false else bif a2 != a9 then false else bif a3 != a10 then false else bif a4 != a11 then false else bif a5 != a12 then false else bif a6 != a13 then false else true
def Fw_eqOpOp:FSem := fun ys => match ys with
 | [.val true [.int .i64 a0,.int .i64 a1,.int .i64 a2,.int .i64 a3,.int .i64 a4,.int .i64 a5,.int .i64 a6],.val true [.int .i64 a7,.int .i64 a8,.int .i64 a9,.int .i64 a10,.int .i64 a11,.int .i64 a12,.int .i64 a13]] => some ((g_Aw_eqOpOp a0 a1 a2 a3 a4 a5 a6 a7 a8 a9 a10 a11 a12 a13),.val false [.bool (g_Vw_eqOpOp_0 a0 a1 a2 a3 a4 a5 a6 a7 a8 a9 a10 a11 a12 a13)],[])
 | _ => none
theorem vw_eqOpOp (a0:Int) (a1:Int) (a2:Int) (a3:Int) (a4:Int) (a5:Int) (a6:Int) (a7:Int) (a8:Int) (a9:Int) (a10:Int) (a11:Int) (a12:Int) (a13:Int):collapseH .std Ew_eqOpOp Ow_eqOpOp_0 (execFn Ew_eqOpOp Tryz.f102 msw_eqOpOp [.val true [.int .i64 a0,.int .i64 a1,.int .i64 a2,.int .i64 a3,.int .i64 a4,.int .i64 a5,.int .i64 a6],.val true [.int .i64 a7,.int .i64 a8,.int .i64 a9,.int .i64 a10,.int .i64 a11,.int .i64 a12,.int .i64 a13]]) = some ((g_Aw_eqOpOp a0 a1 a2 a3 a4 a5 a6 a7 a8 a9 a10 a11 a12 a13),.val false [.bool (g_Vw_eqOpOp_0 a0 a1 a2 a3 a4 a5 a6 a7 a8 a9 a10 a11 a12 a13)],[]) := by kernel_rfl
theorem sw_eqOpOp:Sound Tryz.prog 102 msw_eqOpOp Fw_eqOpOp := by
 refine fn_gen goodw_eqOpOp (by kernel_rfl) .std (fn := Tryz.f102) (c := (Tryz.f102.body.getD .skip)) (o := Ow_eqOpOp_0) (k := 0) (by kernel_rfl) (by kernel_rfl) (by kernel_rfl) (by kernel_rfl) (by decide) kw_eqOpOp_0 ?_
 intro ys r outs h
 unfold Fw_eqOpOp at h
 split at h
 ·exact (vw_eqOpOp _ _ _ _ _ _ _ _ _ _ _ _ _ _).trans h
 ·cases h
def Ew_eqFroTx:Env where
 tt := mkTI Tryz.prog
 fn := fun f => match f with
  | 102 => some (msw_eqOpOp,FSem.wk msw_eqOpOp Fw_eqOpOp)
  | 142 => some (msw_eqIntS,FSem.wk msw_eqIntS Fw_eqIntS)
  | _ => none
 bxf := fun _ => none
 mv := []
 keep := fun _ => []
 keepB := fun _ => []
 keepX := fun _ => []
 keepXB := fun _ => []
theorem goodFw_eqFroTx:∀ f ms F,Ew_eqFroTx.fn f = some (ms,F) → Sound Tryz.prog f ms F := fun f ms F h => by
 unfold Ew_eqFroTx at h
 dsimp only at h
 split at h
 ·exact gF sw_eqOpOp h
 ·exact gF sw_eqIntS h
 ·cases h
theorem goodw_eqFroTx:Good Tryz.prog Ew_eqFroTx := ⟨rfl,goodFw_eqFroTx,fun f ms F h => by cases h⟩
def Ow_eqFroTx_0:Orc := fun _ _ => none
def msw_eqFroTx:List PM := [.rd,.rd]
def lsw_eqFroTx:List (Nat×Code) := loopsAll 0 (Tryz.f104.body.getD .skip)
theorem kw_eqFroTx_0:OrcOk Ew_eqFroTx Ow_eqFroTx_0 lsw_eqFroTx 0 := orcOk_none
def g_Aw_eqFroTx (a0:Int) (a1:Int) (a2:Int) (a3:Int) (a4:Int) (a5:Int) (a6:Int) (a7:Int) (a8:Bool) (a9:List Int) (a10:List Int) (a11:Int) (a12:Int) (a13:Int) (a14:Int) (a15:Int) (a16:Int) (a17:Int) (a18:Int) (a19:Bool) (a20:List Int) (a21:List Int):Bool := a0 != a11 || g_Aw_eqOpOp a1 a2 a3 a4 a5 a6 a7 a12 a13 a14 a15 a16 a17 a18&&(!g_Vw_eqOpOp_0 a1 a2 a3 a4 a5 a6 a7 a12 a13 a14 a15 a16 a17 a18 || (!a8 == a19 || g_Aw_eqIntS a9 a20&&(!g_Vw_eqIntS_0 a9 a20 || g_Aw_eqIntS a10 a21)))
def g_Vw_eqFroTx_0 (a0:Int) (a1:Int) (a2:Int) (a3:Int) (a4:Int) (a5:Int) (a6:Int) (a7:Int) (a8:Bool) (a9:List Int) (a10:List Int) (a11:Int) (a12:Int) (a13:Int) (a14:Int) (a15:Int) (a16:Int) (a17:Int) (a18:Int) (a19:Bool) (a20:List Int) (a21:List Int):Bool := bif a0 != a11 then false else bif !g_Vw_eqOpOp_0 a1 a2 a3 a4 a5 a6 a7 a12 a13 a14 a15 a16 a17 a18 then false else bif !a8 == a19 then false else bif !g_Vw_eqIntS_0 a9 a20 then false else bif !g_Vw_eqIntS_0 a10 a21 then false else true
def Fw_eqFroTx:FSem := fun ys => match ys with
 | [.val true [.int .i64 a0,.int .i64 a1,.int .i64 a2,.int .i64 a3,.int .i64 a4,.int .i64 a5,.int .i64 a6,.int .i64 a7,.bool a8,.sl .any 3 (.int .i64) a9,.sl .any 3 (.int .i64) a10],.val true [.int .i64 a11,.int .i64 a12,.int .i64 a13,.int .i64 a14,.int .i64 a15,.int .i64 a16,.int .i64 a17,.int .i64 a18,.bool a19,.sl .any 3 (.int .i64) a20,.sl .any 3 (.int .i64) a21]] => some ((g_Aw_eqFroTx a0 a1 a2 a3 a4 a5 a6 a7 a8 a9 a10 a11 a12 a13 a14 a15 a16 a17 a18 a19 a20 a21),.val false [.bool (g_Vw_eqFroTx_0 a0 a1 a2 a3 a4 a5 a6 a7 a8 a9 a10 a11 a12 a13 a14 a15 a16 a17 a18 a19 a20 a21)],[])
 | _ => none
theorem vw_eqFroTx (a0:Int) (a1:Int) (a2:Int) (a3:Int) (a4:Int) (a5:Int) (a6:Int) (a7:Int) (a8:Bool) (a9:List Int) (a10:List Int) (a11:Int) (a12:Int) (a13:Int) (a14:Int) (a15:Int) (a16:Int) (a17:Int) (a18:Int) (a19:Bool) (a20:List Int) (a21:List Int):collapseH .std Ew_eqFroTx Ow_eqFroTx_0 (execFn Ew_eqFroTx Tryz.f104 msw_eqFroTx [.val true [.int .i64 a0,.int .i64 a1,.int .i64 a2,.int .i64 a3,.int .i64 a4,.int .i64 a5,.int .i64 a6,.int .i64 a7,.bool a8,.sl .any 3 (.int .i64) a9,.sl .any 3 (.int .i64) a10],.val true [.int .i64 a11,.int .i64 a12,.int .i64 a13,.int .i64 a14,.int .i64 a15,.int .i64 a16,.int .i64 a17,.int .i64 a18,.bool a19,.sl .any 3 (.int .i64) a20,.sl .any 3 (.int .i64) a21]]) = some ((g_Aw_eqFroTx a0 a1 a2 a3 a4 a5 a6 a7 a8 a9 a10 a11 a12 a13 a14 a15 a16 a17 a18 a19 a20 a21),.val false [.bool (g_Vw_eqFroTx_0 a0 a1 a2 a3 a4 a5 a6 a7 a8 a9 a10 a11 a12 a13 a14 a15 a16 a17 a18 a19 a20 a21)],[]) := by kernel_rfl
theorem sw_eqFroTx:Sound Tryz.prog 104 msw_eqFroTx Fw_eqFroTx := by
 refine fn_gen goodw_eqFroTx (by kernel_rfl) .std (fn := Tryz.f104) (c := (Tryz.f104.body.getD .skip)) (o := Ow_eqFroTx_0) (k := 0) (by kernel_rfl) (by kernel_rfl) (by kernel_rfl) (by kernel_rfl) (by decide) kw_eqFroTx_0 ?_
 intro ys r outs h
 unfold Fw_eqFroTx at h
 split at h
 ·exact (vw_eqFroTx _ _ _ _ _ _ _ _ _ _ _ _ _ _ _ _ _ _ _ _ _ _).trans h
 ·cases h
def Ew_eqFroTxS:Env where
 tt := mkTI Tryz.prog
 fn := fun f => match f with
  | 104 => some (msw_eqFroTx,FSem.wk msw_eqFroTx Fw_eqFroTx)
  | _ => none
 bxf := fun _ => none
 mv := []
 keep := fun b => match b with
  | 0 => [(0,false),(1,false),(5,false)]
  | _ => []
 keepB := fun b => match b with
  | 0 => []
  | _ => []
 keepX := fun b => match b with
  | 0 => [(4,false)]
  | _ => []
 keepXB := fun b => match b with
  | 0 => []
  | _ => []
theorem goodFw_eqFroTxS:∀ f ms F,Ew_eqFroTxS.fn f = some (ms,F) → Sound Tryz.prog f ms F := fun f ms F h => by
 unfold Ew_eqFroTxS at h
 dsimp only at h
 split at h
 ·exact gF sw_eqFroTx h
 ·cases h
theorem goodw_eqFroTxS:Good Tryz.prog Ew_eqFroTxS := ⟨rfl,goodFw_eqFroTxS,fun f ms F h => by cases h⟩
def Ow_eqFroTxS_0:Orc := fun _ _ => none
def msw_eqFroTxS:List PM := [.rd,.rd]
def lsw_eqFroTxS:List (Nat×Code) := loopsAll 0 (Tryz.f43.body.getD .skip)
def cw_eqFroTxS_0:Code := (loopOf 0 (Tryz.f43.body.getD .skip)).getD .skip
theorem lseqw_eqFroTxS:lsw_eqFroTxS = [(0,cw_eqFroTxS_0)] := by kernel_rfl
theorem mw_eqFroTxS_0:∀ p,p ∈ lsw_eqFroTxS → p.1 = 0 → p.2 = cw_eqFroTxS_0 := by
 intro p hp
 rw [lseqw_eqFroTxS] at hp
 simp only [List.mem_cons,List.not_mem_nil,or_false] at hp
 subst hp; simp
theorem kw_eqFroTxS_0:OrcOk Ew_eqFroTxS Ow_eqFroTxS_0 lsw_eqFroTxS 0 := orcOk_none
def hw_eqFroTxS_0 (y0:tL1) (y1:tL1) (y2:Int):List (Pl×LV) := [(.T 0,.t (.val false [.sl .any 73 (.pair (.int .i64) (.pair (.pair (.int .i64) (.pair (.int .i64) (.pair (.int .i64) (.pair (.int .i64) (.pair (.int .i64) (.pair (.int .i64) (.int .i64))))))) (.pair .bool (.pair (.sl 3 (.int .i64)) (.sl 3 (.int .i64)))))) y0])),(.T 1,.t (.val false [.sl .any 73 (.pair (.int .i64) (.pair (.pair (.int .i64) (.pair (.int .i64) (.pair (.int .i64) (.pair (.int .i64) (.pair (.int .i64) (.pair (.int .i64) (.int .i64))))))) (.pair .bool (.pair (.sl 3 (.int .i64)) (.sl 3 (.int .i64)))))) y1])),(.T 5,.t (.val false [.int .i64 y2]))]
def g_Sw_eqFroTxS_0 (y0:tL1) (y1:tL1):(Int) → RT (Int) ((Bool) ⊕ (Unit))
 | y2 => .br (true) (.br (decide (y2 < (y0.length:Int))) (.br (decide (0 ≤ y2 ∧ y2 < (y0.length:Int))) (.br (decide (0 ≤ y2 ∧ y2 < (y1.length:Int))) (.br (g_Aw_eqFroTx (at_ yT0 y0 (Int.toNat y2)).1 (at_ yT0 y0 (Int.toNat y2)).2.1.1 (at_ yT0 y0 (Int.toNat y2)).2.1.2.1 (at_ yT0 y0 (Int.toNat y2)).2.1.2.2.1 (at_ yT0 y0 (Int.toNat y2)).2.1.2.2.2.1 (at_ yT0 y0 (Int.toNat y2)).2.1.2.2.2.2.1 (at_ yT0 y0 (Int.toNat y2)).2.1.2.2.2.2.2.1 (at_ yT0 y0 (Int.toNat y2)).2.1.2.2.2.2.2.2 (at_ yT0 y0 (Int.toNat y2)).2.2.1 (at_ yT0 y0 (Int.toNat y2)).2.2.2.1 (at_ yT0 y0 (Int.toNat y2)).2.2.2.2 (at_ yT0 y1 (Int.toNat y2)).1 (at_ yT0 y1 (Int.toNat y2)).2.1.1 (at_ yT0 y1 (Int.toNat y2)).2.1.2.1 (at_ yT0 y1 (Int.toNat y2)).2.1.2.2.1 (at_ yT0 y1 (Int.toNat y2)).2.1.2.2.2.1 (at_ yT0 y1 (Int.toNat y2)).2.1.2.2.2.2.1 (at_ yT0 y1 (Int.toNat y2)).2.1.2.2.2.2.2.1 (at_ yT0 y1 (Int.toNat y2)).2.1.2.2.2.2.2.2 (at_ yT0 y1 (Int.toNat y2)).2.2.1 (at_ yT0 y1 (Int.toNat y2)).2.2.2.1 (at_ yT0 y1 (Int.toNat y2)).2.2.2.2) (.br (!g_Vw_eqFroTx_0 (at_ yT0 y0 (Int.toNat y2)).1 (at_ yT0 y0 (Int.toNat y2)).2.1.1 (at_ yT0 y0 (Int.toNat y2)).2.1.2.1 (at_ yT0 y0 (Int.toNat y2)).2.1.2.2.1 (at_ yT0 y0 (Int.toNat y2)).2.1.2.2.2.1 (at_ yT0 y0 (Int.toNat y2)).2.1.2.2.2.2.1 (at_ yT0 y0 (Int.toNat y2)).2.1.2.2.2.2.2.1 (at_ yT0 y0 (Int.toNat y2)).2.1.2.2.2.2.2.2 (at_ yT0 y0 (Int.toNat y2)).2.2.1 (at_ yT0 y0 (Int.toNat y2)).2.2.2.1 (at_ yT0 y0 (Int.toNat y2)).2.2.2.2 (at_ yT0 y1 (Int.toNat y2)).1 (at_ yT0 y1 (Int.toNat y2)).2.1.1 (at_ yT0 y1 (Int.toNat y2)).2.1.2.1 (at_ yT0 y1 (Int.toNat y2)).2.1.2.2.1 (at_ yT0 y1 (Int.toNat y2)).2.1.2.2.2.1 (at_ yT0 y1 (Int.toNat y2)).2.1.2.2.2.2.1 (at_ yT0 y1 (Int.toNat y2)).2.1.2.2.2.2.2.1 (at_ yT0 y1 (Int.toNat y2)).2.1.2.2.2.2.2.2 (at_ yT0 y1 (Int.toNat y2)).2.2.1 (at_ yT0 y1 (Int.toNat y2)).2.2.2.1 (at_ yT0 y1 (Int.toNat y2)).2.2.2.2) (.out (.inl false)) (.br (true) (.go (IntKind.i64.wrap (y2 + 1))) .bad)) .bad) .bad) .bad) (.out (.inr (())))) .bad
def g_Lw_eqFroTxS_0 (y0:tL1) (y1:tL1) (x:Int):Option ((Bool) ⊕ (Unit)) := loopO (g_Sw_eqFroTxS_0 y0 y1) x
def xw_eqFroTxS_0 (y0:tL1) (y1:tL1):((Bool) ⊕ (Unit)) → Ex×List (Pl×LV) := fun
 | .inl r => (.ret,[(.T 4,.t (.val false [.bool r]))])
 | .inr (r) => (.exit 0,[(.T 4,.t (.val false [.undef]))])
def Ow_eqFroTxS_1:Orc := fun b h => match b,h with
 | 0,[(.T 0,.t (.val false [.sl .any 73 (.pair (.int .i64) (.pair (.pair (.int .i64) (.pair (.int .i64) (.pair (.int .i64) (.pair (.int .i64) (.pair (.int .i64) (.pair (.int .i64) (.int .i64))))))) (.pair .bool (.pair (.sl 3 (.int .i64)) (.sl 3 (.int .i64)))))) y0])),(.T 1,.t (.val false [.sl .any 73 (.pair (.int .i64) (.pair (.pair (.int .i64) (.pair (.int .i64) (.pair (.int .i64) (.pair (.int .i64) (.pair (.int .i64) (.pair (.int .i64) (.int .i64))))))) (.pair .bool (.pair (.sl 3 (.int .i64)) (.sl 3 (.int .i64)))))) y1])),(.T 5,.t (.val false [.int .i64 y2]))] => some (okO (g_Lw_eqFroTxS_0 y0 y1 y2),(.br (isL (valO (g_Lw_eqFroTxS_0 y0 y1 y2))) (.leaf .ret [(.T 4,.t (.val false [.bool (getL (valO (g_Lw_eqFroTxS_0 y0 y1 y2)))]))]) (.leaf (.exit 0) [(.T 4,.t (.val false [.undef]))])))
 | b,h => Ow_eqFroTxS_0 b h
theorem bw_eqFroTxS_0 (y0:tL1) (y1:tL1) (y2:Int):Tr.bt Ew_eqFroTxS Ow_eqFroTxS_0 (exec Ew_eqFroTxS 0 cw_eqFroTxS_0 (St.of (hw_eqFroTxS_0 y0 y1 y2)) (leafRd Ew_eqFroTxS 0)) = (g_Sw_eqFroTxS_0 y0 y1 y2).bt (fun (y2:Int) => (hw_eqFroTxS_0 y0 y1 y2)) (xw_eqFroTxS_0 y0 y1) := by kernel_rfl
theorem kw_eqFroTxS_1:OrcOk Ew_eqFroTxS Ow_eqFroTxS_1 lsw_eqFroTxS 1 := orc_add kw_eqFroTxS_0 (fun n p hp h ex h' ho => by
 obtain ⟨b,c⟩ := p
 obtain ⟨xt,h1,h2⟩ := ho
 have h1:Ow_eqFroTxS_1 b h = some (true,xt) := h1
 unfold Ow_eqFroTxS_1 at h1
 split at h1
 ·injection h1 with h1
  injection h1 with e1 e2
  subst e2
  have hc:c = cw_eqFroTxS_0 := mw_eqFroTxS_0 _ hp rfl
  subst hc
  right
  rename_i y0 y1 y2
  have key := LT_step kw_eqFroTxS_0 hp (fun q hq => loopsAll_in _ _ _ _ hp hq) (fun (y2:Int) => (hw_eqFroTxS_0 y0 y1 y2)) (xw_eqFroTxS_0 y0 y1) (g_Sw_eqFroTxS_0 y0 y1) (fun x => by first | exact bw_eqFroTxS_0 y0 y1 x) n (x := y2) (okO_some e1)
  have hx:∀ r,XT.sel (.br (isL r) (.leaf .ret [(.T 4,.t (.val false [.bool (getL r)]))]) (.leaf (.exit 0) [(.T 4,.t (.val false [.undef]))])) = xw_eqFroTxS_0 y0 y1 r := fun r => by first | rfl | rcases r with r | r <;> rfl | rcases r with r | r | r <;> rfl | rcases r with r | r | r | r <;> rfl
  have h3 := (hx (valO (g_Lw_eqFroTxS_0 y0 y1 y2))).symm.trans h2
  have e3 := congrArg Prod.fst h3
  have e4 := congrArg Prod.snd h3
  simp only at e3 e4
  rw [← e3,← e4]
  exact key
 ·exact .inl ⟨xt,h1,h2⟩)
def g_Aw_eqFroTxS (a0:tL1) (a1:tL1):Bool := (a0.length:Int) != (a1.length:Int) || okO (g_Lw_eqFroTxS_0 a0 a1 (0:Int))
def g_Vw_eqFroTxS_0 (a0:tL1) (a1:tL1):Bool := bif (a0.length:Int) != (a1.length:Int) then false else bif isL (valO (g_Lw_eqFroTxS_0 a0 a1 (0:Int))) then getL (valO (g_Lw_eqFroTxS_0 a0 a1 (0:Int))) else true
def Fw_eqFroTxS:FSem := fun ys => match ys with
 | [.val false [.sl .any 73 (.pair (.int .i64) (.pair (.pair (.int .i64) (.pair (.int .i64) (.pair (.int .i64) (.pair (.int .i64) (.pair (.int .i64) (.pair (.int .i64) (.int .i64))))))) (.pair .bool (.pair (.sl 3 (.int .i64)) (.sl 3 (.int .i64)))))) a0],.val false [.sl .any 73 (.pair (.int .i64) (.pair (.pair (.int .i64) (.pair (.int .i64) (.pair (.int .i64) (.pair (.int .i64) (.pair (.int .i64) (.pair (.int .i64) (.int .i64))))))) (.pair .bool (.pair (.sl 3 (.int .i64)) (.sl 3 (.int .i64)))))) a1]] => some ((g_Aw_eqFroTxS a0 a1),.val false [.bool (g_Vw_eqFroTxS_0 a0 a1)],[])
 | _ => none
theorem vw_eqFroTxS (a0:tL1) (a1:tL1):collapseH .std Ew_eqFroTxS Ow_eqFroTxS_1 (execFn Ew_eqFroTxS Tryz.f43 msw_eqFroTxS [.val false [.sl .any 73 (.pair (.int .i64) (.pair (.pair (.int .i64) (.pair (.int .i64) (.pair (.int .i64) (.pair (.int .i64) (.pair (.int .i64) (.pair (.int .i64) (.int .i64))))))) (.pair .bool (.pair (.sl 3 (.int .i64)) (.sl 3 (.int .i64)))))) a0],.val false [.sl .any 73 (.pair (.int .i64) (.pair (.pair (.int .i64) (.pair (.int .i64) (.pair (.int .i64) (.pair (.int .i64) (.pair (.int .i64) (.pair (.int .i64) (.int .i64))))))) (.pair .bool (.pair (.sl 3 (.int .i64)) (.sl 3 (.int .i64)))))) a1]]) = some ((g_Aw_eqFroTxS a0 a1),.val false [.bool (g_Vw_eqFroTxS_0 a0 a1)],[]) := by kernel_rfl
theorem sw_eqFroTxS:Sound Tryz.prog 43 msw_eqFroTxS Fw_eqFroTxS := by
 refine fn_gen goodw_eqFroTxS (by kernel_rfl) .std (fn := Tryz.f43) (c := (Tryz.f43.body.getD .skip)) (o := Ow_eqFroTxS_1) (k := 1) (by kernel_rfl) (by kernel_rfl) (by kernel_rfl) (by kernel_rfl) (by decide) kw_eqFroTxS_1 ?_
 intro ys r outs h
 unfold Fw_eqFroTxS at h
 split at h
 ·exact (vw_eqFroTxS _ _).trans h
 ·cases h
def Ew_eqStoWrite:Env where
 tt := mkTI Tryz.prog
 fn := fun f => match f with
  | 142 => some (msw_eqIntS,FSem.wk msw_eqIntS Fw_eqIntS)
  | _ => none
 bxf := fun _ => none
 mv := []
 keep := fun _ => []
 keepB := fun _ => []
 keepX := fun _ => []
 keepXB := fun _ => []
theorem goodFw_eqStoWrite:∀ f ms F,Ew_eqStoWrite.fn f = some (ms,F) → Sound Tryz.prog f ms F := fun f ms F h => by
 unfold Ew_eqStoWrite at h
 dsimp only at h
 split at h
 ·exact gF sw_eqIntS h
 ·cases h
theorem goodw_eqStoWrite:Good Tryz.prog Ew_eqStoWrite := ⟨rfl,goodFw_eqStoWrite,fun f ms F h => by cases h⟩
def Ow_eqStoWrite_0:Orc := fun _ _ => none
def msw_eqStoWrite:List PM := [.rd,.rd]
def lsw_eqStoWrite:List (Nat×Code) := loopsAll 0 (Tryz.f180.body.getD .skip)
theorem kw_eqStoWrite_0:OrcOk Ew_eqStoWrite Ow_eqStoWrite_0 lsw_eqStoWrite 0 := orcOk_none
def g_Aw_eqStoWrite (a0:ByteArray) (a1:Bool) (a2:List Int) (a3:ByteArray) (a4:Bool) (a5:List Int):Bool := !ByteArray.toList a0 == ByteArray.toList a3 || (!a1 == a4 || g_Aw_eqIntS a2 a5)
def g_Vw_eqStoWrite_0 (a0:ByteArray) (a1:Bool) (a2:List Int) (a3:ByteArray) (a4:Bool) (a5:List Int):Bool := bif !ByteArray.toList a0 == ByteArray.toList a3 then false else bif !a1 == a4 then false else bif !g_Vw_eqIntS_0 a2 a5 then false else true
def Fw_eqStoWrite:FSem := fun ys => match ys with
 | [.val true [.str a0,.bool a1,.sl .any 3 (.int .i64) a2],.val true [.str a3,.bool a4,.sl .any 3 (.int .i64) a5]] => some ((g_Aw_eqStoWrite a0 a1 a2 a3 a4 a5),.val false [.bool (g_Vw_eqStoWrite_0 a0 a1 a2 a3 a4 a5)],[])
 | _ => none
theorem vw_eqStoWrite (a0:ByteArray) (a1:Bool) (a2:List Int) (a3:ByteArray) (a4:Bool) (a5:List Int):collapseH .std Ew_eqStoWrite Ow_eqStoWrite_0 (execFn Ew_eqStoWrite Tryz.f180 msw_eqStoWrite [.val true [.str a0,.bool a1,.sl .any 3 (.int .i64) a2],.val true [.str a3,.bool a4,.sl .any 3 (.int .i64) a5]]) = some ((g_Aw_eqStoWrite a0 a1 a2 a3 a4 a5),.val false [.bool (g_Vw_eqStoWrite_0 a0 a1 a2 a3 a4 a5)],[]) := by kernel_rfl
theorem sw_eqStoWrite:Sound Tryz.prog 180 msw_eqStoWrite Fw_eqStoWrite := by
 refine fn_gen goodw_eqStoWrite (by kernel_rfl) .std (fn := Tryz.f180) (c := (Tryz.f180.body.getD .skip)) (o := Ow_eqStoWrite_0) (k := 0) (by kernel_rfl) (by kernel_rfl) (by kernel_rfl) (by kernel_rfl) (by decide) kw_eqStoWrite_0 ?_
 intro ys r outs h
 unfold Fw_eqStoWrite at h
 split at h
 ·exact (vw_eqStoWrite _ _ _ _ _ _).trans h
 ·cases h
def Ew_eqStoWriteS:Env where
 tt := mkTI Tryz.prog
 fn := fun f => match f with
  | 180 => some (msw_eqStoWrite,FSem.wk msw_eqStoWrite Fw_eqStoWrite)
  | _ => none
 bxf := fun _ => none
 mv := []
 keep := fun b => match b with
  | 0 => [(0,false),(1,false),(5,false)]
  | _ => []
 keepB := fun b => match b with
  | 0 => []
  | _ => []
 keepX := fun b => match b with
  | 0 => [(4,false)]
  | _ => []
 keepXB := fun b => match b with
  | 0 => []
  | _ => []
theorem goodFw_eqStoWriteS:∀ f ms F,Ew_eqStoWriteS.fn f = some (ms,F) → Sound Tryz.prog f ms F := fun f ms F h => by
 unfold Ew_eqStoWriteS at h
 dsimp only at h
 split at h
 ·exact gF sw_eqStoWrite h
 ·cases h
theorem goodw_eqStoWriteS:Good Tryz.prog Ew_eqStoWriteS := ⟨rfl,goodFw_eqStoWriteS,fun f ms F h => by cases h⟩
def Ow_eqStoWriteS_0:Orc := fun _ _ => none
def msw_eqStoWriteS:List PM := [.rd,.rd]
def lsw_eqStoWriteS:List (Nat×Code) := loopsAll 0 (Tryz.f167.body.getD .skip)
def cw_eqStoWriteS_0:Code := (loopOf 0 (Tryz.f167.body.getD .skip)).getD .skip
theorem lseqw_eqStoWriteS:lsw_eqStoWriteS = [(0,cw_eqStoWriteS_0)] := by kernel_rfl
theorem mw_eqStoWriteS_0:∀ p,p ∈ lsw_eqStoWriteS → p.1 = 0 → p.2 = cw_eqStoWriteS_0 := by
 intro p hp
 rw [lseqw_eqStoWriteS] at hp
 simp only [List.mem_cons,List.not_mem_nil,or_false] at hp
 subst hp; simp
theorem kw_eqStoWriteS_0:OrcOk Ew_eqStoWriteS Ow_eqStoWriteS_0 lsw_eqStoWriteS 0 := orcOk_none
def hw_eqStoWriteS_0 (y0:tL2) (y1:tL2) (y2:Int):List (Pl×LV) := [(.T 0,.t (.val false [.sl .any 155 (.pair .str (.pair .bool (.sl 3 (.int .i64)))) y0])),(.T 1,.t (.val false [.sl .any 155 (.pair .str (.pair .bool (.sl 3 (.int .i64)))) y1])),(.T 5,.t (.val false [.int .i64 y2]))]
def g_Sw_eqStoWriteS_0 (y0:tL2) (y1:tL2):(Int) → RT (Int) ((Bool) ⊕ (Unit))
 | y2 => .br (true) (.br (decide (y2 < (y0.length:Int))) (.br (decide (0 ≤ y2 ∧ y2 < (y0.length:Int))) (.br (decide (0 ≤ y2 ∧ y2 < (y1.length:Int))) (.br (g_Aw_eqStoWrite (at_ yT2 y0 (Int.toNat y2)).1 (at_ yT2 y0 (Int.toNat y2)).2.1 (at_ yT2 y0 (Int.toNat y2)).2.2 (at_ yT2 y1 (Int.toNat y2)).1 (at_ yT2 y1 (Int.toNat y2)).2.1 (at_ yT2 y1 (Int.toNat y2)).2.2) (.br (!g_Vw_eqStoWrite_0 (at_ yT2 y0 (Int.toNat y2)).1 (at_ yT2 y0 (Int.toNat y2)).2.1 (at_ yT2 y0 (Int.toNat y2)).2.2 (at_ yT2 y1 (Int.toNat y2)).1 (at_ yT2 y1 (Int.toNat y2)).2.1 (at_ yT2 y1 (Int.toNat y2)).2.2) (.out (.inl false)) (.br (true) (.go (IntKind.i64.wrap (y2 + 1))) .bad)) .bad) .bad) .bad) (.out (.inr (())))) .bad
def g_Lw_eqStoWriteS_0 (y0:tL2) (y1:tL2) (x:Int):Option ((Bool) ⊕ (Unit)) := loopO (g_Sw_eqStoWriteS_0 y0 y1) x
def xw_eqStoWriteS_0 (y0:tL2) (y1:tL2):((Bool) ⊕ (Unit)) → Ex×List (Pl×LV) := fun
 | .inl r => (.ret,[(.T 4,.t (.val false [.bool r]))])
 | .inr (r) => (.exit 0,[(.T 4,.t (.val false [.undef]))])
def Ow_eqStoWriteS_1:Orc := fun b h => match b,h with
 | 0,[(.T 0,.t (.val false [.sl .any 155 (.pair .str (.pair .bool (.sl 3 (.int .i64)))) y0])),(.T 1,.t (.val false [.sl .any 155 (.pair .str (.pair .bool (.sl 3 (.int .i64)))) y1])),(.T 5,.t (.val false [.int .i64 y2]))] => some (okO (g_Lw_eqStoWriteS_0 y0 y1 y2),(.br (isL (valO (g_Lw_eqStoWriteS_0 y0 y1 y2))) (.leaf .ret [(.T 4,.t (.val false [.bool (getL (valO (g_Lw_eqStoWriteS_0 y0 y1 y2)))]))]) (.leaf (.exit 0) [(.T 4,.t (.val false [.undef]))])))
 | b,h => Ow_eqStoWriteS_0 b h
theorem bw_eqStoWriteS_0 (y0:tL2) (y1:tL2) (y2:Int):Tr.bt Ew_eqStoWriteS Ow_eqStoWriteS_0 (exec Ew_eqStoWriteS 0 cw_eqStoWriteS_0 (St.of (hw_eqStoWriteS_0 y0 y1 y2)) (leafRd Ew_eqStoWriteS 0)) = (g_Sw_eqStoWriteS_0 y0 y1 y2).bt (fun (y2:Int) => (hw_eqStoWriteS_0 y0 y1 y2)) (xw_eqStoWriteS_0 y0 y1) := by kernel_rfl
theorem kw_eqStoWriteS_1:OrcOk Ew_eqStoWriteS Ow_eqStoWriteS_1 lsw_eqStoWriteS 1 := orc_add kw_eqStoWriteS_0 (fun n p hp h ex h' ho => by
 obtain ⟨b,c⟩ := p
 obtain ⟨xt,h1,h2⟩ := ho
 have h1:Ow_eqStoWriteS_1 b h = some (true,xt) := h1
 unfold Ow_eqStoWriteS_1 at h1
 split at h1
 ·injection h1 with h1
  injection h1 with e1 e2
  subst e2
  have hc:c = cw_eqStoWriteS_0 := mw_eqStoWriteS_0 _ hp rfl
  subst hc
  right
  rename_i y0 y1 y2
  have key := LT_step kw_eqStoWriteS_0 hp (fun q hq => loopsAll_in _ _ _ _ hp hq) (fun (y2:Int) => (hw_eqStoWriteS_0 y0 y1 y2)) (xw_eqStoWriteS_0 y0 y1) (g_Sw_eqStoWriteS_0 y0 y1) (fun x => by first | exact bw_eqStoWriteS_0 y0 y1 x) n (x := y2) (okO_some e1)
  have hx:∀ r,XT.sel (.br (isL r) (.leaf .ret [(.T 4,.t (.val false [.bool (getL r)]))]) (.leaf (.exit 0) [(.T 4,.t (.val false [.undef]))])) = xw_eqStoWriteS_0 y0 y1 r := fun r => by first | rfl | rcases r with r | r <;> rfl | rcases r with r | r | r <;> rfl | rcases r with r | r | r | r <;> rfl
  have h3 := (hx (valO (g_Lw_eqStoWriteS_0 y0 y1 y2))).symm.trans h2
  have e3 := congrArg Prod.fst h3
  have e4 := congrArg Prod.snd h3
  simp only at e3 e4
  rw [← e3,← e4]
  exact key
 ·exact .inl ⟨xt,h1,h2⟩)
def g_Aw_eqStoWriteS (a0:tL2) (a1:tL2):Bool := (a0.length:Int) != (a1.length:Int) || okO (g_Lw_eqStoWriteS_0 a0 a1 (0:Int))
def g_Vw_eqStoWriteS_0 (a0:tL2) (a1:tL2):Bool := bif (a0.length:Int) != (a1.length:Int) then false else bif isL (valO (g_Lw_eqStoWriteS_0 a0 a1 (0:Int))) then getL (valO (g_Lw_eqStoWriteS_0 a0 a1 (0:Int))) else true
def Fw_eqStoWriteS:FSem := fun ys => match ys with
 | [.val false [.sl .any 155 (.pair .str (.pair .bool (.sl 3 (.int .i64)))) a0],.val false [.sl .any 155 (.pair .str (.pair .bool (.sl 3 (.int .i64)))) a1]] => some ((g_Aw_eqStoWriteS a0 a1),.val false [.bool (g_Vw_eqStoWriteS_0 a0 a1)],[])
 | _ => none
theorem vw_eqStoWriteS (a0:tL2) (a1:tL2):collapseH .std Ew_eqStoWriteS Ow_eqStoWriteS_1 (execFn Ew_eqStoWriteS Tryz.f167 msw_eqStoWriteS [.val false [.sl .any 155 (.pair .str (.pair .bool (.sl 3 (.int .i64)))) a0],.val false [.sl .any 155 (.pair .str (.pair .bool (.sl 3 (.int .i64)))) a1]]) = some ((g_Aw_eqStoWriteS a0 a1),.val false [.bool (g_Vw_eqStoWriteS_0 a0 a1)],[]) := by kernel_rfl
theorem sw_eqStoWriteS:Sound Tryz.prog 167 msw_eqStoWriteS Fw_eqStoWriteS := by
 refine fn_gen goodw_eqStoWriteS (by kernel_rfl) .std (fn := Tryz.f167) (c := (Tryz.f167.body.getD .skip)) (o := Ow_eqStoWriteS_1) (k := 1) (by kernel_rfl) (by kernel_rfl) (by kernel_rfl) (by kernel_rfl) (by decide) kw_eqStoWriteS_1 ?_
 intro ys r outs h
 unfold Fw_eqStoWriteS at h
 split at h
 ·exact (vw_eqStoWriteS _ _).trans h
 ·cases h
def Ew_eqStringS:Env where
 tt := mkTI Tryz.prog
 fn := fun _ => none
 bxf := fun _ => none
 mv := []
 keep := fun b => match b with
  | 0 => [(0,false),(1,false),(5,false)]
  | _ => []
 keepB := fun b => match b with
  | 0 => []
  | _ => []
 keepX := fun b => match b with
  | 0 => [(4,false)]
  | _ => []
 keepXB := fun b => match b with
  | 0 => []
  | _ => []
theorem goodFw_eqStringS:∀ f ms F,Ew_eqStringS.fn f = some (ms,F) → Sound Tryz.prog f ms F := fun f ms F h => by cases h
theorem goodw_eqStringS:Good Tryz.prog Ew_eqStringS := ⟨rfl,goodFw_eqStringS,fun f ms F h => by cases h⟩
def Ow_eqStringS_0:Orc := fun _ _ => none
def msw_eqStringS:List PM := [.rd,.rd]
def lsw_eqStringS:List (Nat×Code) := loopsAll 0 (Tryz.f166.body.getD .skip)
def cw_eqStringS_0:Code := (loopOf 0 (Tryz.f166.body.getD .skip)).getD .skip
theorem lseqw_eqStringS:lsw_eqStringS = [(0,cw_eqStringS_0)] := by kernel_rfl
theorem mw_eqStringS_0:∀ p,p ∈ lsw_eqStringS → p.1 = 0 → p.2 = cw_eqStringS_0 := by
 intro p hp
 rw [lseqw_eqStringS] at hp
 simp only [List.mem_cons,List.not_mem_nil,or_false] at hp
 subst hp; simp
theorem kw_eqStringS_0:OrcOk Ew_eqStringS Ow_eqStringS_0 lsw_eqStringS 0 := orcOk_none
def hw_eqStringS_0 (y0:List ByteArray) (y1:List ByteArray) (y2:Int):List (Pl×LV) := [(.T 0,.t (.val false [.sl .any 9 .str y0])),(.T 1,.t (.val false [.sl .any 9 .str y1])),(.T 5,.t (.val false [.int .i64 y2]))]
def g_Sw_eqStringS_0 (y0:List ByteArray) (y1:List ByteArray):(Int) → RT (Int) ((Bool) ⊕ (Unit))
 | y2 => .br (true) (.br (decide (y2 < (y0.length:Int))) (.br (decide (0 ≤ y2 ∧ y2 < (y0.length:Int))) (.br (decide (0 ≤ y2 ∧ y2 < (y1.length:Int))) (.br (true) (.br (!ByteArray.toList (at_ Ty.str y0 (Int.toNat y2)) == ByteArray.toList (at_ Ty.str y1 (Int.toNat y2))) (.out (.inl false)) (.br (true) (.go (IntKind.i64.wrap (y2 + 1))) .bad)) .bad) .bad) .bad) (.out (.inr (())))) .bad
def g_Lw_eqStringS_0 (y0:List ByteArray) (y1:List ByteArray) (x:Int):Option ((Bool) ⊕ (Unit)) := loopO (g_Sw_eqStringS_0 y0 y1) x
def xw_eqStringS_0 (y0:List ByteArray) (y1:List ByteArray):((Bool) ⊕ (Unit)) → Ex×List (Pl×LV) := fun
 | .inl r => (.ret,[(.T 4,.t (.val false [.bool r]))])
 | .inr (r) => (.exit 0,[(.T 4,.t (.val false [.undef]))])
def Ow_eqStringS_1:Orc := fun b h => match b,h with
 | 0,[(.T 0,.t (.val false [.sl .any 9 .str y0])),(.T 1,.t (.val false [.sl .any 9 .str y1])),(.T 5,.t (.val false [.int .i64 y2]))] => some (okO (g_Lw_eqStringS_0 y0 y1 y2),(.br (isL (valO (g_Lw_eqStringS_0 y0 y1 y2))) (.leaf .ret [(.T 4,.t (.val false [.bool (getL (valO (g_Lw_eqStringS_0 y0 y1 y2)))]))]) (.leaf (.exit 0) [(.T 4,.t (.val false [.undef]))])))
 | b,h => Ow_eqStringS_0 b h
theorem bw_eqStringS_0 (y0:List ByteArray) (y1:List ByteArray) (y2:Int):Tr.bt Ew_eqStringS Ow_eqStringS_0 (exec Ew_eqStringS 0 cw_eqStringS_0 (St.of (hw_eqStringS_0 y0 y1 y2)) (leafRd Ew_eqStringS 0)) = (g_Sw_eqStringS_0 y0 y1 y2).bt (fun (y2:Int) => (hw_eqStringS_0 y0 y1 y2)) (xw_eqStringS_0 y0 y1) := by kernel_rfl
theorem kw_eqStringS_1:OrcOk Ew_eqStringS Ow_eqStringS_1 lsw_eqStringS 1 := orc_add kw_eqStringS_0 (fun n p hp h ex h' ho => by
 obtain ⟨b,c⟩ := p
 obtain ⟨xt,h1,h2⟩ := ho
 have h1:Ow_eqStringS_1 b h = some (true,xt) := h1
 unfold Ow_eqStringS_1 at h1
 split at h1
 ·injection h1 with h1
  injection h1 with e1 e2
  subst e2
  have hc:c = cw_eqStringS_0 := mw_eqStringS_0 _ hp rfl
  subst hc
  right
  rename_i y0 y1 y2
  have key := LT_step kw_eqStringS_0 hp (fun q hq => loopsAll_in _ _ _ _ hp hq) (fun (y2:Int) => (hw_eqStringS_0 y0 y1 y2)) (xw_eqStringS_0 y0 y1) (g_Sw_eqStringS_0 y0 y1) (fun x => by first | exact bw_eqStringS_0 y0 y1 x) n (x := y2) (okO_some e1)
  have hx:∀ r,XT.sel (.br (isL r) (.leaf .ret [(.T 4,.t (.val false [.bool (getL r)]))]) (.leaf (.exit 0) [(.T 4,.t (.val false [.undef]))])) = xw_eqStringS_0 y0 y1 r := fun r => by first | rfl | rcases r with r | r <;> rfl | rcases r with r | r | r <;> rfl | rcases r with r | r | r | r <;> rfl
  have h3 := (hx (valO (g_Lw_eqStringS_0 y0 y1 y2))).symm.trans h2
  have e3 := congrArg Prod.fst h3
  have e4 := congrArg Prod.snd h3
  simp only at e3 e4
  rw [← e3,← e4]
  exact key
 ·exact .inl ⟨xt,h1,h2⟩)
def g_Aw_eqStringS (a0:List ByteArray) (a1:List ByteArray):Bool := (a0.length:Int) != (a1.length:Int) || okO (g_Lw_eqStringS_0 a0 a1 (0:Int))
def g_Vw_eqStringS_0 (a0:List ByteArray) (a1:List ByteArray):Bool := bif (a0.length:Int) != (a1.length:Int) then false else bif isL (valO (g_Lw_eqStringS_0 a0 a1 (0:Int))) then getL (valO (g_Lw_eqStringS_0 a0 a1 (0:Int))) else true
def Fw_eqStringS:FSem := fun ys => match ys with
 | [.val false [.sl .any 9 .str a0],.val false [.sl .any 9 .str a1]] => some ((g_Aw_eqStringS a0 a1),.val false [.bool (g_Vw_eqStringS_0 a0 a1)],[])
 | _ => none
theorem vw_eqStringS (a0:List ByteArray) (a1:List ByteArray):collapseH .std Ew_eqStringS Ow_eqStringS_1 (execFn Ew_eqStringS Tryz.f166 msw_eqStringS [.val false [.sl .any 9 .str a0],.val false [.sl .any 9 .str a1]]) = some ((g_Aw_eqStringS a0 a1),.val false [.bool (g_Vw_eqStringS_0 a0 a1)],[]) := by kernel_rfl
theorem sw_eqStringS:Sound Tryz.prog 166 msw_eqStringS Fw_eqStringS := by
 refine fn_gen goodw_eqStringS (by kernel_rfl) .std (fn := Tryz.f166) (c := (Tryz.f166.body.getD .skip)) (o := Ow_eqStringS_1) (k := 1) (by kernel_rfl) (by kernel_rfl) (by kernel_rfl) (by kernel_rfl) (by decide) kw_eqStringS_1 ?_
 intro ys r outs h
 unfold Fw_eqStringS at h
 split at h
 ·exact (vw_eqStringS _ _).trans h
 ·cases h
def Ew_eqLogNote:Env where
 tt := mkTI Tryz.prog
 fn := fun f => match f with
  | 166 => some (msw_eqStringS,FSem.wk msw_eqStringS Fw_eqStringS)
  | 167 => some (msw_eqStoWriteS,FSem.wk msw_eqStoWriteS Fw_eqStoWriteS)
  | _ => none
 bxf := fun _ => none
 mv := []
 keep := fun _ => []
 keepB := fun _ => []
 keepX := fun _ => []
 keepXB := fun _ => []
theorem goodFw_eqLogNote:∀ f ms F,Ew_eqLogNote.fn f = some (ms,F) → Sound Tryz.prog f ms F := fun f ms F h => by
 unfold Ew_eqLogNote at h
 dsimp only at h
 split at h
 ·exact gF sw_eqStringS h
 ·exact gF sw_eqStoWriteS h
 ·cases h
theorem goodw_eqLogNote:Good Tryz.prog Ew_eqLogNote := ⟨rfl,goodFw_eqLogNote,fun f ms F h => by cases h⟩
def Ow_eqLogNote_0:Orc := fun _ _ => none
def msw_eqLogNote:List PM := [.rd,.rd]
def lsw_eqLogNote:List (Nat×Code) := loopsAll 0 (Tryz.f141.body.getD .skip)
theorem kw_eqLogNote_0:OrcOk Ew_eqLogNote Ow_eqLogNote_0 lsw_eqLogNote 0 := orcOk_none
def g_Aw_eqLogNote (a0:Int) (a1:Int) (a2:List ByteArray) (a3:tL2) (a4:Int) (a5:Int) (a6:List ByteArray) (a7:tL2):Bool := a0 != a4 || (a1 != a5 || g_Aw_eqStringS a2 a6&&(!g_Vw_eqStringS_0 a2 a6 || g_Aw_eqStoWriteS a3 a7))
def g_Vw_eqLogNote_0 (a0:Int) (a1:Int) (a2:List ByteArray) (a3:tL2) (a4:Int) (a5:Int) (a6:List ByteArray) (a7:tL2):Bool := bif a0 != a4 then false else bif a1 != a5 then false else bif !g_Vw_eqStringS_0 a2 a6 then false else bif !g_Vw_eqStoWriteS_0 a3 a7 then false else true
def Fw_eqLogNote:FSem := fun ys => match ys with
 | [.val true [.int .i64 a0,.int .i64 a1,.sl .any 9 .str a2,.sl .any 155 (.pair .str (.pair .bool (.sl 3 (.int .i64)))) a3],.val true [.int .i64 a4,.int .i64 a5,.sl .any 9 .str a6,.sl .any 155 (.pair .str (.pair .bool (.sl 3 (.int .i64)))) a7]] => some ((g_Aw_eqLogNote a0 a1 a2 a3 a4 a5 a6 a7),.val false [.bool (g_Vw_eqLogNote_0 a0 a1 a2 a3 a4 a5 a6 a7)],[])
 | _ => none
theorem vw_eqLogNote (a0:Int) (a1:Int) (a2:List ByteArray) (a3:tL2) (a4:Int) (a5:Int) (a6:List ByteArray) (a7:tL2):collapseH .std Ew_eqLogNote Ow_eqLogNote_0 (execFn Ew_eqLogNote Tryz.f141 msw_eqLogNote [.val true [.int .i64 a0,.int .i64 a1,.sl .any 9 .str a2,.sl .any 155 (.pair .str (.pair .bool (.sl 3 (.int .i64)))) a3],.val true [.int .i64 a4,.int .i64 a5,.sl .any 9 .str a6,.sl .any 155 (.pair .str (.pair .bool (.sl 3 (.int .i64)))) a7]]) = some ((g_Aw_eqLogNote a0 a1 a2 a3 a4 a5 a6 a7),.val false [.bool (g_Vw_eqLogNote_0 a0 a1 a2 a3 a4 a5 a6 a7)],[]) := by kernel_rfl
theorem sw_eqLogNote:Sound Tryz.prog 141 msw_eqLogNote Fw_eqLogNote := by
 refine fn_gen goodw_eqLogNote (by kernel_rfl) .std (fn := Tryz.f141) (c := (Tryz.f141.body.getD .skip)) (o := Ow_eqLogNote_0) (k := 0) (by kernel_rfl) (by kernel_rfl) (by kernel_rfl) (by kernel_rfl) (by decide) kw_eqLogNote_0 ?_
 intro ys r outs h
 unfold Fw_eqLogNote at h
 split at h
 ·exact (vw_eqLogNote _ _ _ _ _ _ _ _).trans h
 ·cases h
def Ew_eqLogNoteS:Env where
 tt := mkTI Tryz.prog
 fn := fun f => match f with
  | 141 => some (msw_eqLogNote,FSem.wk msw_eqLogNote Fw_eqLogNote)
  | _ => none
 bxf := fun _ => none
 mv := []
 keep := fun b => match b with
  | 0 => [(0,false),(1,false),(5,false)]
  | _ => []
 keepB := fun b => match b with
  | 0 => []
  | _ => []
 keepX := fun b => match b with
  | 0 => [(4,false)]
  | _ => []
 keepXB := fun b => match b with
  | 0 => []
  | _ => []
theorem goodFw_eqLogNoteS:∀ f ms F,Ew_eqLogNoteS.fn f = some (ms,F) → Sound Tryz.prog f ms F := fun f ms F h => by
 unfold Ew_eqLogNoteS at h
 dsimp only at h
 split at h
 ·exact gF sw_eqLogNote h
 ·cases h
theorem goodw_eqLogNoteS:Good Tryz.prog Ew_eqLogNoteS := ⟨rfl,goodFw_eqLogNoteS,fun f ms F h => by cases h⟩
def Ow_eqLogNoteS_0:Orc := fun _ _ => none
def msw_eqLogNoteS:List PM := [.rd,.rd]
def lsw_eqLogNoteS:List (Nat×Code) := loopsAll 0 (Tryz.f103.body.getD .skip)
def cw_eqLogNoteS_0:Code := (loopOf 0 (Tryz.f103.body.getD .skip)).getD .skip
theorem lseqw_eqLogNoteS:lsw_eqLogNoteS = [(0,cw_eqLogNoteS_0)] := by kernel_rfl
theorem mw_eqLogNoteS_0:∀ p,p ∈ lsw_eqLogNoteS → p.1 = 0 → p.2 = cw_eqLogNoteS_0 := by
 intro p hp
 rw [lseqw_eqLogNoteS] at hp
 simp only [List.mem_cons,List.not_mem_nil,or_false] at hp
 subst hp; simp
theorem kw_eqLogNoteS_0:OrcOk Ew_eqLogNoteS Ow_eqLogNoteS_0 lsw_eqLogNoteS 0 := orcOk_none
def hw_eqLogNoteS_0 (y0:tL0) (y1:tL0) (y2:Int):List (Pl×LV) := [(.T 0,.t (.val false [.sl .any 92 (.pair (.int .i64) (.pair (.int .i64) (.pair (.sl 9 .str) (.sl 155 (.pair .str (.pair .bool (.sl 3 (.int .i64)))))))) y0])),(.T 1,.t (.val false [.sl .any 92 (.pair (.int .i64) (.pair (.int .i64) (.pair (.sl 9 .str) (.sl 155 (.pair .str (.pair .bool (.sl 3 (.int .i64)))))))) y1])),(.T 5,.t (.val false [.int .i64 y2]))]
def g_Sw_eqLogNoteS_0 (y0:tL0) (y1:tL0):(Int) → RT (Int) ((Bool) ⊕ (Unit))
 | y2 => .br (true) (.br (decide (y2 < (y0.length:Int))) (.br (decide (0 ≤ y2 ∧ y2 < (y0.length:Int))) (.br (decide (0 ≤ y2 ∧ y2 < (y1.length:Int))) (.br (g_Aw_eqLogNote (at_ yT1 y0 (Int.toNat y2)).1 (at_ yT1 y0 (Int.toNat y2)).2.1 (at_ yT1 y0 (Int.toNat y2)).2.2.1 (at_ yT1 y0 (Int.toNat y2)).2.2.2 (at_ yT1 y1 (Int.toNat y2)).1 (at_ yT1 y1 (Int.toNat y2)).2.1 (at_ yT1 y1 (Int.toNat y2)).2.2.1 (at_ yT1 y1 (Int.toNat y2)).2.2.2) (.br (!g_Vw_eqLogNote_0 (at_ yT1 y0 (Int.toNat y2)).1 (at_ yT1 y0 (Int.toNat y2)).2.1 (at_ yT1 y0 (Int.toNat y2)).2.2.1 (at_ yT1 y0 (Int.toNat y2)).2.2.2 (at_ yT1 y1 (Int.toNat y2)).1 (at_ yT1 y1 (Int.toNat y2)).2.1 (at_ yT1 y1 (Int.toNat y2)).2.2.1 (at_ yT1 y1 (Int.toNat y2)).2.2.2) (.out (.inl false)) (.br (true) (.go (IntKind.i64.wrap (y2 + 1))) .bad)) .bad) .bad) .bad) (.out (.inr (())))) .bad
def g_Lw_eqLogNoteS_0 (y0:tL0) (y1:tL0) (x:Int):Option ((Bool) ⊕ (Unit)) := loopO (g_Sw_eqLogNoteS_0 y0 y1) x
def xw_eqLogNoteS_0 (y0:tL0) (y1:tL0):((Bool) ⊕ (Unit)) → Ex×List (Pl×LV) := fun
 | .inl r => (.ret,[(.T 4,.t (.val false [.bool r]))])
 | .inr (r) => (.exit 0,[(.T 4,.t (.val false [.undef]))])
def Ow_eqLogNoteS_1:Orc := fun b h => match b,h with
 | 0,[(.T 0,.t (.val false [.sl .any 92 (.pair (.int .i64) (.pair (.int .i64) (.pair (.sl 9 .str) (.sl 155 (.pair .str (.pair .bool (.sl 3 (.int .i64)))))))) y0])),(.T 1,.t (.val false [.sl .any 92 (.pair (.int .i64) (.pair (.int .i64) (.pair (.sl 9 .str) (.sl 155 (.pair .str (.pair .bool (.sl 3 (.int .i64)))))))) y1])),(.T 5,.t (.val false [.int .i64 y2]))] => some (okO (g_Lw_eqLogNoteS_0 y0 y1 y2),(.br (isL (valO (g_Lw_eqLogNoteS_0 y0 y1 y2))) (.leaf .ret [(.T 4,.t (.val false [.bool (getL (valO (g_Lw_eqLogNoteS_0 y0 y1 y2)))]))]) (.leaf (.exit 0) [(.T 4,.t (.val false [.undef]))])))
 | b,h => Ow_eqLogNoteS_0 b h
theorem bw_eqLogNoteS_0 (y0:tL0) (y1:tL0) (y2:Int):Tr.bt Ew_eqLogNoteS Ow_eqLogNoteS_0 (exec Ew_eqLogNoteS 0 cw_eqLogNoteS_0 (St.of (hw_eqLogNoteS_0 y0 y1 y2)) (leafRd Ew_eqLogNoteS 0)) = (g_Sw_eqLogNoteS_0 y0 y1 y2).bt (fun (y2:Int) => (hw_eqLogNoteS_0 y0 y1 y2)) (xw_eqLogNoteS_0 y0 y1) := by kernel_rfl
theorem kw_eqLogNoteS_1:OrcOk Ew_eqLogNoteS Ow_eqLogNoteS_1 lsw_eqLogNoteS 1 := orc_add kw_eqLogNoteS_0 (fun n p hp h ex h' ho => by
 obtain ⟨b,c⟩ := p
 obtain ⟨xt,h1,h2⟩ := ho
 have h1:Ow_eqLogNoteS_1 b h = some (true,xt) := h1
 unfold Ow_eqLogNoteS_1 at h1
 split at h1
 ·injection h1 with h1
  injection h1 with e1 e2
  subst e2
  have hc:c = cw_eqLogNoteS_0 := mw_eqLogNoteS_0 _ hp rfl
  subst hc
  right
  rename_i y0 y1 y2
  have key := LT_step kw_eqLogNoteS_0 hp (fun q hq => loopsAll_in _ _ _ _ hp hq) (fun (y2:Int) => (hw_eqLogNoteS_0 y0 y1 y2)) (xw_eqLogNoteS_0 y0 y1) (g_Sw_eqLogNoteS_0 y0 y1) (fun x => by first | exact bw_eqLogNoteS_0 y0 y1 x) n (x := y2) (okO_some e1)
  have hx:∀ r,XT.sel (.br (isL r) (.leaf .ret [(.T 4,.t (.val false [.bool (getL r)]))]) (.leaf (.exit 0) [(.T 4,.t (.val false [.undef]))])) = xw_eqLogNoteS_0 y0 y1 r := fun r => by first | rfl | rcases r with r | r <;> rfl | rcases r with r | r | r <;> rfl | rcases r with r | r | r | r <;> rfl
  have h3 := (hx (valO (g_Lw_eqLogNoteS_0 y0 y1 y2))).symm.trans h2
  have e3 := congrArg Prod.fst h3
  have e4 := congrArg Prod.snd h3
  simp only at e3 e4
  rw [← e3,← e4]
  exact key
 ·exact .inl ⟨xt,h1,h2⟩)
def g_Aw_eqLogNoteS (a0:tL0) (a1:tL0):Bool := (a0.length:Int) != (a1.length:Int) || okO (g_Lw_eqLogNoteS_0 a0 a1 (0:Int))
def g_Vw_eqLogNoteS_0 (a0:tL0) (a1:tL0):Bool := bif (a0.length:Int) != (a1.length:Int) then false else bif isL (valO (g_Lw_eqLogNoteS_0 a0 a1 (0:Int))) then getL (valO (g_Lw_eqLogNoteS_0 a0 a1 (0:Int))) else true
def Fw_eqLogNoteS:FSem := fun ys => match ys with
 | [.val false [.sl .any 92 (.pair (.int .i64) (.pair (.int .i64) (.pair (.sl 9 .str) (.sl 155 (.pair .str (.pair .bool (.sl 3 (.int .i64)))))))) a0],.val false [.sl .any 92 (.pair (.int .i64) (.pair (.int .i64) (.pair (.sl 9 .str) (.sl 155 (.pair .str (.pair .bool (.sl 3 (.int .i64)))))))) a1]] => some ((g_Aw_eqLogNoteS a0 a1),.val false [.bool (g_Vw_eqLogNoteS_0 a0 a1)],[])
 | _ => none
theorem vw_eqLogNoteS (a0:tL0) (a1:tL0):collapseH .std Ew_eqLogNoteS Ow_eqLogNoteS_1 (execFn Ew_eqLogNoteS Tryz.f103 msw_eqLogNoteS [.val false [.sl .any 92 (.pair (.int .i64) (.pair (.int .i64) (.pair (.sl 9 .str) (.sl 155 (.pair .str (.pair .bool (.sl 3 (.int .i64)))))))) a0],.val false [.sl .any 92 (.pair (.int .i64) (.pair (.int .i64) (.pair (.sl 9 .str) (.sl 155 (.pair .str (.pair .bool (.sl 3 (.int .i64)))))))) a1]]) = some ((g_Aw_eqLogNoteS a0 a1),.val false [.bool (g_Vw_eqLogNoteS_0 a0 a1)],[]) := by kernel_rfl
theorem sw_eqLogNoteS:Sound Tryz.prog 103 msw_eqLogNoteS Fw_eqLogNoteS := by
 refine fn_gen goodw_eqLogNoteS (by kernel_rfl) .std (fn := Tryz.f103) (c := (Tryz.f103.body.getD .skip)) (o := Ow_eqLogNoteS_1) (k := 1) (by kernel_rfl) (by kernel_rfl) (by kernel_rfl) (by kernel_rfl) (by decide) kw_eqLogNoteS_1 ?_
 intro ys r outs h
 unfold Fw_eqLogNoteS at h
 split at h
 ·exact (vw_eqLogNoteS _ _).trans h
 ·cases h
def Ew_eqLogDisk:Env where
 tt := mkTI Tryz.prog
 fn := fun f => match f with
  | 103 => some (msw_eqLogNoteS,FSem.wk msw_eqLogNoteS Fw_eqLogNoteS)
  | _ => none
 bxf := fun _ => none
 mv := []
 keep := fun _ => []
 keepB := fun _ => []
 keepX := fun _ => []
 keepXB := fun _ => []
theorem goodFw_eqLogDisk:∀ f ms F,Ew_eqLogDisk.fn f = some (ms,F) → Sound Tryz.prog f ms F := fun f ms F h => by
 unfold Ew_eqLogDisk at h
 dsimp only at h
 split at h
 ·exact gF sw_eqLogNoteS h
 ·cases h
theorem goodw_eqLogDisk:Good Tryz.prog Ew_eqLogDisk := ⟨rfl,goodFw_eqLogDisk,fun f ms F h => by cases h⟩
def Ow_eqLogDisk_0:Orc := fun _ _ => none
def msw_eqLogDisk:List PM := [.rd,.rd]
def lsw_eqLogDisk:List (Nat×Code) := loopsAll 0 (Tryz.f42.body.getD .skip)
theorem kw_eqLogDisk_0:OrcOk Ew_eqLogDisk Ow_eqLogDisk_0 lsw_eqLogDisk 0 := orcOk_none
def g_Aw_eqLogDisk (a0:tL0) (a1:Int) (a2:tL0) (a3:Int):Bool := g_Aw_eqLogNoteS a0 a2&&(!g_Vw_eqLogNoteS_0 a0 a2 || true)
def g_Vw_eqLogDisk_0 (a0:tL0) (a1:Int) (a2:tL0) (a3:Int):Bool := bif !g_Vw_eqLogNoteS_0 a0 a2 then false else bif a1 != a3 then false else true
def Fw_eqLogDisk:FSem := fun ys => match ys with
 | [.val true [.sl .any 92 (.pair (.int .i64) (.pair (.int .i64) (.pair (.sl 9 .str) (.sl 155 (.pair .str (.pair .bool (.sl 3 (.int .i64)))))))) a0,.int .i64 a1],.val true [.sl .any 92 (.pair (.int .i64) (.pair (.int .i64) (.pair (.sl 9 .str) (.sl 155 (.pair .str (.pair .bool (.sl 3 (.int .i64)))))))) a2,.int .i64 a3]] => some ((g_Aw_eqLogDisk a0 a1 a2 a3),.val false [.bool (g_Vw_eqLogDisk_0 a0 a1 a2 a3)],[])
 | _ => none
theorem vw_eqLogDisk (a0:tL0) (a1:Int) (a2:tL0) (a3:Int):collapseH .std Ew_eqLogDisk Ow_eqLogDisk_0 (execFn Ew_eqLogDisk Tryz.f42 msw_eqLogDisk [.val true [.sl .any 92 (.pair (.int .i64) (.pair (.int .i64) (.pair (.sl 9 .str) (.sl 155 (.pair .str (.pair .bool (.sl 3 (.int .i64)))))))) a0,.int .i64 a1],.val true [.sl .any 92 (.pair (.int .i64) (.pair (.int .i64) (.pair (.sl 9 .str) (.sl 155 (.pair .str (.pair .bool (.sl 3 (.int .i64)))))))) a2,.int .i64 a3]]) = some ((g_Aw_eqLogDisk a0 a1 a2 a3),.val false [.bool (g_Vw_eqLogDisk_0 a0 a1 a2 a3)],[]) := by kernel_rfl
theorem sw_eqLogDisk:Sound Tryz.prog 42 msw_eqLogDisk Fw_eqLogDisk := by
 refine fn_gen goodw_eqLogDisk (by kernel_rfl) .std (fn := Tryz.f42) (c := (Tryz.f42.body.getD .skip)) (o := Ow_eqLogDisk_0) (k := 0) (by kernel_rfl) (by kernel_rfl) (by kernel_rfl) (by kernel_rfl) (by decide) kw_eqLogDisk_0 ?_
 intro ys r outs h
 unfold Fw_eqLogDisk at h
 split at h
 ·exact (vw_eqLogDisk _ _ _ _).trans h
 ·cases h
def Ew_eqFroState:Env where
 tt := mkTI Tryz.prog
 fn := fun f => match f with
  | 42 => some (msw_eqLogDisk,FSem.wk msw_eqLogDisk Fw_eqLogDisk)
  | 43 => some (msw_eqFroTxS,FSem.wk msw_eqFroTxS Fw_eqFroTxS)
  | _ => none
 bxf := fun _ => none
 mv := []
 keep := fun _ => []
 keepB := fun _ => []
 keepX := fun _ => []
 keepXB := fun _ => []
theorem goodFw_eqFroState:∀ f ms F,Ew_eqFroState.fn f = some (ms,F) → Sound Tryz.prog f ms F := fun f ms F h => by
 unfold Ew_eqFroState at h
 dsimp only at h
 split at h
 ·exact gF sw_eqLogDisk h
 ·exact gF sw_eqFroTxS h
 ·cases h
theorem goodw_eqFroState:Good Tryz.prog Ew_eqFroState := ⟨rfl,goodFw_eqFroState,fun f ms F h => by cases h⟩
def Ow_eqFroState_0:Orc := fun _ _ => none
def msw_eqFroState:List PM := [.rd,.rd]
def lsw_eqFroState:List (Nat×Code) := loopsAll 0 (Tryz.f12.body.getD .skip)
theorem kw_eqFroState_0:OrcOk Ew_eqFroState Ow_eqFroState_0 lsw_eqFroState 0 := orcOk_none
def g_Aw_eqFroState (a0:tL0) (a1:Int) (a2:tL1) (a3:tL0) (a4:Int) (a5:tL1):Bool := g_Aw_eqLogDisk a0 a1 a3 a4&&(!g_Vw_eqLogDisk_0 a0 a1 a3 a4 || g_Aw_eqFroTxS a2 a5)
def g_Vw_eqFroState_0 (a0:tL0) (a1:Int) (a2:tL1) (a3:tL0) (a4:Int) (a5:tL1):Bool := bif !g_Vw_eqLogDisk_0 a0 a1 a3 a4 then false else bif !g_Vw_eqFroTxS_0 a2 a5 then false else true
def Fw_eqFroState:FSem := fun ys => match ys with
 | [.val true [.sl .any 92 (.pair (.int .i64) (.pair (.int .i64) (.pair (.sl 9 .str) (.sl 155 (.pair .str (.pair .bool (.sl 3 (.int .i64)))))))) a0,.int .i64 a1,.sl .any 73 (.pair (.int .i64) (.pair (.pair (.int .i64) (.pair (.int .i64) (.pair (.int .i64) (.pair (.int .i64) (.pair (.int .i64) (.pair (.int .i64) (.int .i64))))))) (.pair .bool (.pair (.sl 3 (.int .i64)) (.sl 3 (.int .i64)))))) a2],.val true [.sl .any 92 (.pair (.int .i64) (.pair (.int .i64) (.pair (.sl 9 .str) (.sl 155 (.pair .str (.pair .bool (.sl 3 (.int .i64)))))))) a3,.int .i64 a4,.sl .any 73 (.pair (.int .i64) (.pair (.pair (.int .i64) (.pair (.int .i64) (.pair (.int .i64) (.pair (.int .i64) (.pair (.int .i64) (.pair (.int .i64) (.int .i64))))))) (.pair .bool (.pair (.sl 3 (.int .i64)) (.sl 3 (.int .i64)))))) a5]] => some ((g_Aw_eqFroState a0 a1 a2 a3 a4 a5),.val false [.bool (g_Vw_eqFroState_0 a0 a1 a2 a3 a4 a5)],[])
 | _ => none
theorem vw_eqFroState (a0:tL0) (a1:Int) (a2:tL1) (a3:tL0) (a4:Int) (a5:tL1):collapseH .std Ew_eqFroState Ow_eqFroState_0 (execFn Ew_eqFroState Tryz.f12 msw_eqFroState [.val true [.sl .any 92 (.pair (.int .i64) (.pair (.int .i64) (.pair (.sl 9 .str) (.sl 155 (.pair .str (.pair .bool (.sl 3 (.int .i64)))))))) a0,.int .i64 a1,.sl .any 73 (.pair (.int .i64) (.pair (.pair (.int .i64) (.pair (.int .i64) (.pair (.int .i64) (.pair (.int .i64) (.pair (.int .i64) (.pair (.int .i64) (.int .i64))))))) (.pair .bool (.pair (.sl 3 (.int .i64)) (.sl 3 (.int .i64)))))) a2],.val true [.sl .any 92 (.pair (.int .i64) (.pair (.int .i64) (.pair (.sl 9 .str) (.sl 155 (.pair .str (.pair .bool (.sl 3 (.int .i64)))))))) a3,.int .i64 a4,.sl .any 73 (.pair (.int .i64) (.pair (.pair (.int .i64) (.pair (.int .i64) (.pair (.int .i64) (.pair (.int .i64) (.pair (.int .i64) (.pair (.int .i64) (.int .i64))))))) (.pair .bool (.pair (.sl 3 (.int .i64)) (.sl 3 (.int .i64)))))) a5]]) = some ((g_Aw_eqFroState a0 a1 a2 a3 a4 a5),.val false [.bool (g_Vw_eqFroState_0 a0 a1 a2 a3 a4 a5)],[]) := by kernel_rfl
theorem sw_eqFroState:Sound Tryz.prog 12 msw_eqFroState Fw_eqFroState := by
 refine fn_gen goodw_eqFroState (by kernel_rfl) .std (fn := Tryz.f12) (c := (Tryz.f12.body.getD .skip)) (o := Ow_eqFroState_0) (k := 0) (by kernel_rfl) (by kernel_rfl) (by kernel_rfl) (by kernel_rfl) (by decide) kw_eqFroState_0 ?_
 intro ys r outs h
 unfold Fw_eqFroState at h
 split at h
 ·exact (vw_eqFroState _ _ _ _ _ _).trans h
 ·cases h
def Ew_heldIntS:Env where
 tt := mkTI Tryz.prog
 fn := fun _ => none
 bxf := fun _ => none
 mv := []
 keep := fun b => match b with
  | 0 => [(0,false),(1,false),(5,false)]
  | _ => []
 keepB := fun b => match b with
  | 0 => []
  | _ => []
 keepX := fun b => match b with
  | 0 => [(1,false),(4,false)]
  | _ => []
 keepXB := fun b => match b with
  | 0 => []
  | _ => []
theorem goodFw_heldIntS:∀ f ms F,Ew_heldIntS.fn f = some (ms,F) → Sound Tryz.prog f ms F := fun f ms F h => by cases h
theorem goodw_heldIntS:Good Tryz.prog Ew_heldIntS := ⟨rfl,goodFw_heldIntS,fun f ms F h => by cases h⟩
def Ow_heldIntS_0:Orc := fun _ _ => none
def msw_heldIntS:List PM := [.rd,.own]
def lsw_heldIntS:List (Nat×Code) := loopsAll 0 (Tryz.f113.body.getD .skip)
def cw_heldIntS_0:Code := (loopOf 0 (Tryz.f113.body.getD .skip)).getD .skip
theorem lseqw_heldIntS:lsw_heldIntS = [(0,cw_heldIntS_0)] := by kernel_rfl
theorem mw_heldIntS_0:∀ p,p ∈ lsw_heldIntS → p.1 = 0 → p.2 = cw_heldIntS_0 := by
 intro p hp
 rw [lseqw_heldIntS] at hp
 simp only [List.mem_cons,List.not_mem_nil,or_false] at hp
 subst hp; simp
theorem kw_heldIntS_0:OrcOk Ew_heldIntS Ow_heldIntS_0 lsw_heldIntS 0 := orcOk_none
def hw_heldIntS_0 (y0:List Int) (y1:Int) (y2:Int):List (Pl×LV) := [(.T 0,.t (.val false [.sl .any 3 (.int .i64) y0])),(.T 1,.t (.val false [.int .i64 y1])),(.T 5,.t (.val false [.int .i64 y2]))]
def g_Sw_heldIntS_0 (y0:List Int):(Int×Int) → RT (Int×Int) ((Int×Int) ⊕ (Int))
 | (y1,y2) => .br (true) (.br (decide (y2 < (y0.length:Int))) (.br (decide (0 ≤ y2 ∧ y2 < (y0.length:Int))) (.br (true) (.br (at_ (.int .i64) y0 (Int.toNat y2) != y1) (.out (.inl ((y1,(-1:Int))))) (.br (true) (.br (true) (.go ((IntKind.i64.wrap (y1 + 1),IntKind.i64.wrap (y2 + 1)))) .bad) .bad)) .bad) .bad) (.out (.inr (y1)))) .bad
def g_Lw_heldIntS_0 (y0:List Int) (x:Int×Int):Option ((Int×Int) ⊕ (Int)) := loopO (g_Sw_heldIntS_0 y0) x
def xw_heldIntS_0 (y0:List Int):((Int×Int) ⊕ (Int)) → Ex×List (Pl×LV) := fun
 | .inl r => (.ret,[(.T 1,.t (.val false [.int .i64 r.1])),(.T 4,.t (.val false [.int .i64 r.2]))])
 | .inr (r) => (.exit 0,[(.T 1,.t (.val false [.int .i64 r])),(.T 4,.t (.val false [.undef]))])
def Ow_heldIntS_1:Orc := fun b h => match b,h with
 | 0,[(.T 0,.t (.val false [.sl .any 3 (.int .i64) y0])),(.T 1,.t (.val false [.int .i64 y1])),(.T 5,.t (.val false [.int .i64 y2]))] => some (okO (g_Lw_heldIntS_0 y0 (y1,y2)),(.br (isL (valO (g_Lw_heldIntS_0 y0 (y1,y2)))) (.leaf .ret [(.T 1,.t (.val false [.int .i64 (getL (valO (g_Lw_heldIntS_0 y0 (y1,y2)))).1])),(.T 4,.t (.val false [.int .i64 (getL (valO (g_Lw_heldIntS_0 y0 (y1,y2)))).2]))]) (.leaf (.exit 0) [(.T 1,.t (.val false [.int .i64 (getR (valO (g_Lw_heldIntS_0 y0 (y1,y2))))])),(.T 4,.t (.val false [.undef]))])))
 | b,h => Ow_heldIntS_0 b h
theorem bw_heldIntS_0 (y0:List Int) (y1:Int) (y2:Int):Tr.bt Ew_heldIntS Ow_heldIntS_0 (exec Ew_heldIntS 0 cw_heldIntS_0 (St.of (hw_heldIntS_0 y0 y1 y2)) (leafRd Ew_heldIntS 0)) = (g_Sw_heldIntS_0 y0 (y1,y2)).bt (fun ((y1,y2):Int×Int) => (hw_heldIntS_0 y0 y1 y2)) (xw_heldIntS_0 y0) := by kernel_rfl
theorem kw_heldIntS_1:OrcOk Ew_heldIntS Ow_heldIntS_1 lsw_heldIntS 1 := orc_add kw_heldIntS_0 (fun n p hp h ex h' ho => by
 obtain ⟨b,c⟩ := p
 obtain ⟨xt,h1,h2⟩ := ho
 have h1:Ow_heldIntS_1 b h = some (true,xt) := h1
 unfold Ow_heldIntS_1 at h1
 split at h1
 ·injection h1 with h1
  injection h1 with e1 e2
  subst e2
  have hc:c = cw_heldIntS_0 := mw_heldIntS_0 _ hp rfl
  subst hc
  right
  rename_i y0 y1 y2
  have key := LT_step kw_heldIntS_0 hp (fun q hq => loopsAll_in _ _ _ _ hp hq) (fun ((y1,y2):Int×Int) => (hw_heldIntS_0 y0 y1 y2)) (xw_heldIntS_0 y0) (g_Sw_heldIntS_0 y0) (fun x => by first | exact bw_heldIntS_0 y0 x.1 x.2) n (x := (y1,y2)) (okO_some e1)
  have hx:∀ r,XT.sel (.br (isL r) (.leaf .ret [(.T 1,.t (.val false [.int .i64 (getL r).1])),(.T 4,.t (.val false [.int .i64 (getL r).2]))]) (.leaf (.exit 0) [(.T 1,.t (.val false [.int .i64 (getR r)])),(.T 4,.t (.val false [.undef]))])) = xw_heldIntS_0 y0 r := fun r => by first | rfl | rcases r with r | r <;> rfl | rcases r with r | r | r <;> rfl | rcases r with r | r | r | r <;> rfl
  have h3 := (hx (valO (g_Lw_heldIntS_0 y0 (y1,y2)))).symm.trans h2
  have e3 := congrArg Prod.fst h3
  have e4 := congrArg Prod.snd h3
  simp only at e3 e4
  rw [← e3,← e4]
  exact key
 ·exact .inl ⟨xt,h1,h2⟩)
def g_Aw_heldIntS (a0:List Int) (a1:Int):Bool := okO (g_Lw_heldIntS_0 a0 (a1,(0:Int)))
def g_Vw_heldIntS_0 (a0:List Int) (a1:Int):Int := bif isL (valO (g_Lw_heldIntS_0 a0 (a1,(0:Int)))) then (getL (valO (g_Lw_heldIntS_0 a0 (a1,(0:Int))))).2 else getR (valO (g_Lw_heldIntS_0 a0 (a1,(0:Int))))
def Fw_heldIntS:FSem := fun ys => match ys with
 | [.val false [.sl .any 3 (.int .i64) a0],.val false [.int .i64 a1]] => some ((g_Aw_heldIntS a0 a1),.val false [.int .i64 (g_Vw_heldIntS_0 a0 a1)],[])
 | _ => none
theorem vw_heldIntS (a0:List Int) (a1:Int):collapseH .std Ew_heldIntS Ow_heldIntS_1 (execFn Ew_heldIntS Tryz.f113 msw_heldIntS [.val false [.sl .any 3 (.int .i64) a0],.val false [.int .i64 a1]]) = some ((g_Aw_heldIntS a0 a1),.val false [.int .i64 (g_Vw_heldIntS_0 a0 a1)],[]) := by kernel_rfl
theorem sw_heldIntS:Sound Tryz.prog 113 msw_heldIntS Fw_heldIntS := by
 refine fn_gen goodw_heldIntS (by kernel_rfl) .std (fn := Tryz.f113) (c := (Tryz.f113.body.getD .skip)) (o := Ow_heldIntS_1) (k := 1) (by kernel_rfl) (by kernel_rfl) (by kernel_rfl) (by kernel_rfl) (by decide) kw_heldIntS_1 ?_
 intro ys r outs h
 unfold Fw_heldIntS at h
 split at h
 ·exact (vw_heldIntS _ _).trans h
 ·cases h
def Ew_heldFroTxS:Env where
 tt := mkTI Tryz.prog
 fn := fun f => match f with
  | 113 => some (msw_heldIntS,FSem.wk msw_heldIntS Fw_heldIntS)
  | _ => none
 bxf := fun _ => none
 mv := []
 keep := fun b => match b with
  | 0 => [(0,false),(1,false),(5,false)]
  | _ => []
 keepB := fun b => match b with
  | 0 => []
  | _ => []
 keepX := fun b => match b with
  | 0 => [(1,false),(4,false)]
  | _ => []
 keepXB := fun b => match b with
  | 0 => []
  | _ => []
theorem goodFw_heldFroTxS:∀ f ms F,Ew_heldFroTxS.fn f = some (ms,F) → Sound Tryz.prog f ms F := fun f ms F h => by
 unfold Ew_heldFroTxS at h
 dsimp only at h
 split at h
 ·exact gF sw_heldIntS h
 ·cases h
theorem goodw_heldFroTxS:Good Tryz.prog Ew_heldFroTxS := ⟨rfl,goodFw_heldFroTxS,fun f ms F h => by cases h⟩
def Ow_heldFroTxS_0:Orc := fun _ _ => none
def msw_heldFroTxS:List PM := [.rd,.own]
def lsw_heldFroTxS:List (Nat×Code) := loopsAll 0 (Tryz.f54.body.getD .skip)
def cw_heldFroTxS_0:Code := (loopOf 0 (Tryz.f54.body.getD .skip)).getD .skip
theorem lseqw_heldFroTxS:lsw_heldFroTxS = [(0,cw_heldFroTxS_0)] := by kernel_rfl
theorem mw_heldFroTxS_0:∀ p,p ∈ lsw_heldFroTxS → p.1 = 0 → p.2 = cw_heldFroTxS_0 := by
 intro p hp
 rw [lseqw_heldFroTxS] at hp
 simp only [List.mem_cons,List.not_mem_nil,or_false] at hp
 subst hp; simp
theorem kw_heldFroTxS_0:OrcOk Ew_heldFroTxS Ow_heldFroTxS_0 lsw_heldFroTxS 0 := orcOk_none
def hw_heldFroTxS_0 (y0:tL1) (y1:Int) (y2:Int):List (Pl×LV) := [(.T 0,.t (.val false [.sl .any 73 (.pair (.int .i64) (.pair (.pair (.int .i64) (.pair (.int .i64) (.pair (.int .i64) (.pair (.int .i64) (.pair (.int .i64) (.pair (.int .i64) (.int .i64))))))) (.pair .bool (.pair (.sl 3 (.int .i64)) (.sl 3 (.int .i64)))))) y0])),(.T 1,.t (.val false [.int .i64 y1])),(.T 5,.t (.val false [.int .i64 y2]))]
def g_Sw_heldFroTxS_0 (y0:tL1):(Int×Int) → RT (Int×Int) ((Int×Int) ⊕ (Int))
 | (y1,y2) => .br (true) (.br (decide (y2 < (y0.length:Int))) (.br (decide (0 ≤ y2 ∧ y2 < (y0.length:Int))) (.br (true) (.br ((at_ yT0 y0 (Int.toNat y2)).1 != y1) (.out (.inl ((y1,(-1:Int))))) (.br (true) (.br (decide (0 ≤ y2 ∧ y2 < (y0.length:Int))) (.br (true) (.br ((at_ yT0 y0 (Int.toNat y2)).2.1.1 != IntKind.i64.wrap (y1 + 1)) (.out (.inl ((IntKind.i64.wrap (y1 + 1),(-1:Int))))) (.br (true) (.br (decide (0 ≤ y2 ∧ y2 < (y0.length:Int))) (.br (true) (.br ((at_ yT0 y0 (Int.toNat y2)).2.1.2.1 != IntKind.i64.wrap (IntKind.i64.wrap (y1 + 1) + 1)) (.out (.inl ((IntKind.i64.wrap (IntKind.i64.wrap (y1 + 1) + 1),(-1:Int))))) (.br (true) (.br (decide (0 ≤ y2 ∧ y2 < (y0.length:Int))) (.br (true) (.br ((at_ yT0 y0 (Int.toNat y2)).2.1.2.2.1 != IntKind.i64.wrap (IntKind.i64.wrap (IntKind.i64.wrap (y1 + 1) + 1) + 1)) (.out (.inl ((IntKind.i64.wrap (IntKind.i64.wrap (IntKind.i64.wrap (y1 + 1) + 1) + 1),(-1:Int))))) (.br (true) (.br (decide (0 ≤ y2 ∧ y2 < (y0.length:Int))) (.br (true) (.br ((at_ yT0 y0 (Int.toNat y2)).2.1.2.2.2.1 != IntKind.i64.wrap (IntKind.i64.wrap (IntKind.i64.wrap (IntKind.i64.wrap (y1 + 1) + 1) + 1) + 1)) (.out (.inl ((IntKind.i64.wrap (IntKind.i64.wrap (IntKind.i64.wrap (IntKind.i64.wrap (y1 + 1) + 1) + 1) + 1),(-1:Int))))) (.br (true) (.br (decide (0 ≤ y2 ∧ y2 < (y0.length:Int))) (.br (true) (.br ((at_ yT0 y0 (Int.toNat y2)).2.1.2.2.2.2.1 != IntKind.i64.wrap (IntKind.i64.wrap (IntKind.i64.wrap (IntKind.i64.wrap (IntKind.i64.wrap (y1 + 1) + 1) + 1) + 1) + 1)) (.out (.inl ((IntKind.i64.wrap (IntKind.i64.wrap (IntKind.i64.wrap (IntKind.i64.wrap (IntKind.i64.wrap (y1 + 1) + 1) + 1) + 1) + 1),(-1:Int))))) (.br (true) (.br (decide (0 ≤ y2 ∧ y2 < (y0.length:Int))) (.br (true) (.br ((at_ yT0 y0 (Int.toNat y2)).2.1.2.2.2.2.2.1 != IntKind.i64.wrap (IntKind.i64.wrap (IntKind.i64.wrap (IntKind.i64.wrap (IntKind.i64.wrap (IntKind.i64.wrap (y1 + 1) + 1) + 1) + 1) + 1) + 1)) (.out (.inl ((IntKind.i64.wrap (IntKind.i64.wrap (IntKind.i64.wrap (IntKind.i64.wrap (IntKind.i64.wrap (IntKind.i64.wrap (y1 + 1) + 1) + 1) + 1) + 1) + 1),(-1:Int))))) (.br (true) (.br (decide (0 ≤ y2 ∧ y2 < (y0.length:Int))) (.br (true) (.br ((at_ yT0 y0 (Int.toNat y2)).2.1.2.2.2.2.2.2 != IntKind.i64.wrap (IntKind.i64.wrap (IntKind.i64.wrap (IntKind.i64.wrap (IntKind.i64.wrap (IntKind.i64.wrap (IntKind.i64.wrap (y1 + 1) + 1) + 1) + 1) + 1) + 1) + 1)) (.out (.inl ((IntKind.i64.wrap (IntKind.i64.wrap (IntKind.i64.wrap (IntKind.i64.wrap (IntKind.i64.wrap (IntKind.i64.wrap (IntKind.i64.wrap (y1 + 1) + 1) + 1) + 1) + 1) + 1) + 1),(-1:Int))))) (.br (true) (.br (decide (0 ≤ y2 ∧ y2 < (y0.length:Int))) (.br (true) (.br (true) (.br (!(at_ yT0 y0 (Int.toNat y2)).2.2.1 == (Int.tmod (IntKind.i64.wrap (IntKind.i64.wrap (IntKind.i64.wrap (IntKind.i64.wrap (IntKind.i64.wrap (IntKind.i64.wrap (IntKind.i64.wrap (IntKind.i64.wrap (y1 + 1) + 1) + 1) + 1) + 1) + 1) + 1) + 1)) (3:Int) == (0:Int))) (.out (.inl ((IntKind.i64.wrap (IntKind.i64.wrap (IntKind.i64.wrap (IntKind.i64.wrap (IntKind.i64.wrap (IntKind.i64.wrap (IntKind.i64.wrap (IntKind.i64.wrap (y1 + 1) + 1) + 1) + 1) + 1) + 1) + 1) + 1),(-1:Int))))) (.br (true) (.br (decide (0 ≤ y2 ∧ y2 < (y0.length:Int))) (.br (g_Aw_heldIntS (at_ yT0 y0 (Int.toNat y2)).2.2.2.1 (IntKind.i64.wrap (IntKind.i64.wrap (IntKind.i64.wrap (IntKind.i64.wrap (IntKind.i64.wrap (IntKind.i64.wrap (IntKind.i64.wrap (IntKind.i64.wrap (IntKind.i64.wrap (y1 + 1) + 1) + 1) + 1) + 1) + 1) + 1) + 1) + 1))) (.br (true) (.br (decide (g_Vw_heldIntS_0 (at_ yT0 y0 (Int.toNat y2)).2.2.2.1 (IntKind.i64.wrap (IntKind.i64.wrap (IntKind.i64.wrap (IntKind.i64.wrap (IntKind.i64.wrap (IntKind.i64.wrap (IntKind.i64.wrap (IntKind.i64.wrap (IntKind.i64.wrap (y1 + 1) + 1) + 1) + 1) + 1) + 1) + 1) + 1) + 1)) < 0)) (.out (.inl ((g_Vw_heldIntS_0 (at_ yT0 y0 (Int.toNat y2)).2.2.2.1 (IntKind.i64.wrap (IntKind.i64.wrap (IntKind.i64.wrap (IntKind.i64.wrap (IntKind.i64.wrap (IntKind.i64.wrap (IntKind.i64.wrap (IntKind.i64.wrap (IntKind.i64.wrap (y1 + 1) + 1) + 1) + 1) + 1) + 1) + 1) + 1) + 1)),(-1:Int))))) (.br (decide (0 ≤ y2 ∧ y2 < (y0.length:Int))) (.br (g_Aw_heldIntS (at_ yT0 y0 (Int.toNat y2)).2.2.2.2 (g_Vw_heldIntS_0 (at_ yT0 y0 (Int.toNat y2)).2.2.2.1 (IntKind.i64.wrap (IntKind.i64.wrap (IntKind.i64.wrap (IntKind.i64.wrap (IntKind.i64.wrap (IntKind.i64.wrap (IntKind.i64.wrap (IntKind.i64.wrap (IntKind.i64.wrap (y1 + 1) + 1) + 1) + 1) + 1) + 1) + 1) + 1) + 1)))) (.br (true) (.br (decide (g_Vw_heldIntS_0 (at_ yT0 y0 (Int.toNat y2)).2.2.2.2 (g_Vw_heldIntS_0 (at_ yT0 y0 (Int.toNat y2)).2.2.2.1 (IntKind.i64.wrap (IntKind.i64.wrap (IntKind.i64.wrap (IntKind.i64.wrap (IntKind.i64.wrap (IntKind.i64.wrap (IntKind.i64.wrap (IntKind.i64.wrap (IntKind.i64.wrap (y1 + 1) + 1) + 1) + 1) + 1) + 1) + 1) + 1) + 1))) < 0)) (.out (.inl ((g_Vw_heldIntS_0 (at_ yT0 y0 (Int.toNat y2)).2.2.2.2 (g_Vw_heldIntS_0 (at_ yT0 y0 (Int.toNat y2)).2.2.2.1 (IntKind.i64.wrap (IntKind.i64.wrap (IntKind.i64.wrap (IntKind.i64.wrap (IntKind.i64.wrap (IntKind.i64.wrap (IntKind.i64.wrap (IntKind.i64.wrap (IntKind.i64.wrap (y1 + 1) + 1) + 1) + 1) + 1) + 1) + 1) + 1) + 1))),(-1:Int))))) (.br (true) (.go ((g_Vw_heldIntS_0 (at_ yT0 y0 (Int.toNat y2)).2.2.2.2 (g_Vw_heldIntS_0 (at_ yT0 y0 (Int.toNat y2)).2.2.2.1 (IntKind.i64.wrap (IntKind.i64.wrap (IntKind.i64.wrap (IntKind.i64.wrap (IntKind.i64.wrap (IntKind.i64.wrap (IntKind.i64.wrap (IntKind.i64.wrap (IntKind.i64.wrap (y1 + 1) + 1) + 1) + 1) + 1) + 1) + 1) + 1) + 1))),IntKind.i64.wrap (y2 + 1)))) .bad)) .bad) .bad) .bad)) .bad) .bad) .bad) .bad)) .bad) .bad) .bad) .bad)) .bad) .bad) .bad)) .bad) .bad) .bad)) .bad) .bad) .bad)) .bad) .bad) .bad)) .bad) .bad) .bad)) .bad) .bad) .bad)) .bad) .bad) .bad)) .bad) .bad) (.out (.inr (y1)))) .bad
def g_Lw_heldFroTxS_0 (y0:tL1) (x:Int×Int):Option ((Int×Int) ⊕ (Int)) := loopO (g_Sw_heldFroTxS_0 y0) x
def xw_heldFroTxS_0 (y0:tL1):((Int×Int) ⊕ (Int)) → Ex×List (Pl×LV) := fun
 | .inl r => (.ret,[(.T 1,.t (.val false [.int .i64 r.1])),(.T 4,.t (.val false [.int .i64 r.2]))])
 | .inr (r) => (.exit 0,[(.T 1,.t (.val false [.int .i64 r])),(.T 4,.t (.val false [.undef]))])
def Ow_heldFroTxS_1:Orc := fun b h => match b,h with
 | 0,[(.T 0,.t (.val false [.sl .any 73 (.pair (.int .i64) (.pair (.pair (.int .i64) (.pair (.int .i64) (.pair (.int .i64) (.pair (.int .i64) (.pair (.int .i64) (.pair (.int .i64) (.int .i64))))))) (.pair .bool (.pair (.sl 3 (.int .i64)) (.sl 3 (.int .i64)))))) y0])),(.T 1,.t (.val false [.int .i64 y1])),(.T 5,.t (.val false [.int .i64 y2]))] => some (okO (g_Lw_heldFroTxS_0 y0 (y1,y2)),(.br (isL (valO (g_Lw_heldFroTxS_0 y0 (y1,y2)))) (.leaf .ret [(.T 1,.t (.val false [.int .i64 (getL (valO (g_Lw_heldFroTxS_0 y0 (y1,y2)))).1])),(.T 4,.t (.val false [.int .i64 (getL (valO (g_Lw_heldFroTxS_0 y0 (y1,y2)))).2]))]) (.leaf (.exit 0) [(.T 1,.t (.val false [.int .i64 (getR (valO (g_Lw_heldFroTxS_0 y0 (y1,y2))))])),(.T 4,.t (.val false [.undef]))])))
 | b,h => Ow_heldFroTxS_0 b h
theorem bw_heldFroTxS_0 (y0:tL1) (y1:Int) (y2:Int):Tr.bt Ew_heldFroTxS Ow_heldFroTxS_0 (exec Ew_heldFroTxS 0 cw_heldFroTxS_0 (St.of (hw_heldFroTxS_0 y0 y1 y2)) (leafRd Ew_heldFroTxS 0)) = (g_Sw_heldFroTxS_0 y0 (y1,y2)).bt (fun ((y1,y2):Int×Int) => (hw_heldFroTxS_0 y0 y1 y2)) (xw_heldFroTxS_0 y0) := by kernel_rfl
theorem kw_heldFroTxS_1:OrcOk Ew_heldFroTxS Ow_heldFroTxS_1 lsw_heldFroTxS 1 := orc_add kw_heldFroTxS_0 (fun n p hp h ex h' ho => by
 obtain ⟨b,c⟩ := p
 obtain ⟨xt,h1,h2⟩ := ho
 have h1:Ow_heldFroTxS_1 b h = some (true,xt) := h1
 unfold Ow_heldFroTxS_1 at h1
 split at h1
 ·injection h1 with h1
  injection h1 with e1 e2
  subst e2
  have hc:c = cw_heldFroTxS_0 := mw_heldFroTxS_0 _ hp rfl
  subst hc
  right
  rename_i y0 y1 y2
  have key := LT_step kw_heldFroTxS_0 hp (fun q hq => loopsAll_in _ _ _ _ hp hq) (fun ((y1,y2):Int×Int) => (hw_heldFroTxS_0 y0 y1 y2)) (xw_heldFroTxS_0 y0) (g_Sw_heldFroTxS_0 y0) (fun x => by first | exact bw_heldFroTxS_0 y0 x.1 x.2) n (x := (y1,y2)) (okO_some e1)
  have hx:∀ r,XT.sel (.br (isL r) (.leaf .ret [(.T 1,.t (.val false [.int .i64 (getL r).1])),(.T 4,.t (.val false [.int .i64 (getL r).2]))]) (.leaf (.exit 0) [(.T 1,.t (.val false [.int .i64 (getR r)])),(.T 4,.t (.val false [.undef]))])) = xw_heldFroTxS_0 y0 r := fun r => by first | rfl | rcases r with r | r <;> rfl | rcases r with r | r | r <;> rfl | rcases r with r | r | r | r <;> rfl
  have h3 := (hx (valO (g_Lw_heldFroTxS_0 y0 (y1,y2)))).symm.trans h2
  have e3 := congrArg Prod.fst h3
  have e4 := congrArg Prod.snd h3
  simp only at e3 e4
  rw [← e3,← e4]
  exact key
 ·exact .inl ⟨xt,h1,h2⟩)
def g_Aw_heldFroTxS (a0:tL1) (a1:Int):Bool := okO (g_Lw_heldFroTxS_0 a0 (a1,(0:Int)))
def g_Vw_heldFroTxS_0 (a0:tL1) (a1:Int):Int := bif isL (valO (g_Lw_heldFroTxS_0 a0 (a1,(0:Int)))) then (getL (valO (g_Lw_heldFroTxS_0 a0 (a1,(0:Int))))).2 else getR (valO (g_Lw_heldFroTxS_0 a0 (a1,(0:Int))))
def Fw_heldFroTxS:FSem := fun ys => match ys with
 | [.val false [.sl .any 73 (.pair (.int .i64) (.pair (.pair (.int .i64) (.pair (.int .i64) (.pair (.int .i64) (.pair (.int .i64) (.pair (.int .i64) (.pair (.int .i64) (.int .i64))))))) (.pair .bool (.pair (.sl 3 (.int .i64)) (.sl 3 (.int .i64)))))) a0],.val false [.int .i64 a1]] => some ((g_Aw_heldFroTxS a0 a1),.val false [.int .i64 (g_Vw_heldFroTxS_0 a0 a1)],[])
 | _ => none
theorem vw_heldFroTxS (a0:tL1) (a1:Int):collapseH .std Ew_heldFroTxS Ow_heldFroTxS_1 (execFn Ew_heldFroTxS Tryz.f54 msw_heldFroTxS [.val false [.sl .any 73 (.pair (.int .i64) (.pair (.pair (.int .i64) (.pair (.int .i64) (.pair (.int .i64) (.pair (.int .i64) (.pair (.int .i64) (.pair (.int .i64) (.int .i64))))))) (.pair .bool (.pair (.sl 3 (.int .i64)) (.sl 3 (.int .i64)))))) a0],.val false [.int .i64 a1]]) = some ((g_Aw_heldFroTxS a0 a1),.val false [.int .i64 (g_Vw_heldFroTxS_0 a0 a1)],[]) := by kernel_rfl
theorem sw_heldFroTxS:Sound Tryz.prog 54 msw_heldFroTxS Fw_heldFroTxS := by
 refine fn_gen goodw_heldFroTxS (by kernel_rfl) .std (fn := Tryz.f54) (c := (Tryz.f54.body.getD .skip)) (o := Ow_heldFroTxS_1) (k := 1) (by kernel_rfl) (by kernel_rfl) (by kernel_rfl) (by kernel_rfl) (by decide) kw_heldFroTxS_1 ?_
 intro ys r outs h
 unfold Fw_heldFroTxS at h
 split at h
 ·exact (vw_heldFroTxS _ _).trans h
 ·cases h
def Ew_markText:Env where
 tt := mkTI Tryz.prog
 fn := fun _ => none
 bxf := fun _ => none
 mv := []
 keep := fun b => match b with
  | 0 => [(0,false),(3,false)]
  | _ => []
 keepB := fun b => match b with
  | 0 => []
  | _ => []
 keepX := fun b => match b with
  | 0 => [(3,false)]
  | _ => []
 keepXB := fun b => match b with
  | 0 => []
  | _ => []
theorem goodFw_markText:∀ f ms F,Ew_markText.fn f = some (ms,F) → Sound Tryz.prog f ms F := fun f ms F h => by cases h
theorem goodw_markText:Good Tryz.prog Ew_markText := ⟨rfl,goodFw_markText,fun f ms F h => by cases h⟩
def Ow_markText_0:Orc := fun _ _ => none
def msw_markText:List PM := [.own]
def lsw_markText:List (Nat×Code) := loopsAll 0 (Tryz.f168.body.getD .skip)
def cw_markText_0:Code := (loopOf 0 (Tryz.f168.body.getD .skip)).getD .skip
theorem lseqw_markText:lsw_markText = [(0,cw_markText_0)] := by kernel_rfl
theorem mw_markText_0:∀ p,p ∈ lsw_markText → p.1 = 0 → p.2 = cw_markText_0 := by
 intro p hp
 rw [lseqw_markText] at hp
 simp only [List.mem_cons,List.not_mem_nil,or_false] at hp
 subst hp; simp
theorem kw_markText_0:OrcOk Ew_markText Ow_markText_0 lsw_markText 0 := orcOk_none
def hw_markText_0 (y0:Int) (y1:ByteArray):List (Pl×LV) := [(.T 0,.t (.val false [.int .i64 y0])),(.T 3,.t (.val false [.str y1]))]
def g_Sw_markText_0:(Int×ByteArray) → RT (Int×ByteArray) ((ByteArray))
 | (y0,y1) => .br (true) (.br (decide (y0 > 0)) (.br (true) (.br (true) (.br (decide (ByteArray.size { data := List.toArray (List.map (fun n => UInt8.ofNat (Int.toNat n)) [IntKind.wrap IntKind.u8 (IntKind.i64.wrap (48 + Int.tmod y0 (10:Int)))]) } + ByteArray.size y1 ≤ nat_lit 9223372036854775807)) (.br (true) (.go ((IntKind.i64.wrap (Int.tdiv y0 (10:Int)),{ data := List.toArray (List.map (fun n => UInt8.ofNat (Int.toNat n)) [IntKind.wrap IntKind.u8 (IntKind.i64.wrap (48 + Int.tmod y0 (10:Int)))]) } ++ y1))) .bad) .bad) .bad) .bad) (.out (y1))) .bad
def g_Lw_markText_0 (x:Int×ByteArray):Option ((ByteArray)) := loopO (g_Sw_markText_0) x
def xw_markText_0:((ByteArray)) → Ex×List (Pl×LV) := fun r => (.exit 0,[(.T 3,.t (.val false [.str r]))])
def Ow_markText_1:Orc := fun b h => match b,h with
 | 0,[(.T 0,.t (.val false [.int .i64 y0])),(.T 3,.t (.val false [.str y1]))] => some (okO (g_Lw_markText_0 (y0,y1)),(.leaf (.exit 0) [(.T 3,.t (.val false [.str (valO (g_Lw_markText_0 (y0,y1)))]))]))
 | b,h => Ow_markText_0 b h
theorem bw_markText_0 (y0:Int) (y1:ByteArray):Tr.bt Ew_markText Ow_markText_0 (exec Ew_markText 0 cw_markText_0 (St.of (hw_markText_0 y0 y1)) (leafRd Ew_markText 0)) = (g_Sw_markText_0 (y0,y1)).bt (fun ((y0,y1):Int×ByteArray) => (hw_markText_0 y0 y1)) (xw_markText_0) := by kernel_rfl
theorem kw_markText_1:OrcOk Ew_markText Ow_markText_1 lsw_markText 1 := orc_add kw_markText_0 (fun n p hp h ex h' ho => by
 obtain ⟨b,c⟩ := p
 obtain ⟨xt,h1,h2⟩ := ho
 have h1:Ow_markText_1 b h = some (true,xt) := h1
 unfold Ow_markText_1 at h1
 split at h1
 ·injection h1 with h1
  injection h1 with e1 e2
  subst e2
  have hc:c = cw_markText_0 := mw_markText_0 _ hp rfl
  subst hc
  right
  rename_i y0 y1
  have key := LT_step kw_markText_0 hp (fun q hq => loopsAll_in _ _ _ _ hp hq) (fun ((y0,y1):Int×ByteArray) => (hw_markText_0 y0 y1)) (xw_markText_0) (g_Sw_markText_0) (fun x => by first | exact bw_markText_0 x.1 x.2) n (x := (y0,y1)) (okO_some e1)
  have hx:∀ r,XT.sel (.leaf (.exit 0) [(.T 3,.t (.val false [.str r]))]) = xw_markText_0 r := fun r => by first | rfl | rcases r with r | r <;> rfl | rcases r with r | r | r <;> rfl | rcases r with r | r | r | r <;> rfl
  have h3 := (hx (valO (g_Lw_markText_0 (y0,y1)))).symm.trans h2
  have e3 := congrArg Prod.fst h3
  have e4 := congrArg Prod.snd h3
  simp only at e3 e4
  rw [← e3,← e4]
  exact key
 ·exact .inl ⟨xt,h1,h2⟩)
def g_Aw_markText (a0:Int):Bool := decide (a0 ≤ 0) || okO (g_Lw_markText_0 (a0,lit []))&&decide (nat_lit 1 + ByteArray.size (valO (g_Lw_markText_0 (a0,lit []))) ≤ nat_lit 9223372036854775807)
def g_Vw_markText_0 (a0:Int):ByteArray := bif decide (a0 ≤ 0) then lit [(109:Nat),(48:Nat)] else lit [(109:Nat)] ++ valO (g_Lw_markText_0 (a0,lit []))
def Fw_markText:FSem := fun ys => match ys with
 | [.val false [.int .i64 a0]] => some ((g_Aw_markText a0),.val false [.str (g_Vw_markText_0 a0)],[])
 | _ => none
theorem vw_markText (a0:Int):collapseH .std Ew_markText Ow_markText_1 (execFn Ew_markText Tryz.f168 msw_markText [.val false [.int .i64 a0]]) = some ((g_Aw_markText a0),.val false [.str (g_Vw_markText_0 a0)],[]) := by kernel_rfl
theorem sw_markText:Sound Tryz.prog 168 msw_markText Fw_markText := by
 refine fn_gen goodw_markText (by kernel_rfl) .std (fn := Tryz.f168) (c := (Tryz.f168.body.getD .skip)) (o := Ow_markText_1) (k := 1) (by kernel_rfl) (by kernel_rfl) (by kernel_rfl) (by kernel_rfl) (by decide) kw_markText_1 ?_
 intro ys r outs h
 unfold Fw_markText at h
 split at h
 ·exact (vw_markText _).trans h
 ·cases h
def Ew_heldStoWriteS:Env where
 tt := mkTI Tryz.prog
 fn := fun f => match f with
  | 113 => some (msw_heldIntS,FSem.wk msw_heldIntS Fw_heldIntS)
  | 168 => some (msw_markText,FSem.wk msw_markText Fw_markText)
  | _ => none
 bxf := fun _ => none
 mv := []
 keep := fun b => match b with
  | 0 => [(0,false),(1,false),(5,false)]
  | _ => []
 keepB := fun b => match b with
  | 0 => []
  | _ => []
 keepX := fun b => match b with
  | 0 => [(1,false),(4,false)]
  | _ => []
 keepXB := fun b => match b with
  | 0 => []
  | _ => []
theorem goodFw_heldStoWriteS:∀ f ms F,Ew_heldStoWriteS.fn f = some (ms,F) → Sound Tryz.prog f ms F := fun f ms F h => by
 unfold Ew_heldStoWriteS at h
 dsimp only at h
 split at h
 ·exact gF sw_heldIntS h
 ·exact gF sw_markText h
 ·cases h
theorem goodw_heldStoWriteS:Good Tryz.prog Ew_heldStoWriteS := ⟨rfl,goodFw_heldStoWriteS,fun f ms F h => by cases h⟩
def Ow_heldStoWriteS_0:Orc := fun _ _ => none
def msw_heldStoWriteS:List PM := [.rd,.own]
def lsw_heldStoWriteS:List (Nat×Code) := loopsAll 0 (Tryz.f149.body.getD .skip)
def cw_heldStoWriteS_0:Code := (loopOf 0 (Tryz.f149.body.getD .skip)).getD .skip
theorem lseqw_heldStoWriteS:lsw_heldStoWriteS = [(0,cw_heldStoWriteS_0)] := by kernel_rfl
theorem mw_heldStoWriteS_0:∀ p,p ∈ lsw_heldStoWriteS → p.1 = 0 → p.2 = cw_heldStoWriteS_0 := by
 intro p hp
 rw [lseqw_heldStoWriteS] at hp
 simp only [List.mem_cons,List.not_mem_nil,or_false] at hp
 subst hp; simp
theorem kw_heldStoWriteS_0:OrcOk Ew_heldStoWriteS Ow_heldStoWriteS_0 lsw_heldStoWriteS 0 := orcOk_none
def hw_heldStoWriteS_0 (y0:tL2) (y1:Int) (y2:Int):List (Pl×LV) := [(.T 0,.t (.val false [.sl .any 155 (.pair .str (.pair .bool (.sl 3 (.int .i64)))) y0])),(.T 1,.t (.val false [.int .i64 y1])),(.T 5,.t (.val false [.int .i64 y2]))]
def g_Sw_heldStoWriteS_0 (y0:tL2):(Int×Int) → RT (Int×Int) ((Int×Int) ⊕ (Int))
 | (y1,y2) => .br (true) (.br (decide (y2 < (y0.length:Int))) (.br (decide (0 ≤ y2 ∧ y2 < (y0.length:Int))) (.br (g_Aw_markText y1) (.br (true) (.br (!ByteArray.toList (at_ yT2 y0 (Int.toNat y2)).1 == ByteArray.toList (g_Vw_markText_0 y1)) (.out (.inl ((y1,(-1:Int))))) (.br (true) (.br (decide (0 ≤ y2 ∧ y2 < (y0.length:Int))) (.br (true) (.br (true) (.br (!(at_ yT2 y0 (Int.toNat y2)).2.1 == (Int.tmod (IntKind.i64.wrap (y1 + 1)) (3:Int) == (0:Int))) (.out (.inl ((IntKind.i64.wrap (y1 + 1),(-1:Int))))) (.br (true) (.br (decide (0 ≤ y2 ∧ y2 < (y0.length:Int))) (.br (g_Aw_heldIntS (at_ yT2 y0 (Int.toNat y2)).2.2 (IntKind.i64.wrap (IntKind.i64.wrap (y1 + 1) + 1))) (.br (true) (.br (decide (g_Vw_heldIntS_0 (at_ yT2 y0 (Int.toNat y2)).2.2 (IntKind.i64.wrap (IntKind.i64.wrap (y1 + 1) + 1)) < 0)) (.out (.inl ((g_Vw_heldIntS_0 (at_ yT2 y0 (Int.toNat y2)).2.2 (IntKind.i64.wrap (IntKind.i64.wrap (y1 + 1) + 1)),(-1:Int))))) (.br (true) (.go ((g_Vw_heldIntS_0 (at_ yT2 y0 (Int.toNat y2)).2.2 (IntKind.i64.wrap (IntKind.i64.wrap (y1 + 1) + 1)),IntKind.i64.wrap (y2 + 1)))) .bad)) .bad) .bad) .bad) .bad)) .bad) .bad) .bad) .bad)) .bad) .bad) .bad) (.out (.inr (y1)))) .bad
def g_Lw_heldStoWriteS_0 (y0:tL2) (x:Int×Int):Option ((Int×Int) ⊕ (Int)) := loopO (g_Sw_heldStoWriteS_0 y0) x
def xw_heldStoWriteS_0 (y0:tL2):((Int×Int) ⊕ (Int)) → Ex×List (Pl×LV) := fun
 | .inl r => (.ret,[(.T 1,.t (.val false [.int .i64 r.1])),(.T 4,.t (.val false [.int .i64 r.2]))])
 | .inr (r) => (.exit 0,[(.T 1,.t (.val false [.int .i64 r])),(.T 4,.t (.val false [.undef]))])
def Ow_heldStoWriteS_1:Orc := fun b h => match b,h with
 | 0,[(.T 0,.t (.val false [.sl .any 155 (.pair .str (.pair .bool (.sl 3 (.int .i64)))) y0])),(.T 1,.t (.val false [.int .i64 y1])),(.T 5,.t (.val false [.int .i64 y2]))] => some (okO (g_Lw_heldStoWriteS_0 y0 (y1,y2)),(.br (isL (valO (g_Lw_heldStoWriteS_0 y0 (y1,y2)))) (.leaf .ret [(.T 1,.t (.val false [.int .i64 (getL (valO (g_Lw_heldStoWriteS_0 y0 (y1,y2)))).1])),(.T 4,.t (.val false [.int .i64 (getL (valO (g_Lw_heldStoWriteS_0 y0 (y1,y2)))).2]))]) (.leaf (.exit 0) [(.T 1,.t (.val false [.int .i64 (getR (valO (g_Lw_heldStoWriteS_0 y0 (y1,y2))))])),(.T 4,.t (.val false [.undef]))])))
 | b,h => Ow_heldStoWriteS_0 b h
theorem bw_heldStoWriteS_0 (y0:tL2) (y1:Int) (y2:Int):Tr.bt Ew_heldStoWriteS Ow_heldStoWriteS_0 (exec Ew_heldStoWriteS 0 cw_heldStoWriteS_0 (St.of (hw_heldStoWriteS_0 y0 y1 y2)) (leafRd Ew_heldStoWriteS 0)) = (g_Sw_heldStoWriteS_0 y0 (y1,y2)).bt (fun ((y1,y2):Int×Int) => (hw_heldStoWriteS_0 y0 y1 y2)) (xw_heldStoWriteS_0 y0) := by kernel_rfl
theorem kw_heldStoWriteS_1:OrcOk Ew_heldStoWriteS Ow_heldStoWriteS_1 lsw_heldStoWriteS 1 := orc_add kw_heldStoWriteS_0 (fun n p hp h ex h' ho => by
 obtain ⟨b,c⟩ := p
 obtain ⟨xt,h1,h2⟩ := ho
 have h1:Ow_heldStoWriteS_1 b h = some (true,xt) := h1
 unfold Ow_heldStoWriteS_1 at h1
 split at h1
 ·injection h1 with h1
  injection h1 with e1 e2
  subst e2
  have hc:c = cw_heldStoWriteS_0 := mw_heldStoWriteS_0 _ hp rfl
  subst hc
  right
  rename_i y0 y1 y2
  have key := LT_step kw_heldStoWriteS_0 hp (fun q hq => loopsAll_in _ _ _ _ hp hq) (fun ((y1,y2):Int×Int) => (hw_heldStoWriteS_0 y0 y1 y2)) (xw_heldStoWriteS_0 y0) (g_Sw_heldStoWriteS_0 y0) (fun x => by first | exact bw_heldStoWriteS_0 y0 x.1 x.2) n (x := (y1,y2)) (okO_some e1)
  have hx:∀ r,XT.sel (.br (isL r) (.leaf .ret [(.T 1,.t (.val false [.int .i64 (getL r).1])),(.T 4,.t (.val false [.int .i64 (getL r).2]))]) (.leaf (.exit 0) [(.T 1,.t (.val false [.int .i64 (getR r)])),(.T 4,.t (.val false [.undef]))])) = xw_heldStoWriteS_0 y0 r := fun r => by first | rfl | rcases r with r | r <;> rfl | rcases r with r | r | r <;> rfl | rcases r with r | r | r | r <;> rfl
  have h3 := (hx (valO (g_Lw_heldStoWriteS_0 y0 (y1,y2)))).symm.trans h2
  have e3 := congrArg Prod.fst h3
  have e4 := congrArg Prod.snd h3
  simp only at e3 e4
  rw [← e3,← e4]
  exact key
 ·exact .inl ⟨xt,h1,h2⟩)
def g_Aw_heldStoWriteS (a0:tL2) (a1:Int):Bool := okO (g_Lw_heldStoWriteS_0 a0 (a1,(0:Int)))
def g_Vw_heldStoWriteS_0 (a0:tL2) (a1:Int):Int := bif isL (valO (g_Lw_heldStoWriteS_0 a0 (a1,(0:Int)))) then (getL (valO (g_Lw_heldStoWriteS_0 a0 (a1,(0:Int))))).2 else getR (valO (g_Lw_heldStoWriteS_0 a0 (a1,(0:Int))))
def Fw_heldStoWriteS:FSem := fun ys => match ys with
 | [.val false [.sl .any 155 (.pair .str (.pair .bool (.sl 3 (.int .i64)))) a0],.val false [.int .i64 a1]] => some ((g_Aw_heldStoWriteS a0 a1),.val false [.int .i64 (g_Vw_heldStoWriteS_0 a0 a1)],[])
 | _ => none
theorem vw_heldStoWriteS (a0:tL2) (a1:Int):collapseH .std Ew_heldStoWriteS Ow_heldStoWriteS_1 (execFn Ew_heldStoWriteS Tryz.f149 msw_heldStoWriteS [.val false [.sl .any 155 (.pair .str (.pair .bool (.sl 3 (.int .i64)))) a0],.val false [.int .i64 a1]]) = some ((g_Aw_heldStoWriteS a0 a1),.val false [.int .i64 (g_Vw_heldStoWriteS_0 a0 a1)],[]) := by kernel_rfl
theorem sw_heldStoWriteS:Sound Tryz.prog 149 msw_heldStoWriteS Fw_heldStoWriteS := by
 refine fn_gen goodw_heldStoWriteS (by kernel_rfl) .std (fn := Tryz.f149) (c := (Tryz.f149.body.getD .skip)) (o := Ow_heldStoWriteS_1) (k := 1) (by kernel_rfl) (by kernel_rfl) (by kernel_rfl) (by kernel_rfl) (by decide) kw_heldStoWriteS_1 ?_
 intro ys r outs h
 unfold Fw_heldStoWriteS at h
 split at h
 ·exact (vw_heldStoWriteS _ _).trans h
 ·cases h
def Ew_heldStringS:Env where
 tt := mkTI Tryz.prog
 fn := fun f => match f with
  | 168 => some (msw_markText,FSem.wk msw_markText Fw_markText)
  | _ => none
 bxf := fun _ => none
 mv := []
 keep := fun b => match b with
  | 0 => [(0,false),(1,false),(5,false)]
  | _ => []
 keepB := fun b => match b with
  | 0 => []
  | _ => []
 keepX := fun b => match b with
  | 0 => [(1,false),(4,false)]
  | _ => []
 keepXB := fun b => match b with
  | 0 => []
  | _ => []
theorem goodFw_heldStringS:∀ f ms F,Ew_heldStringS.fn f = some (ms,F) → Sound Tryz.prog f ms F := fun f ms F h => by
 unfold Ew_heldStringS at h
 dsimp only at h
 split at h
 ·exact gF sw_markText h
 ·cases h
theorem goodw_heldStringS:Good Tryz.prog Ew_heldStringS := ⟨rfl,goodFw_heldStringS,fun f ms F h => by cases h⟩
def Ow_heldStringS_0:Orc := fun _ _ => none
def msw_heldStringS:List PM := [.rd,.own]
def lsw_heldStringS:List (Nat×Code) := loopsAll 0 (Tryz.f148.body.getD .skip)
def cw_heldStringS_0:Code := (loopOf 0 (Tryz.f148.body.getD .skip)).getD .skip
theorem lseqw_heldStringS:lsw_heldStringS = [(0,cw_heldStringS_0)] := by kernel_rfl
theorem mw_heldStringS_0:∀ p,p ∈ lsw_heldStringS → p.1 = 0 → p.2 = cw_heldStringS_0 := by
 intro p hp
 rw [lseqw_heldStringS] at hp
 simp only [List.mem_cons,List.not_mem_nil,or_false] at hp
 subst hp; simp
theorem kw_heldStringS_0:OrcOk Ew_heldStringS Ow_heldStringS_0 lsw_heldStringS 0 := orcOk_none
def hw_heldStringS_0 (y0:List ByteArray) (y1:Int) (y2:Int):List (Pl×LV) := [(.T 0,.t (.val false [.sl .any 9 .str y0])),(.T 1,.t (.val false [.int .i64 y1])),(.T 5,.t (.val false [.int .i64 y2]))]
def g_Sw_heldStringS_0 (y0:List ByteArray):(Int×Int) → RT (Int×Int) ((Int×Int) ⊕ (Int))
 | (y1,y2) => .br (true) (.br (decide (y2 < (y0.length:Int))) (.br (decide (0 ≤ y2 ∧ y2 < (y0.length:Int))) (.br (g_Aw_markText y1) (.br (true) (.br (!ByteArray.toList (at_ Ty.str y0 (Int.toNat y2)) == ByteArray.toList (g_Vw_markText_0 y1)) (.out (.inl ((y1,(-1:Int))))) (.br (true) (.br (true) (.go ((IntKind.i64.wrap (y1 + 1),IntKind.i64.wrap (y2 + 1)))) .bad) .bad)) .bad) .bad) .bad) (.out (.inr (y1)))) .bad
def g_Lw_heldStringS_0 (y0:List ByteArray) (x:Int×Int):Option ((Int×Int) ⊕ (Int)) := loopO (g_Sw_heldStringS_0 y0) x
def xw_heldStringS_0 (y0:List ByteArray):((Int×Int) ⊕ (Int)) → Ex×List (Pl×LV) := fun
 | .inl r => (.ret,[(.T 1,.t (.val false [.int .i64 r.1])),(.T 4,.t (.val false [.int .i64 r.2]))])
 | .inr (r) => (.exit 0,[(.T 1,.t (.val false [.int .i64 r])),(.T 4,.t (.val false [.undef]))])
def Ow_heldStringS_1:Orc := fun b h => match b,h with
 | 0,[(.T 0,.t (.val false [.sl .any 9 .str y0])),(.T 1,.t (.val false [.int .i64 y1])),(.T 5,.t (.val false [.int .i64 y2]))] => some (okO (g_Lw_heldStringS_0 y0 (y1,y2)),(.br (isL (valO (g_Lw_heldStringS_0 y0 (y1,y2)))) (.leaf .ret [(.T 1,.t (.val false [.int .i64 (getL (valO (g_Lw_heldStringS_0 y0 (y1,y2)))).1])),(.T 4,.t (.val false [.int .i64 (getL (valO (g_Lw_heldStringS_0 y0 (y1,y2)))).2]))]) (.leaf (.exit 0) [(.T 1,.t (.val false [.int .i64 (getR (valO (g_Lw_heldStringS_0 y0 (y1,y2))))])),(.T 4,.t (.val false [.undef]))])))
 | b,h => Ow_heldStringS_0 b h
theorem bw_heldStringS_0 (y0:List ByteArray) (y1:Int) (y2:Int):Tr.bt Ew_heldStringS Ow_heldStringS_0 (exec Ew_heldStringS 0 cw_heldStringS_0 (St.of (hw_heldStringS_0 y0 y1 y2)) (leafRd Ew_heldStringS 0)) = (g_Sw_heldStringS_0 y0 (y1,y2)).bt (fun ((y1,y2):Int×Int) => (hw_heldStringS_0 y0 y1 y2)) (xw_heldStringS_0 y0) := by kernel_rfl
theorem kw_heldStringS_1:OrcOk Ew_heldStringS Ow_heldStringS_1 lsw_heldStringS 1 := orc_add kw_heldStringS_0 (fun n p hp h ex h' ho => by
 obtain ⟨b,c⟩ := p
 obtain ⟨xt,h1,h2⟩ := ho
 have h1:Ow_heldStringS_1 b h = some (true,xt) := h1
 unfold Ow_heldStringS_1 at h1
 split at h1
 ·injection h1 with h1
  injection h1 with e1 e2
  subst e2
  have hc:c = cw_heldStringS_0 := mw_heldStringS_0 _ hp rfl
  subst hc
  right
  rename_i y0 y1 y2
  have key := LT_step kw_heldStringS_0 hp (fun q hq => loopsAll_in _ _ _ _ hp hq) (fun ((y1,y2):Int×Int) => (hw_heldStringS_0 y0 y1 y2)) (xw_heldStringS_0 y0) (g_Sw_heldStringS_0 y0) (fun x => by first | exact bw_heldStringS_0 y0 x.1 x.2) n (x := (y1,y2)) (okO_some e1)
  have hx:∀ r,XT.sel (.br (isL r) (.leaf .ret [(.T 1,.t (.val false [.int .i64 (getL r).1])),(.T 4,.t (.val false [.int .i64 (getL r).2]))]) (.leaf (.exit 0) [(.T 1,.t (.val false [.int .i64 (getR r)])),(.T 4,.t (.val false [.undef]))])) = xw_heldStringS_0 y0 r := fun r => by first | rfl | rcases r with r | r <;> rfl | rcases r with r | r | r <;> rfl | rcases r with r | r | r | r <;> rfl
  have h3 := (hx (valO (g_Lw_heldStringS_0 y0 (y1,y2)))).symm.trans h2
  have e3 := congrArg Prod.fst h3
  have e4 := congrArg Prod.snd h3
  simp only at e3 e4
  rw [← e3,← e4]
  exact key
 ·exact .inl ⟨xt,h1,h2⟩)
def g_Aw_heldStringS (a0:List ByteArray) (a1:Int):Bool := okO (g_Lw_heldStringS_0 a0 (a1,(0:Int)))
def g_Vw_heldStringS_0 (a0:List ByteArray) (a1:Int):Int := bif isL (valO (g_Lw_heldStringS_0 a0 (a1,(0:Int)))) then (getL (valO (g_Lw_heldStringS_0 a0 (a1,(0:Int))))).2 else getR (valO (g_Lw_heldStringS_0 a0 (a1,(0:Int))))
def Fw_heldStringS:FSem := fun ys => match ys with
 | [.val false [.sl .any 9 .str a0],.val false [.int .i64 a1]] => some ((g_Aw_heldStringS a0 a1),.val false [.int .i64 (g_Vw_heldStringS_0 a0 a1)],[])
 | _ => none
theorem vw_heldStringS (a0:List ByteArray) (a1:Int):collapseH .std Ew_heldStringS Ow_heldStringS_1 (execFn Ew_heldStringS Tryz.f148 msw_heldStringS [.val false [.sl .any 9 .str a0],.val false [.int .i64 a1]]) = some ((g_Aw_heldStringS a0 a1),.val false [.int .i64 (g_Vw_heldStringS_0 a0 a1)],[]) := by kernel_rfl
theorem sw_heldStringS:Sound Tryz.prog 148 msw_heldStringS Fw_heldStringS := by
 refine fn_gen goodw_heldStringS (by kernel_rfl) .std (fn := Tryz.f148) (c := (Tryz.f148.body.getD .skip)) (o := Ow_heldStringS_1) (k := 1) (by kernel_rfl) (by kernel_rfl) (by kernel_rfl) (by kernel_rfl) (by decide) kw_heldStringS_1 ?_
 intro ys r outs h
 unfold Fw_heldStringS at h
 split at h
 ·exact (vw_heldStringS _ _).trans h
 ·cases h
def Ew_heldLogNoteS:Env where
 tt := mkTI Tryz.prog
 fn := fun f => match f with
  | 148 => some (msw_heldStringS,FSem.wk msw_heldStringS Fw_heldStringS)
  | 149 => some (msw_heldStoWriteS,FSem.wk msw_heldStoWriteS Fw_heldStoWriteS)
  | _ => none
 bxf := fun _ => none
 mv := []
 keep := fun b => match b with
  | 0 => [(0,false),(1,false),(5,false)]
  | _ => []
 keepB := fun b => match b with
  | 0 => []
  | _ => []
 keepX := fun b => match b with
  | 0 => [(1,false),(4,false)]
  | _ => []
 keepXB := fun b => match b with
  | 0 => []
  | _ => []
theorem goodFw_heldLogNoteS:∀ f ms F,Ew_heldLogNoteS.fn f = some (ms,F) → Sound Tryz.prog f ms F := fun f ms F h => by
 unfold Ew_heldLogNoteS at h
 dsimp only at h
 split at h
 ·exact gF sw_heldStringS h
 ·exact gF sw_heldStoWriteS h
 ·cases h
theorem goodw_heldLogNoteS:Good Tryz.prog Ew_heldLogNoteS := ⟨rfl,goodFw_heldLogNoteS,fun f ms F h => by cases h⟩
def Ow_heldLogNoteS_0:Orc := fun _ _ => none
def msw_heldLogNoteS:List PM := [.rd,.own]
def lsw_heldLogNoteS:List (Nat×Code) := loopsAll 0 (Tryz.f112.body.getD .skip)
def cw_heldLogNoteS_0:Code := (loopOf 0 (Tryz.f112.body.getD .skip)).getD .skip
theorem lseqw_heldLogNoteS:lsw_heldLogNoteS = [(0,cw_heldLogNoteS_0)] := by kernel_rfl
theorem mw_heldLogNoteS_0:∀ p,p ∈ lsw_heldLogNoteS → p.1 = 0 → p.2 = cw_heldLogNoteS_0 := by
 intro p hp
 rw [lseqw_heldLogNoteS] at hp
 simp only [List.mem_cons,List.not_mem_nil,or_false] at hp
 subst hp; simp
theorem kw_heldLogNoteS_0:OrcOk Ew_heldLogNoteS Ow_heldLogNoteS_0 lsw_heldLogNoteS 0 := orcOk_none
def hw_heldLogNoteS_0 (y0:tL0) (y1:Int) (y2:Int):List (Pl×LV) := [(.T 0,.t (.val false [.sl .any 92 (.pair (.int .i64) (.pair (.int .i64) (.pair (.sl 9 .str) (.sl 155 (.pair .str (.pair .bool (.sl 3 (.int .i64)))))))) y0])),(.T 1,.t (.val false [.int .i64 y1])),(.T 5,.t (.val false [.int .i64 y2]))]
def g_Sw_heldLogNoteS_0 (y0:tL0):(Int×Int) → RT (Int×Int) ((Int×Int) ⊕ (Int))
 | (y1,y2) => .br (true) (.br (decide (y2 < (y0.length:Int))) (.br (decide (0 ≤ y2 ∧ y2 < (y0.length:Int))) (.br (true) (.br ((at_ yT1 y0 (Int.toNat y2)).1 != y1) (.out (.inl ((y1,(-1:Int))))) (.br (true) (.br (decide (0 ≤ y2 ∧ y2 < (y0.length:Int))) (.br (true) (.br ((at_ yT1 y0 (Int.toNat y2)).2.1 != IntKind.i64.wrap (y1 + 1)) (.out (.inl ((IntKind.i64.wrap (y1 + 1),(-1:Int))))) (.br (true) (.br (decide (0 ≤ y2 ∧ y2 < (y0.length:Int))) (.br (g_Aw_heldStringS (at_ yT1 y0 (Int.toNat y2)).2.2.1 (IntKind.i64.wrap (IntKind.i64.wrap (y1 + 1) + 1))) (.br (true) (.br (decide (g_Vw_heldStringS_0 (at_ yT1 y0 (Int.toNat y2)).2.2.1 (IntKind.i64.wrap (IntKind.i64.wrap (y1 + 1) + 1)) < 0)) (.out (.inl ((g_Vw_heldStringS_0 (at_ yT1 y0 (Int.toNat y2)).2.2.1 (IntKind.i64.wrap (IntKind.i64.wrap (y1 + 1) + 1)),(-1:Int))))) (.br (decide (0 ≤ y2 ∧ y2 < (y0.length:Int))) (.br (g_Aw_heldStoWriteS (at_ yT1 y0 (Int.toNat y2)).2.2.2 (g_Vw_heldStringS_0 (at_ yT1 y0 (Int.toNat y2)).2.2.1 (IntKind.i64.wrap (IntKind.i64.wrap (y1 + 1) + 1)))) (.br (true) (.br (decide (g_Vw_heldStoWriteS_0 (at_ yT1 y0 (Int.toNat y2)).2.2.2 (g_Vw_heldStringS_0 (at_ yT1 y0 (Int.toNat y2)).2.2.1 (IntKind.i64.wrap (IntKind.i64.wrap (y1 + 1) + 1))) < 0)) (.out (.inl ((g_Vw_heldStoWriteS_0 (at_ yT1 y0 (Int.toNat y2)).2.2.2 (g_Vw_heldStringS_0 (at_ yT1 y0 (Int.toNat y2)).2.2.1 (IntKind.i64.wrap (IntKind.i64.wrap (y1 + 1) + 1))),(-1:Int))))) (.br (true) (.go ((g_Vw_heldStoWriteS_0 (at_ yT1 y0 (Int.toNat y2)).2.2.2 (g_Vw_heldStringS_0 (at_ yT1 y0 (Int.toNat y2)).2.2.1 (IntKind.i64.wrap (IntKind.i64.wrap (y1 + 1) + 1))),IntKind.i64.wrap (y2 + 1)))) .bad)) .bad) .bad) .bad)) .bad) .bad) .bad) .bad)) .bad) .bad) .bad)) .bad) .bad) (.out (.inr (y1)))) .bad
def g_Lw_heldLogNoteS_0 (y0:tL0) (x:Int×Int):Option ((Int×Int) ⊕ (Int)) := loopO (g_Sw_heldLogNoteS_0 y0) x
def xw_heldLogNoteS_0 (y0:tL0):((Int×Int) ⊕ (Int)) → Ex×List (Pl×LV) := fun
 | .inl r => (.ret,[(.T 1,.t (.val false [.int .i64 r.1])),(.T 4,.t (.val false [.int .i64 r.2]))])
 | .inr (r) => (.exit 0,[(.T 1,.t (.val false [.int .i64 r])),(.T 4,.t (.val false [.undef]))])
def Ow_heldLogNoteS_1:Orc := fun b h => match b,h with
 | 0,[(.T 0,.t (.val false [.sl .any 92 (.pair (.int .i64) (.pair (.int .i64) (.pair (.sl 9 .str) (.sl 155 (.pair .str (.pair .bool (.sl 3 (.int .i64)))))))) y0])),(.T 1,.t (.val false [.int .i64 y1])),(.T 5,.t (.val false [.int .i64 y2]))] => some (okO (g_Lw_heldLogNoteS_0 y0 (y1,y2)),(.br (isL (valO (g_Lw_heldLogNoteS_0 y0 (y1,y2)))) (.leaf .ret [(.T 1,.t (.val false [.int .i64 (getL (valO (g_Lw_heldLogNoteS_0 y0 (y1,y2)))).1])),(.T 4,.t (.val false [.int .i64 (getL (valO (g_Lw_heldLogNoteS_0 y0 (y1,y2)))).2]))]) (.leaf (.exit 0) [(.T 1,.t (.val false [.int .i64 (getR (valO (g_Lw_heldLogNoteS_0 y0 (y1,y2))))])),(.T 4,.t (.val false [.undef]))])))
 | b,h => Ow_heldLogNoteS_0 b h
theorem bw_heldLogNoteS_0 (y0:tL0) (y1:Int) (y2:Int):Tr.bt Ew_heldLogNoteS Ow_heldLogNoteS_0 (exec Ew_heldLogNoteS 0 cw_heldLogNoteS_0 (St.of (hw_heldLogNoteS_0 y0 y1 y2)) (leafRd Ew_heldLogNoteS 0)) = (g_Sw_heldLogNoteS_0 y0 (y1,y2)).bt (fun ((y1,y2):Int×Int) => (hw_heldLogNoteS_0 y0 y1 y2)) (xw_heldLogNoteS_0 y0) := by kernel_rfl
theorem kw_heldLogNoteS_1:OrcOk Ew_heldLogNoteS Ow_heldLogNoteS_1 lsw_heldLogNoteS 1 := orc_add kw_heldLogNoteS_0 (fun n p hp h ex h' ho => by
 obtain ⟨b,c⟩ := p
 obtain ⟨xt,h1,h2⟩ := ho
 have h1:Ow_heldLogNoteS_1 b h = some (true,xt) := h1
 unfold Ow_heldLogNoteS_1 at h1
 split at h1
 ·injection h1 with h1
  injection h1 with e1 e2
  subst e2
  have hc:c = cw_heldLogNoteS_0 := mw_heldLogNoteS_0 _ hp rfl
  subst hc
  right
  rename_i y0 y1 y2
  have key := LT_step kw_heldLogNoteS_0 hp (fun q hq => loopsAll_in _ _ _ _ hp hq) (fun ((y1,y2):Int×Int) => (hw_heldLogNoteS_0 y0 y1 y2)) (xw_heldLogNoteS_0 y0) (g_Sw_heldLogNoteS_0 y0) (fun x => by first | exact bw_heldLogNoteS_0 y0 x.1 x.2) n (x := (y1,y2)) (okO_some e1)
  have hx:∀ r,XT.sel (.br (isL r) (.leaf .ret [(.T 1,.t (.val false [.int .i64 (getL r).1])),(.T 4,.t (.val false [.int .i64 (getL r).2]))]) (.leaf (.exit 0) [(.T 1,.t (.val false [.int .i64 (getR r)])),(.T 4,.t (.val false [.undef]))])) = xw_heldLogNoteS_0 y0 r := fun r => by first | rfl | rcases r with r | r <;> rfl | rcases r with r | r | r <;> rfl | rcases r with r | r | r | r <;> rfl
  have h3 := (hx (valO (g_Lw_heldLogNoteS_0 y0 (y1,y2)))).symm.trans h2
  have e3 := congrArg Prod.fst h3
  have e4 := congrArg Prod.snd h3
  simp only at e3 e4
  rw [← e3,← e4]
  exact key
 ·exact .inl ⟨xt,h1,h2⟩)
def g_Aw_heldLogNoteS (a0:tL0) (a1:Int):Bool := okO (g_Lw_heldLogNoteS_0 a0 (a1,(0:Int)))
def g_Vw_heldLogNoteS_0 (a0:tL0) (a1:Int):Int := bif isL (valO (g_Lw_heldLogNoteS_0 a0 (a1,(0:Int)))) then (getL (valO (g_Lw_heldLogNoteS_0 a0 (a1,(0:Int))))).2 else getR (valO (g_Lw_heldLogNoteS_0 a0 (a1,(0:Int))))
def Fw_heldLogNoteS:FSem := fun ys => match ys with
 | [.val false [.sl .any 92 (.pair (.int .i64) (.pair (.int .i64) (.pair (.sl 9 .str) (.sl 155 (.pair .str (.pair .bool (.sl 3 (.int .i64)))))))) a0],.val false [.int .i64 a1]] => some ((g_Aw_heldLogNoteS a0 a1),.val false [.int .i64 (g_Vw_heldLogNoteS_0 a0 a1)],[])
 | _ => none
theorem vw_heldLogNoteS (a0:tL0) (a1:Int):collapseH .std Ew_heldLogNoteS Ow_heldLogNoteS_1 (execFn Ew_heldLogNoteS Tryz.f112 msw_heldLogNoteS [.val false [.sl .any 92 (.pair (.int .i64) (.pair (.int .i64) (.pair (.sl 9 .str) (.sl 155 (.pair .str (.pair .bool (.sl 3 (.int .i64)))))))) a0],.val false [.int .i64 a1]]) = some ((g_Aw_heldLogNoteS a0 a1),.val false [.int .i64 (g_Vw_heldLogNoteS_0 a0 a1)],[]) := by kernel_rfl
theorem sw_heldLogNoteS:Sound Tryz.prog 112 msw_heldLogNoteS Fw_heldLogNoteS := by
 refine fn_gen goodw_heldLogNoteS (by kernel_rfl) .std (fn := Tryz.f112) (c := (Tryz.f112.body.getD .skip)) (o := Ow_heldLogNoteS_1) (k := 1) (by kernel_rfl) (by kernel_rfl) (by kernel_rfl) (by kernel_rfl) (by decide) kw_heldLogNoteS_1 ?_
 intro ys r outs h
 unfold Fw_heldLogNoteS at h
 split at h
 ·exact (vw_heldLogNoteS _ _).trans h
 ·cases h
def Ew_heldLogDisk:Env where
 tt := mkTI Tryz.prog
 fn := fun f => match f with
  | 112 => some (msw_heldLogNoteS,FSem.wk msw_heldLogNoteS Fw_heldLogNoteS)
  | _ => none
 bxf := fun _ => none
 mv := []
 keep := fun _ => []
 keepB := fun _ => []
 keepX := fun _ => []
 keepXB := fun _ => []
theorem goodFw_heldLogDisk:∀ f ms F,Ew_heldLogDisk.fn f = some (ms,F) → Sound Tryz.prog f ms F := fun f ms F h => by
 unfold Ew_heldLogDisk at h
 dsimp only at h
 split at h
 ·exact gF sw_heldLogNoteS h
 ·cases h
theorem goodw_heldLogDisk:Good Tryz.prog Ew_heldLogDisk := ⟨rfl,goodFw_heldLogDisk,fun f ms F h => by cases h⟩
def Ow_heldLogDisk_0:Orc := fun _ _ => none
def msw_heldLogDisk:List PM := [.rd,.own]
def lsw_heldLogDisk:List (Nat×Code) := loopsAll 0 (Tryz.f53.body.getD .skip)
theorem kw_heldLogDisk_0:OrcOk Ew_heldLogDisk Ow_heldLogDisk_0 lsw_heldLogDisk 0 := orcOk_none
def g_Aw_heldLogDisk (a0:tL0) (a1:Int) (a2:Int):Bool := g_Aw_heldLogNoteS a0 a2&&true
def g_Vw_heldLogDisk_0 (a0:tL0) (a1:Int) (a2:Int):Int := bif decide (g_Vw_heldLogNoteS_0 a0 a2 < 0) then (-1:Int) else g_Vw_heldLogNoteS_0 a0 a2
def Fw_heldLogDisk:FSem := fun ys => match ys with
 | [.val true [.sl .any 92 (.pair (.int .i64) (.pair (.int .i64) (.pair (.sl 9 .str) (.sl 155 (.pair .str (.pair .bool (.sl 3 (.int .i64)))))))) a0,.int .i64 a1],.val false [.int .i64 a2]] => some ((g_Aw_heldLogDisk a0 a1 a2),.val false [.int .i64 (g_Vw_heldLogDisk_0 a0 a1 a2)],[])
 | _ => none
theorem vw_heldLogDisk (a0:tL0) (a1:Int) (a2:Int):collapseH .std Ew_heldLogDisk Ow_heldLogDisk_0 (execFn Ew_heldLogDisk Tryz.f53 msw_heldLogDisk [.val true [.sl .any 92 (.pair (.int .i64) (.pair (.int .i64) (.pair (.sl 9 .str) (.sl 155 (.pair .str (.pair .bool (.sl 3 (.int .i64)))))))) a0,.int .i64 a1],.val false [.int .i64 a2]]) = some ((g_Aw_heldLogDisk a0 a1 a2),.val false [.int .i64 (g_Vw_heldLogDisk_0 a0 a1 a2)],[]) := by kernel_rfl
theorem sw_heldLogDisk:Sound Tryz.prog 53 msw_heldLogDisk Fw_heldLogDisk := by
 refine fn_gen goodw_heldLogDisk (by kernel_rfl) .std (fn := Tryz.f53) (c := (Tryz.f53.body.getD .skip)) (o := Ow_heldLogDisk_0) (k := 0) (by kernel_rfl) (by kernel_rfl) (by kernel_rfl) (by kernel_rfl) (by decide) kw_heldLogDisk_0 ?_
 intro ys r outs h
 unfold Fw_heldLogDisk at h
 split at h
 ·exact (vw_heldLogDisk _ _ _).trans h
 ·cases h
def Ew_heldFroState:Env where
 tt := mkTI Tryz.prog
 fn := fun f => match f with
  | 53 => some (msw_heldLogDisk,FSem.wk msw_heldLogDisk Fw_heldLogDisk)
  | 54 => some (msw_heldFroTxS,FSem.wk msw_heldFroTxS Fw_heldFroTxS)
  | _ => none
 bxf := fun _ => none
 mv := []
 keep := fun _ => []
 keepB := fun _ => []
 keepX := fun _ => []
 keepXB := fun _ => []
theorem goodFw_heldFroState:∀ f ms F,Ew_heldFroState.fn f = some (ms,F) → Sound Tryz.prog f ms F := fun f ms F h => by
 unfold Ew_heldFroState at h
 dsimp only at h
 split at h
 ·exact gF sw_heldLogDisk h
 ·exact gF sw_heldFroTxS h
 ·cases h
theorem goodw_heldFroState:Good Tryz.prog Ew_heldFroState := ⟨rfl,goodFw_heldFroState,fun f ms F h => by cases h⟩
def Ow_heldFroState_0:Orc := fun _ _ => none
def msw_heldFroState:List PM := [.rd,.own]
def lsw_heldFroState:List (Nat×Code) := loopsAll 0 (Tryz.f18.body.getD .skip)
theorem kw_heldFroState_0:OrcOk Ew_heldFroState Ow_heldFroState_0 lsw_heldFroState 0 := orcOk_none
def g_Aw_heldFroState (a0:tL0) (a1:Int) (a2:tL1) (a3:Int):Bool := g_Aw_heldLogDisk a0 a1 a3&&(decide (g_Vw_heldLogDisk_0 a0 a1 a3 < 0) || g_Aw_heldFroTxS a2 (g_Vw_heldLogDisk_0 a0 a1 a3)&&true)
def g_Vw_heldFroState_0 (a0:tL0) (a1:Int) (a2:tL1) (a3:Int):Int := bif decide (g_Vw_heldLogDisk_0 a0 a1 a3 < 0) then (-1:Int) else bif decide (g_Vw_heldFroTxS_0 a2 (g_Vw_heldLogDisk_0 a0 a1 a3) < 0) then (-1:Int) else g_Vw_heldFroTxS_0 a2 (g_Vw_heldLogDisk_0 a0 a1 a3)
def Fw_heldFroState:FSem := fun ys => match ys with
 | [.val true [.sl .any 92 (.pair (.int .i64) (.pair (.int .i64) (.pair (.sl 9 .str) (.sl 155 (.pair .str (.pair .bool (.sl 3 (.int .i64)))))))) a0,.int .i64 a1,.sl .any 73 (.pair (.int .i64) (.pair (.pair (.int .i64) (.pair (.int .i64) (.pair (.int .i64) (.pair (.int .i64) (.pair (.int .i64) (.pair (.int .i64) (.int .i64))))))) (.pair .bool (.pair (.sl 3 (.int .i64)) (.sl 3 (.int .i64)))))) a2],.val false [.int .i64 a3]] => some ((g_Aw_heldFroState a0 a1 a2 a3),.val false [.int .i64 (g_Vw_heldFroState_0 a0 a1 a2 a3)],[])
 | _ => none
theorem vw_heldFroState (a0:tL0) (a1:Int) (a2:tL1) (a3:Int):collapseH .std Ew_heldFroState Ow_heldFroState_0 (execFn Ew_heldFroState Tryz.f18 msw_heldFroState [.val true [.sl .any 92 (.pair (.int .i64) (.pair (.int .i64) (.pair (.sl 9 .str) (.sl 155 (.pair .str (.pair .bool (.sl 3 (.int .i64)))))))) a0,.int .i64 a1,.sl .any 73 (.pair (.int .i64) (.pair (.pair (.int .i64) (.pair (.int .i64) (.pair (.int .i64) (.pair (.int .i64) (.pair (.int .i64) (.pair (.int .i64) (.int .i64))))))) (.pair .bool (.pair (.sl 3 (.int .i64)) (.sl 3 (.int .i64)))))) a2],.val false [.int .i64 a3]]) = some ((g_Aw_heldFroState a0 a1 a2 a3),.val false [.int .i64 (g_Vw_heldFroState_0 a0 a1 a2 a3)],[]) := by kernel_rfl
theorem sw_heldFroState:Sound Tryz.prog 18 msw_heldFroState Fw_heldFroState := by
 refine fn_gen goodw_heldFroState (by kernel_rfl) .std (fn := Tryz.f18) (c := (Tryz.f18.body.getD .skip)) (o := Ow_heldFroState_0) (k := 0) (by kernel_rfl) (by kernel_rfl) (by kernel_rfl) (by kernel_rfl) (by decide) kw_heldFroState_0 ?_
 intro ys r outs h
 unfold Fw_heldFroState at h
 split at h
 ·exact (vw_heldFroState _ _ _ _).trans h
 ·cases h
def Ew_markIntS:Env where
 tt := mkTI Tryz.prog
 fn := fun _ => none
 bxf := fun _ => none
 mv := []
 keep := fun b => match b with
  | 0 => [(0,false),(1,false),(5,false)]
  | _ => []
 keepB := fun b => match b with
  | 0 => []
  | _ => []
 keepX := fun b => match b with
  | 0 => [(0,false),(1,false)]
  | _ => []
 keepXB := fun b => match b with
  | 0 => []
  | _ => []
theorem goodFw_markIntS:∀ f ms F,Ew_markIntS.fn f = some (ms,F) → Sound Tryz.prog f ms F := fun f ms F h => by cases h
theorem goodw_markIntS:Good Tryz.prog Ew_markIntS := ⟨rfl,goodFw_markIntS,fun f ms F h => by cases h⟩
def Ow_markIntS_0:Orc := fun _ _ => none
def msw_markIntS:List PM := [.«mut»,.own]
def lsw_markIntS:List (Nat×Code) := loopsAll 0 (Tryz.f106.body.getD .skip)
def cw_markIntS_0:Code := (loopOf 0 (Tryz.f106.body.getD .skip)).getD .skip
theorem lseqw_markIntS:lsw_markIntS = [(0,cw_markIntS_0)] := by kernel_rfl
theorem mw_markIntS_0:∀ p,p ∈ lsw_markIntS → p.1 = 0 → p.2 = cw_markIntS_0 := by
 intro p hp
 rw [lseqw_markIntS] at hp
 simp only [List.mem_cons,List.not_mem_nil,or_false] at hp
 subst hp; simp
theorem kw_markIntS_0:OrcOk Ew_markIntS Ow_markIntS_0 lsw_markIntS 0 := orcOk_none
def hw_markIntS_0 (y0:List Int) (y1:Int) (y2:Int):List (Pl×LV) := [(.T 0,.t (.val false [.row 0 0 0])),(.R 0 0,.r 0 (some ⟨false,.any,true,3,(.int .i64),y0⟩)),(.T 1,.t (.val false [.int .i64 y1])),(.T 5,.t (.val false [.int .i64 y2]))]
def g_Sw_markIntS_0:((List Int)×Int×Int) → RT ((List Int)×Int×Int) (((List Int)×Int))
 | (y0,y1,y2) => .br (true) (.br (decide (y2 < (y0.length:Int))) (.br (decide (0 ≤ y2 ∧ y2 < (y0.length:Int))) (.br (decide (Int.toNat y2 < List.length y0)) (.br (true) (.br (true) (.go ((List.set y0 (Int.toNat y2) y1,IntKind.i64.wrap (y1 + 1),IntKind.i64.wrap (y2 + 1)))) .bad) .bad) .bad) .bad) (.out ((y0,y1)))) .bad
def g_Lw_markIntS_0 (x:(List Int)×Int×Int):Option (((List Int)×Int)) := loopO (g_Sw_markIntS_0) x
def xw_markIntS_0:(((List Int)×Int)) → Ex×List (Pl×LV) := fun r => (.exit 0,[(.T 0,.t (.val false [.row 0 0 0])),(.R 0 0,.r 0 (some ⟨false,.any,true,3,(.int .i64),r.1⟩)),(.T 1,.t (.val false [.int .i64 r.2]))])
def Ow_markIntS_1:Orc := fun b h => match b,h with
 | 0,[(.T 0,.t (.val false [.row 0 0 0])),(.R 0 0,.r 0 (some ⟨false,.any,true,3,(.int .i64),y0⟩)),(.T 1,.t (.val false [.int .i64 y1])),(.T 5,.t (.val false [.int .i64 y2]))] => some (okO (g_Lw_markIntS_0 (y0,y1,y2)),(.leaf (.exit 0) [(.T 0,.t (.val false [.row 0 0 0])),(.R 0 0,.r 0 (some ⟨false,.any,true,3,(.int .i64),(valO (g_Lw_markIntS_0 (y0,y1,y2))).1⟩)),(.T 1,.t (.val false [.int .i64 (valO (g_Lw_markIntS_0 (y0,y1,y2))).2]))]))
 | b,h => Ow_markIntS_0 b h
theorem bw_markIntS_0 (y0:List Int) (y1:Int) (y2:Int):Tr.bt Ew_markIntS Ow_markIntS_0 (exec Ew_markIntS 0 cw_markIntS_0 (St.of (hw_markIntS_0 y0 y1 y2)) (leafRd Ew_markIntS 0)) = (g_Sw_markIntS_0 (y0,y1,y2)).bt (fun ((y0,y1,y2):(List Int)×Int×Int) => (hw_markIntS_0 y0 y1 y2)) (xw_markIntS_0) := by kernel_rfl
theorem kw_markIntS_1:OrcOk Ew_markIntS Ow_markIntS_1 lsw_markIntS 1 := orc_add kw_markIntS_0 (fun n p hp h ex h' ho => by
 obtain ⟨b,c⟩ := p
 obtain ⟨xt,h1,h2⟩ := ho
 have h1:Ow_markIntS_1 b h = some (true,xt) := h1
 unfold Ow_markIntS_1 at h1
 split at h1
 ·injection h1 with h1
  injection h1 with e1 e2
  subst e2
  have hc:c = cw_markIntS_0 := mw_markIntS_0 _ hp rfl
  subst hc
  right
  rename_i y0 y1 y2
  have key := LT_step kw_markIntS_0 hp (fun q hq => loopsAll_in _ _ _ _ hp hq) (fun ((y0,y1,y2):(List Int)×Int×Int) => (hw_markIntS_0 y0 y1 y2)) (xw_markIntS_0) (g_Sw_markIntS_0) (fun x => by first | exact bw_markIntS_0 x.1 x.2.1 x.2.2) n (x := (y0,y1,y2)) (okO_some e1)
  have hx:∀ r,XT.sel (.leaf (.exit 0) [(.T 0,.t (.val false [.row 0 0 0])),(.R 0 0,.r 0 (some ⟨false,.any,true,3,(.int .i64),r.1⟩)),(.T 1,.t (.val false [.int .i64 r.2]))]) = xw_markIntS_0 r := fun r => by first | rfl | rcases r with r | r <;> rfl | rcases r with r | r | r <;> rfl | rcases r with r | r | r | r <;> rfl
  have h3 := (hx (valO (g_Lw_markIntS_0 (y0,y1,y2)))).symm.trans h2
  have e3 := congrArg Prod.fst h3
  have e4 := congrArg Prod.snd h3
  simp only at e3 e4
  rw [← e3,← e4]
  exact key
 ·exact .inl ⟨xt,h1,h2⟩)
def g_Aw_markIntS (a0:List Int) (a1:Int):Bool := okO (g_Lw_markIntS_0 (a0,a1,(0:Int)))
def g_Vw_markIntS_0 (a0:List Int) (a1:Int):Int := (valO (g_Lw_markIntS_0 (a0,a1,(0:Int)))).2
def g_Vw_markIntS_1 (a0:List Int) (a1:Int):List Int := (valO (g_Lw_markIntS_0 (a0,a1,(0:Int)))).1
def Fw_markIntS:FSem := fun ys => match ys with
 | [.val false [.own .any true 3 (.int .i64) a0],.val false [.int .i64 a1]] => some ((g_Aw_markIntS a0 a1),.val false [.int .i64 (g_Vw_markIntS_0 a0 a1)],[[.own .any true 3 (.int .i64) (g_Vw_markIntS_1 a0 a1)]])
 | _ => none
theorem vw_markIntS (a0:List Int) (a1:Int):collapseH .std Ew_markIntS Ow_markIntS_1 (execFn Ew_markIntS Tryz.f106 msw_markIntS [.val false [.own .any true 3 (.int .i64) a0],.val false [.int .i64 a1]]) = some ((g_Aw_markIntS a0 a1),.val false [.int .i64 (g_Vw_markIntS_0 a0 a1)],[[.own .any true 3 (.int .i64) (g_Vw_markIntS_1 a0 a1)]]) := by kernel_rfl
theorem sw_markIntS:Sound Tryz.prog 106 msw_markIntS Fw_markIntS := by
 refine fn_gen goodw_markIntS (by kernel_rfl) .std (fn := Tryz.f106) (c := (Tryz.f106.body.getD .skip)) (o := Ow_markIntS_1) (k := 1) (by kernel_rfl) (by kernel_rfl) (by kernel_rfl) (by kernel_rfl) (by decide) kw_markIntS_1 ?_
 intro ys r outs h
 unfold Fw_markIntS at h
 split at h
 ·exact (vw_markIntS _ _).trans h
 ·cases h
def Ew_markFroTxS:Env where
 tt := mkTI Tryz.prog
 fn := fun f => match f with
  | 106 => some (msw_markIntS,FSem.wk msw_markIntS Fw_markIntS)
  | _ => none
 bxf := fun _ => none
 mv := []
 keep := fun b => match b with
  | 0 => [(0,false),(1,false),(5,false)]
  | _ => []
 keepB := fun b => match b with
  | 0 => []
  | _ => []
 keepX := fun b => match b with
  | 0 => [(0,false),(1,false)]
  | _ => []
 keepXB := fun b => match b with
  | 0 => []
  | _ => []
 nest := [88,95]
theorem goodFw_markFroTxS:∀ f ms F,Ew_markFroTxS.fn f = some (ms,F) → Sound Tryz.prog f ms F := fun f ms F h => by
 unfold Ew_markFroTxS at h
 dsimp only at h
 split at h
 ·exact gF sw_markIntS h
 ·cases h
theorem goodw_markFroTxS:Good Tryz.prog Ew_markFroTxS := ⟨rfl,goodFw_markFroTxS,fun f ms F h => by cases h⟩
def Ow_markFroTxS_0:Orc := fun _ _ => none
def msw_markFroTxS:List PM := [.«mut»,.own]
def lsw_markFroTxS:List (Nat×Code) := loopsAll 0 (Tryz.f45.body.getD .skip)
def cw_markFroTxS_0:Code := (loopOf 0 (Tryz.f45.body.getD .skip)).getD .skip
theorem lseqw_markFroTxS:lsw_markFroTxS = [(0,cw_markFroTxS_0)] := by kernel_rfl
theorem mw_markFroTxS_0:∀ p,p ∈ lsw_markFroTxS → p.1 = 0 → p.2 = cw_markFroTxS_0 := by
 intro p hp
 rw [lseqw_markFroTxS] at hp
 simp only [List.mem_cons,List.not_mem_nil,or_false] at hp
 subst hp; simp
theorem kw_markFroTxS_0:OrcOk Ew_markFroTxS Ow_markFroTxS_0 lsw_markFroTxS 0 := orcOk_none
def hw_markFroTxS_0 (y0:tL1) (y1:Int) (y2:Int):List (Pl×LV) := [(.T 0,.t (.val false [.row 0 0 0])),(.R 0 0,.r 0 (some ⟨false,.any,true,73,(.pair (.int .i64) (.pair (.pair (.int .i64) (.pair (.int .i64) (.pair (.int .i64) (.pair (.int .i64) (.pair (.int .i64) (.pair (.int .i64) (.int .i64))))))) (.pair .bool (.pair (.sl 3 (.int .i64)) (.sl 3 (.int .i64)))))),y0⟩)),(.T 1,.t (.val false [.int .i64 y1])),(.T 5,.t (.val false [.int .i64 y2]))]
abbrev uq1250 (y0:tL1) (y1 y2:Int):tL1 := updE yT0 y0 (Int.toNat y2) fun x => (y1,(x.2.1.1,x.2.1.2.1,x.2.1.2.2.1,x.2.1.2.2.2.1,x.2.1.2.2.2.2.1,x.2.1.2.2.2.2.2.1,x.2.1.2.2.2.2.2.2),x.2.2.1,x.2.2.2.1,x.2.2.2.2)
abbrev uq1251 (y0:tL1) (y1 y2:Int):tL1 := updE yT0 (uq1250 y0 y1 y2) (Int.toNat y2) fun x => (x.1,(IntKind.i64.wrap (y1 + 1),x.2.1.2.1,x.2.1.2.2.1,x.2.1.2.2.2.1,x.2.1.2.2.2.2.1,x.2.1.2.2.2.2.2.1,x.2.1.2.2.2.2.2.2),x.2.2.1,x.2.2.2.1,x.2.2.2.2)
abbrev uq1252 (y0:tL1) (y1 y2:Int):tL1 := updE yT0 (uq1251 y0 y1 y2) (Int.toNat y2) fun x => (x.1,(x.2.1.1,IntKind.i64.wrap (IntKind.i64.wrap (y1 + 1) + 1),x.2.1.2.2.1,x.2.1.2.2.2.1,x.2.1.2.2.2.2.1,x.2.1.2.2.2.2.2.1,x.2.1.2.2.2.2.2.2),x.2.2.1,x.2.2.2.1,x.2.2.2.2)
abbrev uq1253 (y0:tL1) (y1 y2:Int):tL1 := updE yT0 (uq1252 y0 y1 y2) (Int.toNat y2) fun x => (x.1,(x.2.1.1,x.2.1.2.1,IntKind.i64.wrap (IntKind.i64.wrap (IntKind.i64.wrap (y1 + 1) + 1) + 1),x.2.1.2.2.2.1,x.2.1.2.2.2.2.1,x.2.1.2.2.2.2.2.1,x.2.1.2.2.2.2.2.2),x.2.2.1,x.2.2.2.1,x.2.2.2.2)
abbrev uq1254 (y0:tL1) (y1 y2:Int):tL1 := updE yT0 (uq1253 y0 y1 y2) (Int.toNat y2) fun x => (x.1,(x.2.1.1,x.2.1.2.1,x.2.1.2.2.1,IntKind.i64.wrap (IntKind.i64.wrap (IntKind.i64.wrap (IntKind.i64.wrap (y1 + 1) + 1) + 1) + 1),x.2.1.2.2.2.2.1,x.2.1.2.2.2.2.2.1,x.2.1.2.2.2.2.2.2),x.2.2.1,x.2.2.2.1,x.2.2.2.2)
abbrev uq1255 (y0:tL1) (y1 y2:Int):tL1 := updE yT0 (uq1254 y0 y1 y2) (Int.toNat y2) fun x => (x.1,(x.2.1.1,x.2.1.2.1,x.2.1.2.2.1,x.2.1.2.2.2.1,IntKind.i64.wrap (IntKind.i64.wrap (IntKind.i64.wrap (IntKind.i64.wrap (IntKind.i64.wrap (y1 + 1) + 1) + 1) + 1) + 1),x.2.1.2.2.2.2.2.1,x.2.1.2.2.2.2.2.2),x.2.2.1,x.2.2.2.1,x.2.2.2.2)
abbrev uq1256 (y0:tL1) (y1 y2:Int):tL1 := updE yT0 (uq1255 y0 y1 y2) (Int.toNat y2) fun x => (x.1,(x.2.1.1,x.2.1.2.1,x.2.1.2.2.1,x.2.1.2.2.2.1,x.2.1.2.2.2.2.1,IntKind.i64.wrap (IntKind.i64.wrap (IntKind.i64.wrap (IntKind.i64.wrap (IntKind.i64.wrap (IntKind.i64.wrap (y1 + 1) + 1) + 1) + 1) + 1) + 1),x.2.1.2.2.2.2.2.2),x.2.2.1,x.2.2.2.1,x.2.2.2.2)
abbrev uq1257 (y0:tL1) (y1 y2:Int):tL1 := updE yT0 (uq1256 y0 y1 y2) (Int.toNat y2) fun x => (x.1,(x.2.1.1,x.2.1.2.1,x.2.1.2.2.1,x.2.1.2.2.2.1,x.2.1.2.2.2.2.1,x.2.1.2.2.2.2.2.1,IntKind.i64.wrap (IntKind.i64.wrap (IntKind.i64.wrap (IntKind.i64.wrap (IntKind.i64.wrap (IntKind.i64.wrap (IntKind.i64.wrap (y1 + 1) + 1) + 1) + 1) + 1) + 1) + 1)),x.2.2.1,x.2.2.2.1,x.2.2.2.2)
abbrev uq1258 (y0:tL1) (y1 y2:Int):tL1 := updE yT0 (uq1257 y0 y1 y2) (Int.toNat y2) fun x => (x.1,(x.2.1.1,x.2.1.2.1,x.2.1.2.2.1,x.2.1.2.2.2.1,x.2.1.2.2.2.2.1,x.2.1.2.2.2.2.2.1,x.2.1.2.2.2.2.2.2),Int.tmod (IntKind.i64.wrap (IntKind.i64.wrap (IntKind.i64.wrap (IntKind.i64.wrap (IntKind.i64.wrap (IntKind.i64.wrap (IntKind.i64.wrap (IntKind.i64.wrap (y1 + 1) + 1) + 1) + 1) + 1) + 1) + 1) + 1)) (3:Int) == (0:Int),x.2.2.2.1,x.2.2.2.2)
abbrev uq1259 (y0:tL1) (y1 y2:Int):tL1 := updE yT0 (uq1258 y0 y1 y2) (Int.toNat y2) fun q => (q.1,(q.2.1.1,q.2.1.2.1,q.2.1.2.2.1,q.2.1.2.2.2.1,q.2.1.2.2.2.2.1,q.2.1.2.2.2.2.2.1,q.2.1.2.2.2.2.2.2),q.2.2.1,g_Vw_markIntS_1 q.2.2.2.1 (IntKind.i64.wrap (IntKind.i64.wrap (IntKind.i64.wrap (IntKind.i64.wrap (IntKind.i64.wrap (IntKind.i64.wrap (IntKind.i64.wrap (IntKind.i64.wrap (IntKind.i64.wrap (y1 + 1) + 1) + 1) + 1) + 1) + 1) + 1) + 1) + 1)),q.2.2.2.2)
def g_Sw_markFroTxS_0:(tL1×Int×Int) → RT (tL1×Int×Int) ((tL1×Int))
 | (y0,y1,y2) => .br (true) (.br (decide (y2 < (y0.length:Int))) (.br (decide (0 ≤ y2 ∧ y2 < (y0.length:Int))) (.br (decide (Int.toNat y2 < List.length y0)) (.br (true) (.br (decide (0 ≤ y2 ∧ y2 < (↑(List.length (uq1250 y0 y1 y2)):Int))) (.br (decide (Int.toNat y2 < List.length (uq1250 y0 y1 y2))) (.br (true) (.br (decide (0 ≤ y2 ∧ y2 < (↑(List.length (uq1251 y0 y1 y2)):Int))) (.br (decide (Int.toNat y2 < List.length (uq1251 y0 y1 y2))) (.br (true) (.br (decide (0 ≤ y2 ∧ y2 < (↑(List.length (uq1252 y0 y1 y2)):Int))) (.br (decide (Int.toNat y2 < List.length (uq1252 y0 y1 y2))) (.br (true) (.br (decide (0 ≤ y2 ∧ y2 < (↑(List.length (uq1253 y0 y1 y2)):Int))) (.br (decide (Int.toNat y2 < List.length (uq1253 y0 y1 y2))) (.br (true) (.br (decide (0 ≤ y2 ∧ y2 < (↑(List.length (uq1254 y0 y1 y2)):Int))) (.br (decide (Int.toNat y2 < List.length (uq1254 y0 y1 y2))) (.br (true) (.br (decide (0 ≤ y2 ∧ y2 < (↑(List.length (uq1255 y0 y1 y2)):Int))) (.br (decide (Int.toNat y2 < List.length (uq1255 y0 y1 y2))) (.br (true) (.br (decide (0 ≤ y2 ∧ y2 < (↑(List.length (uq1256 y0 y1 y2)):Int))) (.br (decide (Int.toNat y2 < List.length (uq1256 y0 y1 y2))) (.br (true) (.br (true) (.br (true) (.br (decide (0 ≤ y2 ∧ y2 < (↑(List.length (uq1257 y0 y1 y2)):Int))) (.br (decide (Int.toNat y2 < List.length (uq1257 y0 y1 y2))) (.br (true) (.br (decide (0 ≤ y2 ∧ y2 < (↑(List.length (uq1258 y0 y1 y2)):Int))) (.br (decide (Int.toNat y2 < List.length (uq1258 y0 y1 y2))) (.br (g_Aw_markIntS (at_ yT0 (uq1258 y0 y1 y2) (Int.toNat y2)).2.2.2.1 (IntKind.i64.wrap (IntKind.i64.wrap (IntKind.i64.wrap (IntKind.i64.wrap (IntKind.i64.wrap (IntKind.i64.wrap (IntKind.i64.wrap (IntKind.i64.wrap (IntKind.i64.wrap (y1 + 1) + 1) + 1) + 1) + 1) + 1) + 1) + 1) + 1))) (.br (decide (0 ≤ y2 ∧ y2 < (↑(List.length (uq1259 y0 y1 y2)):Int))) (.br (decide (Int.toNat y2 < List.length (uq1259 y0 y1 y2))) (.br (g_Aw_markIntS (at_ yT0 (uq1259 y0 y1 y2) (Int.toNat y2)).2.2.2.2 (g_Vw_markIntS_0 (at_ yT0 (uq1258 y0 y1 y2) (Int.toNat y2)).2.2.2.1 (IntKind.i64.wrap (IntKind.i64.wrap (IntKind.i64.wrap (IntKind.i64.wrap (IntKind.i64.wrap (IntKind.i64.wrap (IntKind.i64.wrap (IntKind.i64.wrap (IntKind.i64.wrap (y1 + 1) + 1) + 1) + 1) + 1) + 1) + 1) + 1) + 1)))) (.br (true) (.go ((updE yT0 (uq1259 y0 y1 y2) (Int.toNat y2) fun q => (q.1,(q.2.1.1,q.2.1.2.1,q.2.1.2.2.1,q.2.1.2.2.2.1,q.2.1.2.2.2.2.1,q.2.1.2.2.2.2.2.1,q.2.1.2.2.2.2.2.2),q.2.2.1,q.2.2.2.1,g_Vw_markIntS_1 q.2.2.2.2 (g_Vw_markIntS_0 (at_ yT0 (uq1258 y0 y1 y2) (Int.toNat y2)).2.2.2.1 (IntKind.i64.wrap (IntKind.i64.wrap (IntKind.i64.wrap (IntKind.i64.wrap (IntKind.i64.wrap (IntKind.i64.wrap (IntKind.i64.wrap (IntKind.i64.wrap (IntKind.i64.wrap (y1 + 1) + 1) + 1) + 1) + 1) + 1) + 1) + 1) + 1)))),g_Vw_markIntS_0 (at_ yT0 (uq1259 y0 y1 y2) (Int.toNat y2)).2.2.2.2 (g_Vw_markIntS_0 (at_ yT0 (uq1258 y0 y1 y2) (Int.toNat y2)).2.2.2.1 (IntKind.i64.wrap (IntKind.i64.wrap (IntKind.i64.wrap (IntKind.i64.wrap (IntKind.i64.wrap (IntKind.i64.wrap (IntKind.i64.wrap (IntKind.i64.wrap (IntKind.i64.wrap (y1 + 1) + 1) + 1) + 1) + 1) + 1) + 1) + 1) + 1))),IntKind.i64.wrap (y2 + 1)))) .bad) .bad) .bad) .bad) .bad) .bad) .bad) .bad) .bad) .bad) .bad) .bad) .bad) .bad) .bad) .bad) .bad) .bad) .bad) .bad) .bad) .bad) .bad) .bad) .bad) .bad) .bad) .bad) .bad) .bad) .bad) .bad) .bad) .bad) .bad) .bad) (.out ((y0,y1)))) .bad
def g_Lw_markFroTxS_0 (x:tL1×Int×Int):Option ((tL1×Int)) := loopO (g_Sw_markFroTxS_0) x
def xw_markFroTxS_0:((tL1×Int)) → Ex×List (Pl×LV) := fun r => (.exit 0,[(.T 0,.t (.val false [.row 0 0 0])),(.R 0 0,.r 0 (some ⟨false,.any,true,73,(.pair (.int .i64) (.pair (.pair (.int .i64) (.pair (.int .i64) (.pair (.int .i64) (.pair (.int .i64) (.pair (.int .i64) (.pair (.int .i64) (.int .i64))))))) (.pair .bool (.pair (.sl 3 (.int .i64)) (.sl 3 (.int .i64)))))),r.1⟩)),(.T 1,.t (.val false [.int .i64 r.2]))])
def Ow_markFroTxS_1:Orc := fun b h => match b,h with
 | 0,[(.T 0,.t (.val false [.row 0 0 0])),(.R 0 0,.r 0 (some ⟨false,.any,true,73,(.pair (.int .i64) (.pair (.pair (.int .i64) (.pair (.int .i64) (.pair (.int .i64) (.pair (.int .i64) (.pair (.int .i64) (.pair (.int .i64) (.int .i64))))))) (.pair .bool (.pair (.sl 3 (.int .i64)) (.sl 3 (.int .i64)))))),y0⟩)),(.T 1,.t (.val false [.int .i64 y1])),(.T 5,.t (.val false [.int .i64 y2]))] => some (okO (g_Lw_markFroTxS_0 (y0,y1,y2)),(.leaf (.exit 0) [(.T 0,.t (.val false [.row 0 0 0])),(.R 0 0,.r 0 (some ⟨false,.any,true,73,(.pair (.int .i64) (.pair (.pair (.int .i64) (.pair (.int .i64) (.pair (.int .i64) (.pair (.int .i64) (.pair (.int .i64) (.pair (.int .i64) (.int .i64))))))) (.pair .bool (.pair (.sl 3 (.int .i64)) (.sl 3 (.int .i64)))))),(valO (g_Lw_markFroTxS_0 (y0,y1,y2))).1⟩)),(.T 1,.t (.val false [.int .i64 (valO (g_Lw_markFroTxS_0 (y0,y1,y2))).2]))]))
 | b,h => Ow_markFroTxS_0 b h
theorem bw_markFroTxS_0 (y0:tL1) (y1:Int) (y2:Int):Tr.bt Ew_markFroTxS Ow_markFroTxS_0 (exec Ew_markFroTxS 0 cw_markFroTxS_0 (St.of (hw_markFroTxS_0 y0 y1 y2)) (leafRd Ew_markFroTxS 0)) = (g_Sw_markFroTxS_0 (y0,y1,y2)).bt (fun ((y0,y1,y2):tL1×Int×Int) => (hw_markFroTxS_0 y0 y1 y2)) (xw_markFroTxS_0) := by kernel_rfl
theorem kw_markFroTxS_1:OrcOk Ew_markFroTxS Ow_markFroTxS_1 lsw_markFroTxS 1 := orc_add kw_markFroTxS_0 (fun n p hp h ex h' ho => by
 obtain ⟨b,c⟩ := p
 obtain ⟨xt,h1,h2⟩ := ho
 have h1:Ow_markFroTxS_1 b h = some (true,xt) := h1
 unfold Ow_markFroTxS_1 at h1
 split at h1
 ·injection h1 with h1
  injection h1 with e1 e2
  subst e2
  have hc:c = cw_markFroTxS_0 := mw_markFroTxS_0 _ hp rfl
  subst hc
  right
  rename_i y0 y1 y2
  have key := LT_step kw_markFroTxS_0 hp (fun q hq => loopsAll_in _ _ _ _ hp hq) (fun ((y0,y1,y2):tL1×Int×Int) => (hw_markFroTxS_0 y0 y1 y2)) (xw_markFroTxS_0) (g_Sw_markFroTxS_0) (fun x => by first | exact bw_markFroTxS_0 x.1 x.2.1 x.2.2) n (x := (y0,y1,y2)) (okO_some e1)
  have hx:∀ r,XT.sel (.leaf (.exit 0) [(.T 0,.t (.val false [.row 0 0 0])),(.R 0 0,.r 0 (some ⟨false,.any,true,73,(.pair (.int .i64) (.pair (.pair (.int .i64) (.pair (.int .i64) (.pair (.int .i64) (.pair (.int .i64) (.pair (.int .i64) (.pair (.int .i64) (.int .i64))))))) (.pair .bool (.pair (.sl 3 (.int .i64)) (.sl 3 (.int .i64)))))),r.1⟩)),(.T 1,.t (.val false [.int .i64 r.2]))]) = xw_markFroTxS_0 r := fun r => by first | rfl | rcases r with r | r <;> rfl | rcases r with r | r | r <;> rfl | rcases r with r | r | r | r <;> rfl
  have h3 := (hx (valO (g_Lw_markFroTxS_0 (y0,y1,y2)))).symm.trans h2
  have e3 := congrArg Prod.fst h3
  have e4 := congrArg Prod.snd h3
  simp only at e3 e4
  rw [← e3,← e4]
  exact key
 ·exact .inl ⟨xt,h1,h2⟩)
def g_Aw_markFroTxS (a0:tL1) (a1:Int):Bool := okO (g_Lw_markFroTxS_0 (a0,a1,(0:Int)))
def g_Vw_markFroTxS_0 (a0:tL1) (a1:Int):Int := (valO (g_Lw_markFroTxS_0 (a0,a1,(0:Int)))).2
def g_Vw_markFroTxS_1 (a0:tL1) (a1:Int):tL1 := (valO (g_Lw_markFroTxS_0 (a0,a1,(0:Int)))).1
def Fw_markFroTxS:FSem := fun ys => match ys with
 | [.val false [.own .any true 73 (.pair (.int .i64) (.pair (.pair (.int .i64) (.pair (.int .i64) (.pair (.int .i64) (.pair (.int .i64) (.pair (.int .i64) (.pair (.int .i64) (.int .i64))))))) (.pair .bool (.pair (.sl 3 (.int .i64)) (.sl 3 (.int .i64)))))) a0],.val false [.int .i64 a1]] => some ((g_Aw_markFroTxS a0 a1),.val false [.int .i64 (g_Vw_markFroTxS_0 a0 a1)],[[.own .any true 73 (.pair (.int .i64) (.pair (.pair (.int .i64) (.pair (.int .i64) (.pair (.int .i64) (.pair (.int .i64) (.pair (.int .i64) (.pair (.int .i64) (.int .i64))))))) (.pair .bool (.pair (.sl 3 (.int .i64)) (.sl 3 (.int .i64)))))) (g_Vw_markFroTxS_1 a0 a1)]])
 | _ => none
theorem vw_markFroTxS (a0:tL1) (a1:Int):collapseH .std Ew_markFroTxS Ow_markFroTxS_1 (execFn Ew_markFroTxS Tryz.f45 msw_markFroTxS [.val false [.own .any true 73 (.pair (.int .i64) (.pair (.pair (.int .i64) (.pair (.int .i64) (.pair (.int .i64) (.pair (.int .i64) (.pair (.int .i64) (.pair (.int .i64) (.int .i64))))))) (.pair .bool (.pair (.sl 3 (.int .i64)) (.sl 3 (.int .i64)))))) a0],.val false [.int .i64 a1]]) = some ((g_Aw_markFroTxS a0 a1),.val false [.int .i64 (g_Vw_markFroTxS_0 a0 a1)],[[.own .any true 73 (.pair (.int .i64) (.pair (.pair (.int .i64) (.pair (.int .i64) (.pair (.int .i64) (.pair (.int .i64) (.pair (.int .i64) (.pair (.int .i64) (.int .i64))))))) (.pair .bool (.pair (.sl 3 (.int .i64)) (.sl 3 (.int .i64)))))) (g_Vw_markFroTxS_1 a0 a1)]]) := by kernel_rfl
theorem sw_markFroTxS:Sound Tryz.prog 45 msw_markFroTxS Fw_markFroTxS := by
 refine fn_gen goodw_markFroTxS (by kernel_rfl) .std (fn := Tryz.f45) (c := (Tryz.f45.body.getD .skip)) (o := Ow_markFroTxS_1) (k := 1) (by kernel_rfl) (by kernel_rfl) (by kernel_rfl) (by kernel_rfl) (by decide) kw_markFroTxS_1 ?_
 intro ys r outs h
 unfold Fw_markFroTxS at h
 split at h
 ·exact (vw_markFroTxS _ _).trans h
 ·cases h
def Ew_markStoWriteS:Env where
 tt := mkTI Tryz.prog
 fn := fun f => match f with
  | 106 => some (msw_markIntS,FSem.wk msw_markIntS Fw_markIntS)
  | 168 => some (msw_markText,FSem.wk msw_markText Fw_markText)
  | _ => none
 bxf := fun _ => none
 mv := []
 keep := fun b => match b with
  | 0 => [(0,false),(1,false),(5,false)]
  | _ => []
 keepB := fun b => match b with
  | 0 => []
  | _ => []
 keepX := fun b => match b with
  | 0 => [(0,false),(1,false)]
  | _ => []
 keepXB := fun b => match b with
  | 0 => []
  | _ => []
 nest := [33]
theorem goodFw_markStoWriteS:∀ f ms F,Ew_markStoWriteS.fn f = some (ms,F) → Sound Tryz.prog f ms F := fun f ms F h => by
 unfold Ew_markStoWriteS at h
 dsimp only at h
 split at h
 ·exact gF sw_markIntS h
 ·exact gF sw_markText h
 ·cases h
theorem goodw_markStoWriteS:Good Tryz.prog Ew_markStoWriteS := ⟨rfl,goodFw_markStoWriteS,fun f ms F h => by cases h⟩
def Ow_markStoWriteS_0:Orc := fun _ _ => none
def msw_markStoWriteS:List PM := [.«mut»,.own]
def lsw_markStoWriteS:List (Nat×Code) := loopsAll 0 (Tryz.f144.body.getD .skip)
def cw_markStoWriteS_0:Code := (loopOf 0 (Tryz.f144.body.getD .skip)).getD .skip
theorem lseqw_markStoWriteS:lsw_markStoWriteS = [(0,cw_markStoWriteS_0)] := by kernel_rfl
theorem mw_markStoWriteS_0:∀ p,p ∈ lsw_markStoWriteS → p.1 = 0 → p.2 = cw_markStoWriteS_0 := by
 intro p hp
 rw [lseqw_markStoWriteS] at hp
 simp only [List.mem_cons,List.not_mem_nil,or_false] at hp
 subst hp; simp
theorem kw_markStoWriteS_0:OrcOk Ew_markStoWriteS Ow_markStoWriteS_0 lsw_markStoWriteS 0 := orcOk_none
def hw_markStoWriteS_0 (y0:tL2) (y1:Int) (y2:Int):List (Pl×LV) := [(.T 0,.t (.val false [.row 0 0 0])),(.R 0 0,.r 0 (some ⟨false,.any,true,155,(.pair .str (.pair .bool (.sl 3 (.int .i64)))),y0⟩)),(.T 1,.t (.val false [.int .i64 y1])),(.T 5,.t (.val false [.int .i64 y2]))]
abbrev uq1260 (y0:tL2) (y1 y2:Int):tL2 := updE yT2 y0 (Int.toNat y2) fun x => (g_Vw_markText_0 y1,x.2.1,x.2.2)
abbrev uq1261 (y0:tL2) (y1 y2:Int):tL2 := updE yT2 (uq1260 y0 y1 y2) (Int.toNat y2) fun x => (x.1,Int.tmod (IntKind.i64.wrap (y1 + 1)) (3:Int) == (0:Int),x.2.2)
def g_Sw_markStoWriteS_0:(tL2×Int×Int) → RT (tL2×Int×Int) ((tL2×Int))
 | (y0,y1,y2) => .br (true) (.br (decide (y2 < (y0.length:Int))) (.br (g_Aw_markText y1) (.br (decide (0 ≤ y2 ∧ y2 < (y0.length:Int))) (.br (decide (Int.toNat y2 < List.length y0)) (.br (true) (.br (true) (.br (true) (.br (decide (0 ≤ y2 ∧ y2 < (↑(List.length (uq1260 y0 y1 y2)):Int))) (.br (decide (Int.toNat y2 < List.length (uq1260 y0 y1 y2))) (.br (true) (.br (decide (0 ≤ y2 ∧ y2 < (↑(List.length (uq1261 y0 y1 y2)):Int))) (.br (decide (Int.toNat y2 < List.length (uq1261 y0 y1 y2))) (.br (g_Aw_markIntS (at_ yT2 (uq1261 y0 y1 y2) (Int.toNat y2)).2.2 (IntKind.i64.wrap (IntKind.i64.wrap (y1 + 1) + 1))) (.br (true) (.go ((updE yT2 (uq1261 y0 y1 y2) (Int.toNat y2) fun q => (q.1,q.2.1,g_Vw_markIntS_1 q.2.2 (IntKind.i64.wrap (IntKind.i64.wrap (y1 + 1) + 1))),g_Vw_markIntS_0 (at_ yT2 (uq1261 y0 y1 y2) (Int.toNat y2)).2.2 (IntKind.i64.wrap (IntKind.i64.wrap (y1 + 1) + 1)),IntKind.i64.wrap (y2 + 1)))) .bad) .bad) .bad) .bad) .bad) .bad) .bad) .bad) .bad) .bad) .bad) .bad) .bad) (.out ((y0,y1)))) .bad
def g_Lw_markStoWriteS_0 (x:tL2×Int×Int):Option ((tL2×Int)) := loopO (g_Sw_markStoWriteS_0) x
def xw_markStoWriteS_0:((tL2×Int)) → Ex×List (Pl×LV) := fun r => (.exit 0,[(.T 0,.t (.val false [.row 0 0 0])),(.R 0 0,.r 0 (some ⟨false,.any,true,155,(.pair .str (.pair .bool (.sl 3 (.int .i64)))),r.1⟩)),(.T 1,.t (.val false [.int .i64 r.2]))])
def Ow_markStoWriteS_1:Orc := fun b h => match b,h with
 | 0,[(.T 0,.t (.val false [.row 0 0 0])),(.R 0 0,.r 0 (some ⟨false,.any,true,155,(.pair .str (.pair .bool (.sl 3 (.int .i64)))),y0⟩)),(.T 1,.t (.val false [.int .i64 y1])),(.T 5,.t (.val false [.int .i64 y2]))] => some (okO (g_Lw_markStoWriteS_0 (y0,y1,y2)),(.leaf (.exit 0) [(.T 0,.t (.val false [.row 0 0 0])),(.R 0 0,.r 0 (some ⟨false,.any,true,155,(.pair .str (.pair .bool (.sl 3 (.int .i64)))),(valO (g_Lw_markStoWriteS_0 (y0,y1,y2))).1⟩)),(.T 1,.t (.val false [.int .i64 (valO (g_Lw_markStoWriteS_0 (y0,y1,y2))).2]))]))
 | b,h => Ow_markStoWriteS_0 b h
theorem bw_markStoWriteS_0 (y0:tL2) (y1:Int) (y2:Int):Tr.bt Ew_markStoWriteS Ow_markStoWriteS_0 (exec Ew_markStoWriteS 0 cw_markStoWriteS_0 (St.of (hw_markStoWriteS_0 y0 y1 y2)) (leafRd Ew_markStoWriteS 0)) = (g_Sw_markStoWriteS_0 (y0,y1,y2)).bt (fun ((y0,y1,y2):tL2×Int×Int) => (hw_markStoWriteS_0 y0 y1 y2)) (xw_markStoWriteS_0) := by kernel_rfl
theorem kw_markStoWriteS_1:OrcOk Ew_markStoWriteS Ow_markStoWriteS_1 lsw_markStoWriteS 1 := orc_add kw_markStoWriteS_0 (fun n p hp h ex h' ho => by
 obtain ⟨b,c⟩ := p
 obtain ⟨xt,h1,h2⟩ := ho
 have h1:Ow_markStoWriteS_1 b h = some (true,xt) := h1
 unfold Ow_markStoWriteS_1 at h1
 split at h1
 ·injection h1 with h1
  injection h1 with e1 e2
  subst e2
  have hc:c = cw_markStoWriteS_0 := mw_markStoWriteS_0 _ hp rfl
  subst hc
  right
  rename_i y0 y1 y2
  have key := LT_step kw_markStoWriteS_0 hp (fun q hq => loopsAll_in _ _ _ _ hp hq) (fun ((y0,y1,y2):tL2×Int×Int) => (hw_markStoWriteS_0 y0 y1 y2)) (xw_markStoWriteS_0) (g_Sw_markStoWriteS_0) (fun x => by first | exact bw_markStoWriteS_0 x.1 x.2.1 x.2.2) n (x := (y0,y1,y2)) (okO_some e1)
  have hx:∀ r,XT.sel (.leaf (.exit 0) [(.T 0,.t (.val false [.row 0 0 0])),(.R 0 0,.r 0 (some ⟨false,.any,true,155,(.pair .str (.pair .bool (.sl 3 (.int .i64)))),r.1⟩)),(.T 1,.t (.val false [.int .i64 r.2]))]) = xw_markStoWriteS_0 r := fun r => by first | rfl | rcases r with r | r <;> rfl | rcases r with r | r | r <;> rfl | rcases r with r | r | r | r <;> rfl
  have h3 := (hx (valO (g_Lw_markStoWriteS_0 (y0,y1,y2)))).symm.trans h2
  have e3 := congrArg Prod.fst h3
  have e4 := congrArg Prod.snd h3
  simp only at e3 e4
  rw [← e3,← e4]
  exact key
 ·exact .inl ⟨xt,h1,h2⟩)
def g_Aw_markStoWriteS (a0:tL2) (a1:Int):Bool := okO (g_Lw_markStoWriteS_0 (a0,a1,(0:Int)))
def g_Vw_markStoWriteS_0 (a0:tL2) (a1:Int):Int := (valO (g_Lw_markStoWriteS_0 (a0,a1,(0:Int)))).2
def g_Vw_markStoWriteS_1 (a0:tL2) (a1:Int):tL2 := (valO (g_Lw_markStoWriteS_0 (a0,a1,(0:Int)))).1
def Fw_markStoWriteS:FSem := fun ys => match ys with
 | [.val false [.own .any true 155 (.pair .str (.pair .bool (.sl 3 (.int .i64)))) a0],.val false [.int .i64 a1]] => some ((g_Aw_markStoWriteS a0 a1),.val false [.int .i64 (g_Vw_markStoWriteS_0 a0 a1)],[[.own .any true 155 (.pair .str (.pair .bool (.sl 3 (.int .i64)))) (g_Vw_markStoWriteS_1 a0 a1)]])
 | _ => none
theorem vw_markStoWriteS (a0:tL2) (a1:Int):collapseH .std Ew_markStoWriteS Ow_markStoWriteS_1 (execFn Ew_markStoWriteS Tryz.f144 msw_markStoWriteS [.val false [.own .any true 155 (.pair .str (.pair .bool (.sl 3 (.int .i64)))) a0],.val false [.int .i64 a1]]) = some ((g_Aw_markStoWriteS a0 a1),.val false [.int .i64 (g_Vw_markStoWriteS_0 a0 a1)],[[.own .any true 155 (.pair .str (.pair .bool (.sl 3 (.int .i64)))) (g_Vw_markStoWriteS_1 a0 a1)]]) := by kernel_rfl
theorem sw_markStoWriteS:Sound Tryz.prog 144 msw_markStoWriteS Fw_markStoWriteS := by
 refine fn_gen goodw_markStoWriteS (by kernel_rfl) .std (fn := Tryz.f144) (c := (Tryz.f144.body.getD .skip)) (o := Ow_markStoWriteS_1) (k := 1) (by kernel_rfl) (by kernel_rfl) (by kernel_rfl) (by kernel_rfl) (by decide) kw_markStoWriteS_1 ?_
 intro ys r outs h
 unfold Fw_markStoWriteS at h
 split at h
 ·exact (vw_markStoWriteS _ _).trans h
 ·cases h
def Ew_markStringS:Env where
 tt := mkTI Tryz.prog
 fn := fun f => match f with
  | 168 => some (msw_markText,FSem.wk msw_markText Fw_markText)
  | _ => none
 bxf := fun _ => none
 mv := []
 keep := fun b => match b with
  | 0 => [(0,false),(1,false),(5,false)]
  | _ => []
 keepB := fun b => match b with
  | 0 => []
  | _ => []
 keepX := fun b => match b with
  | 0 => [(0,false),(1,false)]
  | _ => []
 keepXB := fun b => match b with
  | 0 => []
  | _ => []
theorem goodFw_markStringS:∀ f ms F,Ew_markStringS.fn f = some (ms,F) → Sound Tryz.prog f ms F := fun f ms F h => by
 unfold Ew_markStringS at h
 dsimp only at h
 split at h
 ·exact gF sw_markText h
 ·cases h
theorem goodw_markStringS:Good Tryz.prog Ew_markStringS := ⟨rfl,goodFw_markStringS,fun f ms F h => by cases h⟩
def Ow_markStringS_0:Orc := fun _ _ => none
def msw_markStringS:List PM := [.«mut»,.own]
def lsw_markStringS:List (Nat×Code) := loopsAll 0 (Tryz.f143.body.getD .skip)
def cw_markStringS_0:Code := (loopOf 0 (Tryz.f143.body.getD .skip)).getD .skip
theorem lseqw_markStringS:lsw_markStringS = [(0,cw_markStringS_0)] := by kernel_rfl
theorem mw_markStringS_0:∀ p,p ∈ lsw_markStringS → p.1 = 0 → p.2 = cw_markStringS_0 := by
 intro p hp
 rw [lseqw_markStringS] at hp
 simp only [List.mem_cons,List.not_mem_nil,or_false] at hp
 subst hp; simp
theorem kw_markStringS_0:OrcOk Ew_markStringS Ow_markStringS_0 lsw_markStringS 0 := orcOk_none
def hw_markStringS_0 (y0:List ByteArray) (y1:Int) (y2:Int):List (Pl×LV) := [(.T 0,.t (.val false [.row 0 0 0])),(.R 0 0,.r 0 (some ⟨false,.any,true,9,.str,y0⟩)),(.T 1,.t (.val false [.int .i64 y1])),(.T 5,.t (.val false [.int .i64 y2]))]
def g_Sw_markStringS_0:((List ByteArray)×Int×Int) → RT ((List ByteArray)×Int×Int) (((List ByteArray)×Int))
 | (y0,y1,y2) => .br (true) (.br (decide (y2 < (y0.length:Int))) (.br (g_Aw_markText y1) (.br (decide (0 ≤ y2 ∧ y2 < (y0.length:Int))) (.br (decide (Int.toNat y2 < List.length y0)) (.br (true) (.br (true) (.go ((List.set y0 (Int.toNat y2) (g_Vw_markText_0 y1),IntKind.i64.wrap (y1 + 1),IntKind.i64.wrap (y2 + 1)))) .bad) .bad) .bad) .bad) .bad) (.out ((y0,y1)))) .bad
def g_Lw_markStringS_0 (x:(List ByteArray)×Int×Int):Option (((List ByteArray)×Int)) := loopO (g_Sw_markStringS_0) x
def xw_markStringS_0:(((List ByteArray)×Int)) → Ex×List (Pl×LV) := fun r => (.exit 0,[(.T 0,.t (.val false [.row 0 0 0])),(.R 0 0,.r 0 (some ⟨false,.any,true,9,.str,r.1⟩)),(.T 1,.t (.val false [.int .i64 r.2]))])
def Ow_markStringS_1:Orc := fun b h => match b,h with
 | 0,[(.T 0,.t (.val false [.row 0 0 0])),(.R 0 0,.r 0 (some ⟨false,.any,true,9,.str,y0⟩)),(.T 1,.t (.val false [.int .i64 y1])),(.T 5,.t (.val false [.int .i64 y2]))] => some (okO (g_Lw_markStringS_0 (y0,y1,y2)),(.leaf (.exit 0) [(.T 0,.t (.val false [.row 0 0 0])),(.R 0 0,.r 0 (some ⟨false,.any,true,9,.str,(valO (g_Lw_markStringS_0 (y0,y1,y2))).1⟩)),(.T 1,.t (.val false [.int .i64 (valO (g_Lw_markStringS_0 (y0,y1,y2))).2]))]))
 | b,h => Ow_markStringS_0 b h
theorem bw_markStringS_0 (y0:List ByteArray) (y1:Int) (y2:Int):Tr.bt Ew_markStringS Ow_markStringS_0 (exec Ew_markStringS 0 cw_markStringS_0 (St.of (hw_markStringS_0 y0 y1 y2)) (leafRd Ew_markStringS 0)) = (g_Sw_markStringS_0 (y0,y1,y2)).bt (fun ((y0,y1,y2):(List ByteArray)×Int×Int) => (hw_markStringS_0 y0 y1 y2)) (xw_markStringS_0) := by kernel_rfl
theorem kw_markStringS_1:OrcOk Ew_markStringS Ow_markStringS_1 lsw_markStringS 1 := orc_add kw_markStringS_0 (fun n p hp h ex h' ho => by
 obtain ⟨b,c⟩ := p
 obtain ⟨xt,h1,h2⟩ := ho
 have h1:Ow_markStringS_1 b h = some (true,xt) := h1
 unfold Ow_markStringS_1 at h1
 split at h1
 ·injection h1 with h1
  injection h1 with e1 e2
  subst e2
  have hc:c = cw_markStringS_0 := mw_markStringS_0 _ hp rfl
  subst hc
  right
  rename_i y0 y1 y2
  have key := LT_step kw_markStringS_0 hp (fun q hq => loopsAll_in _ _ _ _ hp hq) (fun ((y0,y1,y2):(List ByteArray)×Int×Int) => (hw_markStringS_0 y0 y1 y2)) (xw_markStringS_0) (g_Sw_markStringS_0) (fun x => by first | exact bw_markStringS_0 x.1 x.2.1 x.2.2) n (x := (y0,y1,y2)) (okO_some e1)
  have hx:∀ r,XT.sel (.leaf (.exit 0) [(.T 0,.t (.val false [.row 0 0 0])),(.R 0 0,.r 0 (some ⟨false,.any,true,9,.str,r.1⟩)),(.T 1,.t (.val false [.int .i64 r.2]))]) = xw_markStringS_0 r := fun r => by first | rfl | rcases r with r | r <;> rfl | rcases r with r | r | r <;> rfl | rcases r with r | r | r | r <;> rfl
  have h3 := (hx (valO (g_Lw_markStringS_0 (y0,y1,y2)))).symm.trans h2
  have e3 := congrArg Prod.fst h3
  have e4 := congrArg Prod.snd h3
  simp only at e3 e4
  rw [← e3,← e4]
  exact key
 ·exact .inl ⟨xt,h1,h2⟩)
def g_Aw_markStringS (a0:List ByteArray) (a1:Int):Bool := okO (g_Lw_markStringS_0 (a0,a1,(0:Int)))
def g_Vw_markStringS_0 (a0:List ByteArray) (a1:Int):Int := (valO (g_Lw_markStringS_0 (a0,a1,(0:Int)))).2
def g_Vw_markStringS_1 (a0:List ByteArray) (a1:Int):List ByteArray := (valO (g_Lw_markStringS_0 (a0,a1,(0:Int)))).1
def Fw_markStringS:FSem := fun ys => match ys with
 | [.val false [.own .any true 9 .str a0],.val false [.int .i64 a1]] => some ((g_Aw_markStringS a0 a1),.val false [.int .i64 (g_Vw_markStringS_0 a0 a1)],[[.own .any true 9 .str (g_Vw_markStringS_1 a0 a1)]])
 | _ => none
theorem vw_markStringS (a0:List ByteArray) (a1:Int):collapseH .std Ew_markStringS Ow_markStringS_1 (execFn Ew_markStringS Tryz.f143 msw_markStringS [.val false [.own .any true 9 .str a0],.val false [.int .i64 a1]]) = some ((g_Aw_markStringS a0 a1),.val false [.int .i64 (g_Vw_markStringS_0 a0 a1)],[[.own .any true 9 .str (g_Vw_markStringS_1 a0 a1)]]) := by kernel_rfl
theorem sw_markStringS:Sound Tryz.prog 143 msw_markStringS Fw_markStringS := by
 refine fn_gen goodw_markStringS (by kernel_rfl) .std (fn := Tryz.f143) (c := (Tryz.f143.body.getD .skip)) (o := Ow_markStringS_1) (k := 1) (by kernel_rfl) (by kernel_rfl) (by kernel_rfl) (by kernel_rfl) (by decide) kw_markStringS_1 ?_
 intro ys r outs h
 unfold Fw_markStringS at h
 split at h
 ·exact (vw_markStringS _ _).trans h
 ·cases h
def Ew_markLogNoteS:Env where
 tt := mkTI Tryz.prog
 fn := fun f => match f with
  | 143 => some (msw_markStringS,FSem.wk msw_markStringS Fw_markStringS)
  | 144 => some (msw_markStoWriteS,FSem.wk msw_markStoWriteS Fw_markStoWriteS)
  | _ => none
 bxf := fun _ => none
 mv := []
 keep := fun b => match b with
  | 0 => [(0,false),(1,false),(5,false)]
  | _ => []
 keepB := fun b => match b with
  | 0 => []
  | _ => []
 keepX := fun b => match b with
  | 0 => [(0,false),(1,false)]
  | _ => []
 keepXB := fun b => match b with
  | 0 => []
  | _ => []
 nest := [30,37]
theorem goodFw_markLogNoteS:∀ f ms F,Ew_markLogNoteS.fn f = some (ms,F) → Sound Tryz.prog f ms F := fun f ms F h => by
 unfold Ew_markLogNoteS at h
 dsimp only at h
 split at h
 ·exact gF sw_markStringS h
 ·exact gF sw_markStoWriteS h
 ·cases h
theorem goodw_markLogNoteS:Good Tryz.prog Ew_markLogNoteS := ⟨rfl,goodFw_markLogNoteS,fun f ms F h => by cases h⟩
def Ow_markLogNoteS_0:Orc := fun _ _ => none
def msw_markLogNoteS:List PM := [.«mut»,.own]
def lsw_markLogNoteS:List (Nat×Code) := loopsAll 0 (Tryz.f105.body.getD .skip)
def cw_markLogNoteS_0:Code := (loopOf 0 (Tryz.f105.body.getD .skip)).getD .skip
theorem lseqw_markLogNoteS:lsw_markLogNoteS = [(0,cw_markLogNoteS_0)] := by kernel_rfl
theorem mw_markLogNoteS_0:∀ p,p ∈ lsw_markLogNoteS → p.1 = 0 → p.2 = cw_markLogNoteS_0 := by
 intro p hp
 rw [lseqw_markLogNoteS] at hp
 simp only [List.mem_cons,List.not_mem_nil,or_false] at hp
 subst hp; simp
theorem kw_markLogNoteS_0:OrcOk Ew_markLogNoteS Ow_markLogNoteS_0 lsw_markLogNoteS 0 := orcOk_none
def hw_markLogNoteS_0 (y0:tL0) (y1:Int) (y2:Int):List (Pl×LV) := [(.T 0,.t (.val false [.row 0 0 0])),(.R 0 0,.r 0 (some ⟨false,.any,true,92,(.pair (.int .i64) (.pair (.int .i64) (.pair (.sl 9 .str) (.sl 155 (.pair .str (.pair .bool (.sl 3 (.int .i64)))))))),y0⟩)),(.T 1,.t (.val false [.int .i64 y1])),(.T 5,.t (.val false [.int .i64 y2]))]
abbrev uq1280 (y0:tL0) (y1 y2:Int):tL0 := updE yT1 y0 (Int.toNat y2) fun x => (y1,x.2.1,x.2.2.1,x.2.2.2)
abbrev uq1281 (y0:tL0) (y1 y2:Int):tL0 := updE yT1 (uq1280 y0 y1 y2) (Int.toNat y2) fun x => (x.1,IntKind.i64.wrap (y1 + 1),x.2.2.1,x.2.2.2)
abbrev uq1282 (y0:tL0) (y1 y2:Int):tL0 := updE yT1 (uq1281 y0 y1 y2) (Int.toNat y2) fun q => (q.1,q.2.1,g_Vw_markStringS_1 q.2.2.1 (IntKind.i64.wrap (IntKind.i64.wrap (y1 + 1) + 1)),q.2.2.2)
def g_Sw_markLogNoteS_0:(tL0×Int×Int) → RT (tL0×Int×Int) ((tL0×Int))
 | (y0,y1,y2) => .br (true) (.br (decide (y2 < (y0.length:Int))) (.br (decide (0 ≤ y2 ∧ y2 < (y0.length:Int))) (.br (decide (Int.toNat y2 < List.length y0)) (.br (true) (.br (decide (0 ≤ y2 ∧ y2 < (↑(List.length (uq1280 y0 y1 y2)):Int))) (.br (decide (Int.toNat y2 < List.length (uq1280 y0 y1 y2))) (.br (true) (.br (decide (0 ≤ y2 ∧ y2 < (↑(List.length (uq1281 y0 y1 y2)):Int))) (.br (decide (Int.toNat y2 < List.length (uq1281 y0 y1 y2))) (.br (g_Aw_markStringS (at_ yT1 (uq1281 y0 y1 y2) (Int.toNat y2)).2.2.1 (IntKind.i64.wrap (IntKind.i64.wrap (y1 + 1) + 1))) (.br (decide (0 ≤ y2 ∧ y2 < (↑(List.length (uq1282 y0 y1 y2)):Int))) (.br (decide (Int.toNat y2 < List.length (uq1282 y0 y1 y2))) (.br (g_Aw_markStoWriteS (at_ yT1 (uq1282 y0 y1 y2) (Int.toNat y2)).2.2.2 (g_Vw_markStringS_0 (at_ yT1 (uq1281 y0 y1 y2) (Int.toNat y2)).2.2.1 (IntKind.i64.wrap (IntKind.i64.wrap (y1 + 1) + 1)))) (.br (true) (.go ((updE yT1 (uq1282 y0 y1 y2) (Int.toNat y2) fun q => (q.1,q.2.1,q.2.2.1,g_Vw_markStoWriteS_1 q.2.2.2 (g_Vw_markStringS_0 (at_ yT1 (uq1281 y0 y1 y2) (Int.toNat y2)).2.2.1 (IntKind.i64.wrap (IntKind.i64.wrap (y1 + 1) + 1)))),g_Vw_markStoWriteS_0 (at_ yT1 (uq1282 y0 y1 y2) (Int.toNat y2)).2.2.2 (g_Vw_markStringS_0 (at_ yT1 (uq1281 y0 y1 y2) (Int.toNat y2)).2.2.1 (IntKind.i64.wrap (IntKind.i64.wrap (y1 + 1) + 1))),IntKind.i64.wrap (y2 + 1)))) .bad) .bad) .bad) .bad) .bad) .bad) .bad) .bad) .bad) .bad) .bad) .bad) .bad) (.out ((y0,y1)))) .bad
def g_Lw_markLogNoteS_0 (x:tL0×Int×Int):Option ((tL0×Int)) := loopO (g_Sw_markLogNoteS_0) x
def xw_markLogNoteS_0:((tL0×Int)) → Ex×List (Pl×LV) := fun r => (.exit 0,[(.T 0,.t (.val false [.row 0 0 0])),(.R 0 0,.r 0 (some ⟨false,.any,true,92,(.pair (.int .i64) (.pair (.int .i64) (.pair (.sl 9 .str) (.sl 155 (.pair .str (.pair .bool (.sl 3 (.int .i64)))))))),r.1⟩)),(.T 1,.t (.val false [.int .i64 r.2]))])
def Ow_markLogNoteS_1:Orc := fun b h => match b,h with
 | 0,[(.T 0,.t (.val false [.row 0 0 0])),(.R 0 0,.r 0 (some ⟨false,.any,true,92,(.pair (.int .i64) (.pair (.int .i64) (.pair (.sl 9 .str) (.sl 155 (.pair .str (.pair .bool (.sl 3 (.int .i64)))))))),y0⟩)),(.T 1,.t (.val false [.int .i64 y1])),(.T 5,.t (.val false [.int .i64 y2]))] => some (okO (g_Lw_markLogNoteS_0 (y0,y1,y2)),(.leaf (.exit 0) [(.T 0,.t (.val false [.row 0 0 0])),(.R 0 0,.r 0 (some ⟨false,.any,true,92,(.pair (.int .i64) (.pair (.int .i64) (.pair (.sl 9 .str) (.sl 155 (.pair .str (.pair .bool (.sl 3 (.int .i64)))))))),(valO (g_Lw_markLogNoteS_0 (y0,y1,y2))).1⟩)),(.T 1,.t (.val false [.int .i64 (valO (g_Lw_markLogNoteS_0 (y0,y1,y2))).2]))]))
 | b,h => Ow_markLogNoteS_0 b h
theorem bw_markLogNoteS_0 (y0:tL0) (y1:Int) (y2:Int):Tr.bt Ew_markLogNoteS Ow_markLogNoteS_0 (exec Ew_markLogNoteS 0 cw_markLogNoteS_0 (St.of (hw_markLogNoteS_0 y0 y1 y2)) (leafRd Ew_markLogNoteS 0)) = (g_Sw_markLogNoteS_0 (y0,y1,y2)).bt (fun ((y0,y1,y2):tL0×Int×Int) => (hw_markLogNoteS_0 y0 y1 y2)) (xw_markLogNoteS_0) := by kernel_rfl
theorem kw_markLogNoteS_1:OrcOk Ew_markLogNoteS Ow_markLogNoteS_1 lsw_markLogNoteS 1 := orc_add kw_markLogNoteS_0 (fun n p hp h ex h' ho => by
 obtain ⟨b,c⟩ := p
 obtain ⟨xt,h1,h2⟩ := ho
 have h1:Ow_markLogNoteS_1 b h = some (true,xt) := h1
 unfold Ow_markLogNoteS_1 at h1
 split at h1
 ·injection h1 with h1
  injection h1 with e1 e2
  subst e2
  have hc:c = cw_markLogNoteS_0 := mw_markLogNoteS_0 _ hp rfl
  subst hc
  right
  rename_i y0 y1 y2
  have key := LT_step kw_markLogNoteS_0 hp (fun q hq => loopsAll_in _ _ _ _ hp hq) (fun ((y0,y1,y2):tL0×Int×Int) => (hw_markLogNoteS_0 y0 y1 y2)) (xw_markLogNoteS_0) (g_Sw_markLogNoteS_0) (fun x => by first | exact bw_markLogNoteS_0 x.1 x.2.1 x.2.2) n (x := (y0,y1,y2)) (okO_some e1)
  have hx:∀ r,XT.sel (.leaf (.exit 0) [(.T 0,.t (.val false [.row 0 0 0])),(.R 0 0,.r 0 (some ⟨false,.any,true,92,(.pair (.int .i64) (.pair (.int .i64) (.pair (.sl 9 .str) (.sl 155 (.pair .str (.pair .bool (.sl 3 (.int .i64)))))))),r.1⟩)),(.T 1,.t (.val false [.int .i64 r.2]))]) = xw_markLogNoteS_0 r := fun r => by first | rfl | rcases r with r | r <;> rfl | rcases r with r | r | r <;> rfl | rcases r with r | r | r | r <;> rfl
  have h3 := (hx (valO (g_Lw_markLogNoteS_0 (y0,y1,y2)))).symm.trans h2
  have e3 := congrArg Prod.fst h3
  have e4 := congrArg Prod.snd h3
  simp only at e3 e4
  rw [← e3,← e4]
  exact key
 ·exact .inl ⟨xt,h1,h2⟩)
def g_Aw_markLogNoteS (a0:tL0) (a1:Int):Bool := okO (g_Lw_markLogNoteS_0 (a0,a1,(0:Int)))
def g_Vw_markLogNoteS_0 (a0:tL0) (a1:Int):Int := (valO (g_Lw_markLogNoteS_0 (a0,a1,(0:Int)))).2
def g_Vw_markLogNoteS_1 (a0:tL0) (a1:Int):tL0 := (valO (g_Lw_markLogNoteS_0 (a0,a1,(0:Int)))).1
def Fw_markLogNoteS:FSem := fun ys => match ys with
 | [.val false [.own .any true 92 (.pair (.int .i64) (.pair (.int .i64) (.pair (.sl 9 .str) (.sl 155 (.pair .str (.pair .bool (.sl 3 (.int .i64)))))))) a0],.val false [.int .i64 a1]] => some ((g_Aw_markLogNoteS a0 a1),.val false [.int .i64 (g_Vw_markLogNoteS_0 a0 a1)],[[.own .any true 92 (.pair (.int .i64) (.pair (.int .i64) (.pair (.sl 9 .str) (.sl 155 (.pair .str (.pair .bool (.sl 3 (.int .i64)))))))) (g_Vw_markLogNoteS_1 a0 a1)]])
 | _ => none
theorem vw_markLogNoteS (a0:tL0) (a1:Int):collapseH .std Ew_markLogNoteS Ow_markLogNoteS_1 (execFn Ew_markLogNoteS Tryz.f105 msw_markLogNoteS [.val false [.own .any true 92 (.pair (.int .i64) (.pair (.int .i64) (.pair (.sl 9 .str) (.sl 155 (.pair .str (.pair .bool (.sl 3 (.int .i64)))))))) a0],.val false [.int .i64 a1]]) = some ((g_Aw_markLogNoteS a0 a1),.val false [.int .i64 (g_Vw_markLogNoteS_0 a0 a1)],[[.own .any true 92 (.pair (.int .i64) (.pair (.int .i64) (.pair (.sl 9 .str) (.sl 155 (.pair .str (.pair .bool (.sl 3 (.int .i64)))))))) (g_Vw_markLogNoteS_1 a0 a1)]]) := by kernel_rfl
theorem sw_markLogNoteS:Sound Tryz.prog 105 msw_markLogNoteS Fw_markLogNoteS := by
 refine fn_gen goodw_markLogNoteS (by kernel_rfl) .std (fn := Tryz.f105) (c := (Tryz.f105.body.getD .skip)) (o := Ow_markLogNoteS_1) (k := 1) (by kernel_rfl) (by kernel_rfl) (by kernel_rfl) (by kernel_rfl) (by decide) kw_markLogNoteS_1 ?_
 intro ys r outs h
 unfold Fw_markLogNoteS at h
 split at h
 ·exact (vw_markLogNoteS _ _).trans h
 ·cases h
def Ew_markLogDisk:Env where
 tt := mkTI Tryz.prog
 fn := fun f => match f with
  | 105 => some (msw_markLogNoteS,FSem.wk msw_markLogNoteS Fw_markLogNoteS)
  | _ => none
 bxf := fun _ => none
 mv := []
 keep := fun _ => []
 keepB := fun _ => []
 keepX := fun _ => []
 keepXB := fun _ => []
theorem goodFw_markLogDisk:∀ f ms F,Ew_markLogDisk.fn f = some (ms,F) → Sound Tryz.prog f ms F := fun f ms F h => by
 unfold Ew_markLogDisk at h
 dsimp only at h
 split at h
 ·exact gF sw_markLogNoteS h
 ·cases h
theorem goodw_markLogDisk:Good Tryz.prog Ew_markLogDisk := ⟨rfl,goodFw_markLogDisk,fun f ms F h => by cases h⟩
def Ow_markLogDisk_0:Orc := fun _ _ => none
def msw_markLogDisk:List PM := [.«mut»,.own]
def lsw_markLogDisk:List (Nat×Code) := loopsAll 0 (Tryz.f44.body.getD .skip)
theorem kw_markLogDisk_0:OrcOk Ew_markLogDisk Ow_markLogDisk_0 lsw_markLogDisk 0 := orcOk_none
def g_Aw_markLogDisk (a0:tL0) (a1:Int) (a2:Int):Bool := g_Aw_markLogNoteS a0 a2
def Fw_markLogDisk:FSem := fun ys => match ys with
 | [.val true [.own .any true 92 (.pair (.int .i64) (.pair (.int .i64) (.pair (.sl 9 .str) (.sl 155 (.pair .str (.pair .bool (.sl 3 (.int .i64)))))))) a0,.int .i64 a1],.val false [.int .i64 a2]] => some ((g_Aw_markLogDisk a0 a1 a2),.val false [.int .i64 (g_Vw_markLogNoteS_0 a0 a2)],[[.own .any true 92 (.pair (.int .i64) (.pair (.int .i64) (.pair (.sl 9 .str) (.sl 155 (.pair .str (.pair .bool (.sl 3 (.int .i64)))))))) (g_Vw_markLogNoteS_1 a0 a2),.int .i64 a1]])
 | _ => none
theorem vw_markLogDisk (a0:tL0) (a1:Int) (a2:Int):collapseH .std Ew_markLogDisk Ow_markLogDisk_0 (execFn Ew_markLogDisk Tryz.f44 msw_markLogDisk [.val true [.own .any true 92 (.pair (.int .i64) (.pair (.int .i64) (.pair (.sl 9 .str) (.sl 155 (.pair .str (.pair .bool (.sl 3 (.int .i64)))))))) a0,.int .i64 a1],.val false [.int .i64 a2]]) = some ((g_Aw_markLogDisk a0 a1 a2),.val false [.int .i64 (g_Vw_markLogNoteS_0 a0 a2)],[[.own .any true 92 (.pair (.int .i64) (.pair (.int .i64) (.pair (.sl 9 .str) (.sl 155 (.pair .str (.pair .bool (.sl 3 (.int .i64)))))))) (g_Vw_markLogNoteS_1 a0 a2),.int .i64 a1]]) := by kernel_rfl
theorem sw_markLogDisk:Sound Tryz.prog 44 msw_markLogDisk Fw_markLogDisk := by
 refine fn_gen goodw_markLogDisk (by kernel_rfl) .std (fn := Tryz.f44) (c := (Tryz.f44.body.getD .skip)) (o := Ow_markLogDisk_0) (k := 0) (by kernel_rfl) (by kernel_rfl) (by kernel_rfl) (by kernel_rfl) (by decide) kw_markLogDisk_0 ?_
 intro ys r outs h
 unfold Fw_markLogDisk at h
 split at h
 ·exact (vw_markLogDisk _ _ _).trans h
 ·cases h
def Ew_markFroState:Env where
 tt := mkTI Tryz.prog
 fn := fun f => match f with
  | 44 => some (msw_markLogDisk,FSem.wk msw_markLogDisk Fw_markLogDisk)
  | 45 => some (msw_markFroTxS,FSem.wk msw_markFroTxS Fw_markFroTxS)
  | _ => none
 bxf := fun _ => none
 mv := []
 keep := fun _ => []
 keepB := fun _ => []
 keepX := fun _ => []
 keepXB := fun _ => []
theorem goodFw_markFroState:∀ f ms F,Ew_markFroState.fn f = some (ms,F) → Sound Tryz.prog f ms F := fun f ms F h => by
 unfold Ew_markFroState at h
 dsimp only at h
 split at h
 ·exact gF sw_markLogDisk h
 ·exact gF sw_markFroTxS h
 ·cases h
theorem goodw_markFroState:Good Tryz.prog Ew_markFroState := ⟨rfl,goodFw_markFroState,fun f ms F h => by cases h⟩
def Ow_markFroState_0:Orc := fun _ _ => none
def msw_markFroState:List PM := [.«mut»,.own]
def lsw_markFroState:List (Nat×Code) := loopsAll 0 (Tryz.f13.body.getD .skip)
theorem kw_markFroState_0:OrcOk Ew_markFroState Ow_markFroState_0 lsw_markFroState 0 := orcOk_none
def g_Aw_markFroState (a0:tL0) (a1:Int) (a2:tL1) (a3:Int):Bool := g_Aw_markLogDisk a0 a1 a3&&g_Aw_markFroTxS a2 (g_Vw_markLogNoteS_0 a0 a3)
def Fw_markFroState:FSem := fun ys => match ys with
 | [.val true [.own .any true 92 (.pair (.int .i64) (.pair (.int .i64) (.pair (.sl 9 .str) (.sl 155 (.pair .str (.pair .bool (.sl 3 (.int .i64)))))))) a0,.int .i64 a1,.own .any true 73 (.pair (.int .i64) (.pair (.pair (.int .i64) (.pair (.int .i64) (.pair (.int .i64) (.pair (.int .i64) (.pair (.int .i64) (.pair (.int .i64) (.int .i64))))))) (.pair .bool (.pair (.sl 3 (.int .i64)) (.sl 3 (.int .i64)))))) a2],.val false [.int .i64 a3]] => some ((g_Aw_markFroState a0 a1 a2 a3),.val false [.int .i64 (g_Vw_markFroTxS_0 a2 (g_Vw_markLogNoteS_0 a0 a3))],[[.own .any true 92 (.pair (.int .i64) (.pair (.int .i64) (.pair (.sl 9 .str) (.sl 155 (.pair .str (.pair .bool (.sl 3 (.int .i64)))))))) (g_Vw_markLogNoteS_1 a0 a3),.int .i64 a1,.own .any true 73 (.pair (.int .i64) (.pair (.pair (.int .i64) (.pair (.int .i64) (.pair (.int .i64) (.pair (.int .i64) (.pair (.int .i64) (.pair (.int .i64) (.int .i64))))))) (.pair .bool (.pair (.sl 3 (.int .i64)) (.sl 3 (.int .i64)))))) (g_Vw_markFroTxS_1 a2 (g_Vw_markLogNoteS_0 a0 a3))]])
 | _ => none
theorem vw_markFroState (a0:tL0) (a1:Int) (a2:tL1) (a3:Int):collapseH .std Ew_markFroState Ow_markFroState_0 (execFn Ew_markFroState Tryz.f13 msw_markFroState [.val true [.own .any true 92 (.pair (.int .i64) (.pair (.int .i64) (.pair (.sl 9 .str) (.sl 155 (.pair .str (.pair .bool (.sl 3 (.int .i64)))))))) a0,.int .i64 a1,.own .any true 73 (.pair (.int .i64) (.pair (.pair (.int .i64) (.pair (.int .i64) (.pair (.int .i64) (.pair (.int .i64) (.pair (.int .i64) (.pair (.int .i64) (.int .i64))))))) (.pair .bool (.pair (.sl 3 (.int .i64)) (.sl 3 (.int .i64)))))) a2],.val false [.int .i64 a3]]) = some ((g_Aw_markFroState a0 a1 a2 a3),.val false [.int .i64 (g_Vw_markFroTxS_0 a2 (g_Vw_markLogNoteS_0 a0 a3))],[[.own .any true 92 (.pair (.int .i64) (.pair (.int .i64) (.pair (.sl 9 .str) (.sl 155 (.pair .str (.pair .bool (.sl 3 (.int .i64)))))))) (g_Vw_markLogNoteS_1 a0 a3),.int .i64 a1,.own .any true 73 (.pair (.int .i64) (.pair (.pair (.int .i64) (.pair (.int .i64) (.pair (.int .i64) (.pair (.int .i64) (.pair (.int .i64) (.pair (.int .i64) (.int .i64))))))) (.pair .bool (.pair (.sl 3 (.int .i64)) (.sl 3 (.int .i64)))))) (g_Vw_markFroTxS_1 a2 (g_Vw_markLogNoteS_0 a0 a3))]]) := by kernel_rfl
theorem sw_markFroState:Sound Tryz.prog 13 msw_markFroState Fw_markFroState := by
 refine fn_gen goodw_markFroState (by kernel_rfl) .std (fn := Tryz.f13) (c := (Tryz.f13.body.getD .skip)) (o := Ow_markFroState_0) (k := 0) (by kernel_rfl) (by kernel_rfl) (by kernel_rfl) (by kernel_rfl) (by decide) kw_markFroState_0 ?_
 intro ys r outs h
 unfold Fw_markFroState at h
 split at h
 ·exact (vw_markFroState _ _ _ _).trans h
 ·cases h
def Ew_szIntS:Env where
 tt := mkTI Tryz.prog
 fn := fun _ => none
 bxf := fun _ => none
 mv := []
 keep := fun _ => []
 keepB := fun _ => []
 keepX := fun _ => []
 keepXB := fun _ => []
theorem goodFw_szIntS:∀ f ms F,Ew_szIntS.fn f = some (ms,F) → Sound Tryz.prog f ms F := fun f ms F h => by cases h
theorem goodw_szIntS:Good Tryz.prog Ew_szIntS := ⟨rfl,goodFw_szIntS,fun f ms F h => by cases h⟩
def Ow_szIntS_0:Orc := fun _ _ => none
def msw_szIntS:List PM := [.rd,.own]
def lsw_szIntS:List (Nat×Code) := loopsAll 0 (Tryz.f133.body.getD .skip)
theorem kw_szIntS_0:OrcOk Ew_szIntS Ow_szIntS_0 lsw_szIntS 0 := orcOk_none
def g_Vw_szIntS_0 (a0:List Int) (a1:Int):Int := bif decide (IntKind.i64.wrap (a1 - (a0.length:Int)) < 0) then (-1:Int) else IntKind.i64.wrap (a1 - (a0.length:Int))
def Fw_szIntS:FSem := fun ys => match ys with
 | [.val false [.sl .any 3 (.int .i64) a0],.val false [.int .i64 a1]] => some (true,.val false [.int .i64 (g_Vw_szIntS_0 a0 a1)],[])
 | _ => none
theorem vw_szIntS (a0:List Int) (a1:Int):collapseH .std Ew_szIntS Ow_szIntS_0 (execFn Ew_szIntS Tryz.f133 msw_szIntS [.val false [.sl .any 3 (.int .i64) a0],.val false [.int .i64 a1]]) = some (true,.val false [.int .i64 (g_Vw_szIntS_0 a0 a1)],[]) := by kernel_rfl
theorem sw_szIntS:Sound Tryz.prog 133 msw_szIntS Fw_szIntS := by
 refine fn_gen goodw_szIntS (by kernel_rfl) .std (fn := Tryz.f133) (c := (Tryz.f133.body.getD .skip)) (o := Ow_szIntS_0) (k := 0) (by kernel_rfl) (by kernel_rfl) (by kernel_rfl) (by kernel_rfl) (by decide) kw_szIntS_0 ?_
 intro ys r outs h
 unfold Fw_szIntS at h
 split at h
 ·exact (vw_szIntS _ _).trans h
 ·cases h
def Ew_szFroTx:Env where
 tt := mkTI Tryz.prog
 fn := fun f => match f with
  | 133 => some (msw_szIntS,FSem.wk msw_szIntS Fw_szIntS)
  | _ => none
 bxf := fun _ => none
 mv := []
 keep := fun _ => []
 keepB := fun _ => []
 keepX := fun _ => []
 keepXB := fun _ => []
theorem goodFw_szFroTx:∀ f ms F,Ew_szFroTx.fn f = some (ms,F) → Sound Tryz.prog f ms F := fun f ms F h => by
 unfold Ew_szFroTx at h
 dsimp only at h
 split at h
 ·exact gF sw_szIntS h
 ·cases h
theorem goodw_szFroTx:Good Tryz.prog Ew_szFroTx := ⟨rfl,goodFw_szFroTx,fun f ms F h => by cases h⟩
def Ow_szFroTx_0:Orc := fun _ _ => none
def msw_szFroTx:List PM := [.rd,.own]
def lsw_szFroTx:List (Nat×Code) := loopsAll 0 (Tryz.f89.body.getD .skip)
theorem kw_szFroTx_0:OrcOk Ew_szFroTx Ow_szFroTx_0 lsw_szFroTx 0 := orcOk_none
def g_Aw_szFroTx (a0:Int) (a1:Int) (a2:Int) (a3:Int) (a4:Int) (a5:Int) (a6:Int) (a7:Int) (a8:Bool) (a9:List Int) (a10:List Int) (a11:Int):Bool := decide (g_Vw_szIntS_0 a9 a11 < 0) || true
def g_Vw_szFroTx_0 (a0:Int) (a1:Int) (a2:Int) (a3:Int) (a4:Int) (a5:Int) (a6:Int) (a7:Int) (a8:Bool) (a9:List Int) (a10:List Int) (a11:Int):Int := bif decide (g_Vw_szIntS_0 a9 a11 < 0) then (-1:Int) else bif decide (g_Vw_szIntS_0 a10 (g_Vw_szIntS_0 a9 a11) < 0) then (-1:Int) else g_Vw_szIntS_0 a10 (g_Vw_szIntS_0 a9 a11)
def Fw_szFroTx:FSem := fun ys => match ys with
 | [.val true [.int .i64 a0,.int .i64 a1,.int .i64 a2,.int .i64 a3,.int .i64 a4,.int .i64 a5,.int .i64 a6,.int .i64 a7,.bool a8,.sl .any 3 (.int .i64) a9,.sl .any 3 (.int .i64) a10],.val false [.int .i64 a11]] => some ((g_Aw_szFroTx a0 a1 a2 a3 a4 a5 a6 a7 a8 a9 a10 a11),.val false [.int .i64 (g_Vw_szFroTx_0 a0 a1 a2 a3 a4 a5 a6 a7 a8 a9 a10 a11)],[])
 | _ => none
theorem vw_szFroTx (a0:Int) (a1:Int) (a2:Int) (a3:Int) (a4:Int) (a5:Int) (a6:Int) (a7:Int) (a8:Bool) (a9:List Int) (a10:List Int) (a11:Int):collapseH .std Ew_szFroTx Ow_szFroTx_0 (execFn Ew_szFroTx Tryz.f89 msw_szFroTx [.val true [.int .i64 a0,.int .i64 a1,.int .i64 a2,.int .i64 a3,.int .i64 a4,.int .i64 a5,.int .i64 a6,.int .i64 a7,.bool a8,.sl .any 3 (.int .i64) a9,.sl .any 3 (.int .i64) a10],.val false [.int .i64 a11]]) = some ((g_Aw_szFroTx a0 a1 a2 a3 a4 a5 a6 a7 a8 a9 a10 a11),.val false [.int .i64 (g_Vw_szFroTx_0 a0 a1 a2 a3 a4 a5 a6 a7 a8 a9 a10 a11)],[]) := by kernel_rfl
theorem sw_szFroTx:Sound Tryz.prog 89 msw_szFroTx Fw_szFroTx := by
 refine fn_gen goodw_szFroTx (by kernel_rfl) .std (fn := Tryz.f89) (c := (Tryz.f89.body.getD .skip)) (o := Ow_szFroTx_0) (k := 0) (by kernel_rfl) (by kernel_rfl) (by kernel_rfl) (by kernel_rfl) (by decide) kw_szFroTx_0 ?_
 intro ys r outs h
 unfold Fw_szFroTx at h
 split at h
 ·exact (vw_szFroTx _ _ _ _ _ _ _ _ _ _ _ _).trans h
 ·cases h
def Ew_szFroTxS:Env where
 tt := mkTI Tryz.prog
 fn := fun f => match f with
  | 89 => some (msw_szFroTx,FSem.wk msw_szFroTx Fw_szFroTx)
  | _ => none
 bxf := fun _ => none
 mv := []
 keep := fun b => match b with
  | 0 => [(0,false),(1,false),(5,false)]
  | _ => []
 keepB := fun b => match b with
  | 0 => []
  | _ => []
 keepX := fun b => match b with
  | 0 => [(1,false),(4,false)]
  | _ => []
 keepXB := fun b => match b with
  | 0 => []
  | _ => []
theorem goodFw_szFroTxS:∀ f ms F,Ew_szFroTxS.fn f = some (ms,F) → Sound Tryz.prog f ms F := fun f ms F h => by
 unfold Ew_szFroTxS at h
 dsimp only at h
 split at h
 ·exact gF sw_szFroTx h
 ·cases h
theorem goodw_szFroTxS:Good Tryz.prog Ew_szFroTxS := ⟨rfl,goodFw_szFroTxS,fun f ms F h => by cases h⟩
def Ow_szFroTxS_0:Orc := fun _ _ => none
def msw_szFroTxS:List PM := [.rd,.own]
def lsw_szFroTxS:List (Nat×Code) := loopsAll 0 (Tryz.f28.body.getD .skip)
def cw_szFroTxS_0:Code := (loopOf 0 (Tryz.f28.body.getD .skip)).getD .skip
theorem lseqw_szFroTxS:lsw_szFroTxS = [(0,cw_szFroTxS_0)] := by kernel_rfl
theorem mw_szFroTxS_0:∀ p,p ∈ lsw_szFroTxS → p.1 = 0 → p.2 = cw_szFroTxS_0 := by
 intro p hp
 rw [lseqw_szFroTxS] at hp
 simp only [List.mem_cons,List.not_mem_nil,or_false] at hp
 subst hp; simp
theorem kw_szFroTxS_0:OrcOk Ew_szFroTxS Ow_szFroTxS_0 lsw_szFroTxS 0 := orcOk_none
def hw_szFroTxS_0 (y0:tL1) (y1:Int) (y2:Int):List (Pl×LV) := [(.T 0,.t (.val false [.sl .any 129 (.pair (.int .i64) (.pair (.pair (.int .i64) (.pair (.int .i64) (.pair (.int .i64) (.pair (.int .i64) (.pair (.int .i64) (.pair (.int .i64) (.int .i64))))))) (.pair .bool (.pair (.sl 3 (.int .i64)) (.sl 3 (.int .i64)))))) y0])),(.T 1,.t (.val false [.int .i64 y1])),(.T 5,.t (.val false [.int .i64 y2]))]
def g_Sw_szFroTxS_0 (y0:tL1):(Int×Int) → RT (Int×Int) ((Int×Int) ⊕ (Int))
 | (y1,y2) => .br (true) (.br (decide (y2 < (y0.length:Int))) (.br (decide (0 ≤ y2 ∧ y2 < (y0.length:Int))) (.br (g_Aw_szFroTx (at_ yT0 y0 (Int.toNat y2)).1 (at_ yT0 y0 (Int.toNat y2)).2.1.1 (at_ yT0 y0 (Int.toNat y2)).2.1.2.1 (at_ yT0 y0 (Int.toNat y2)).2.1.2.2.1 (at_ yT0 y0 (Int.toNat y2)).2.1.2.2.2.1 (at_ yT0 y0 (Int.toNat y2)).2.1.2.2.2.2.1 (at_ yT0 y0 (Int.toNat y2)).2.1.2.2.2.2.2.1 (at_ yT0 y0 (Int.toNat y2)).2.1.2.2.2.2.2.2 (at_ yT0 y0 (Int.toNat y2)).2.2.1 (at_ yT0 y0 (Int.toNat y2)).2.2.2.1 (at_ yT0 y0 (Int.toNat y2)).2.2.2.2 y1) (.br (true) (.br (decide (g_Vw_szFroTx_0 (at_ yT0 y0 (Int.toNat y2)).1 (at_ yT0 y0 (Int.toNat y2)).2.1.1 (at_ yT0 y0 (Int.toNat y2)).2.1.2.1 (at_ yT0 y0 (Int.toNat y2)).2.1.2.2.1 (at_ yT0 y0 (Int.toNat y2)).2.1.2.2.2.1 (at_ yT0 y0 (Int.toNat y2)).2.1.2.2.2.2.1 (at_ yT0 y0 (Int.toNat y2)).2.1.2.2.2.2.2.1 (at_ yT0 y0 (Int.toNat y2)).2.1.2.2.2.2.2.2 (at_ yT0 y0 (Int.toNat y2)).2.2.1 (at_ yT0 y0 (Int.toNat y2)).2.2.2.1 (at_ yT0 y0 (Int.toNat y2)).2.2.2.2 y1 < 0)) (.out (.inl ((g_Vw_szFroTx_0 (at_ yT0 y0 (Int.toNat y2)).1 (at_ yT0 y0 (Int.toNat y2)).2.1.1 (at_ yT0 y0 (Int.toNat y2)).2.1.2.1 (at_ yT0 y0 (Int.toNat y2)).2.1.2.2.1 (at_ yT0 y0 (Int.toNat y2)).2.1.2.2.2.1 (at_ yT0 y0 (Int.toNat y2)).2.1.2.2.2.2.1 (at_ yT0 y0 (Int.toNat y2)).2.1.2.2.2.2.2.1 (at_ yT0 y0 (Int.toNat y2)).2.1.2.2.2.2.2.2 (at_ yT0 y0 (Int.toNat y2)).2.2.1 (at_ yT0 y0 (Int.toNat y2)).2.2.2.1 (at_ yT0 y0 (Int.toNat y2)).2.2.2.2 y1,(-1:Int))))) (.br (true) (.go ((g_Vw_szFroTx_0 (at_ yT0 y0 (Int.toNat y2)).1 (at_ yT0 y0 (Int.toNat y2)).2.1.1 (at_ yT0 y0 (Int.toNat y2)).2.1.2.1 (at_ yT0 y0 (Int.toNat y2)).2.1.2.2.1 (at_ yT0 y0 (Int.toNat y2)).2.1.2.2.2.1 (at_ yT0 y0 (Int.toNat y2)).2.1.2.2.2.2.1 (at_ yT0 y0 (Int.toNat y2)).2.1.2.2.2.2.2.1 (at_ yT0 y0 (Int.toNat y2)).2.1.2.2.2.2.2.2 (at_ yT0 y0 (Int.toNat y2)).2.2.1 (at_ yT0 y0 (Int.toNat y2)).2.2.2.1 (at_ yT0 y0 (Int.toNat y2)).2.2.2.2 y1,IntKind.i64.wrap (y2 + 1)))) .bad)) .bad) .bad) .bad) (.out (.inr (y1)))) .bad
def g_Lw_szFroTxS_0 (y0:tL1) (x:Int×Int):Option ((Int×Int) ⊕ (Int)) := loopO (g_Sw_szFroTxS_0 y0) x
def xw_szFroTxS_0 (y0:tL1):((Int×Int) ⊕ (Int)) → Ex×List (Pl×LV) := fun
 | .inl r => (.ret,[(.T 1,.t (.val false [.int .i64 r.1])),(.T 4,.t (.val false [.int .i64 r.2]))])
 | .inr (r) => (.exit 0,[(.T 1,.t (.val false [.int .i64 r])),(.T 4,.t (.val false [.undef]))])
def Ow_szFroTxS_1:Orc := fun b h => match b,h with
 | 0,[(.T 0,.t (.val false [.sl .any 129 (.pair (.int .i64) (.pair (.pair (.int .i64) (.pair (.int .i64) (.pair (.int .i64) (.pair (.int .i64) (.pair (.int .i64) (.pair (.int .i64) (.int .i64))))))) (.pair .bool (.pair (.sl 3 (.int .i64)) (.sl 3 (.int .i64)))))) y0])),(.T 1,.t (.val false [.int .i64 y1])),(.T 5,.t (.val false [.int .i64 y2]))] => some (okO (g_Lw_szFroTxS_0 y0 (y1,y2)),(.br (isL (valO (g_Lw_szFroTxS_0 y0 (y1,y2)))) (.leaf .ret [(.T 1,.t (.val false [.int .i64 (getL (valO (g_Lw_szFroTxS_0 y0 (y1,y2)))).1])),(.T 4,.t (.val false [.int .i64 (getL (valO (g_Lw_szFroTxS_0 y0 (y1,y2)))).2]))]) (.leaf (.exit 0) [(.T 1,.t (.val false [.int .i64 (getR (valO (g_Lw_szFroTxS_0 y0 (y1,y2))))])),(.T 4,.t (.val false [.undef]))])))
 | b,h => Ow_szFroTxS_0 b h
theorem bw_szFroTxS_0 (y0:tL1) (y1:Int) (y2:Int):Tr.bt Ew_szFroTxS Ow_szFroTxS_0 (exec Ew_szFroTxS 0 cw_szFroTxS_0 (St.of (hw_szFroTxS_0 y0 y1 y2)) (leafRd Ew_szFroTxS 0)) = (g_Sw_szFroTxS_0 y0 (y1,y2)).bt (fun ((y1,y2):Int×Int) => (hw_szFroTxS_0 y0 y1 y2)) (xw_szFroTxS_0 y0) := by kernel_rfl
theorem kw_szFroTxS_1:OrcOk Ew_szFroTxS Ow_szFroTxS_1 lsw_szFroTxS 1 := orc_add kw_szFroTxS_0 (fun n p hp h ex h' ho => by
 obtain ⟨b,c⟩ := p
 obtain ⟨xt,h1,h2⟩ := ho
 have h1:Ow_szFroTxS_1 b h = some (true,xt) := h1
 unfold Ow_szFroTxS_1 at h1
 split at h1
 ·injection h1 with h1
  injection h1 with e1 e2
  subst e2
  have hc:c = cw_szFroTxS_0 := mw_szFroTxS_0 _ hp rfl
  subst hc
  right
  rename_i y0 y1 y2
  have key := LT_step kw_szFroTxS_0 hp (fun q hq => loopsAll_in _ _ _ _ hp hq) (fun ((y1,y2):Int×Int) => (hw_szFroTxS_0 y0 y1 y2)) (xw_szFroTxS_0 y0) (g_Sw_szFroTxS_0 y0) (fun x => by first | exact bw_szFroTxS_0 y0 x.1 x.2) n (x := (y1,y2)) (okO_some e1)
  have hx:∀ r,XT.sel (.br (isL r) (.leaf .ret [(.T 1,.t (.val false [.int .i64 (getL r).1])),(.T 4,.t (.val false [.int .i64 (getL r).2]))]) (.leaf (.exit 0) [(.T 1,.t (.val false [.int .i64 (getR r)])),(.T 4,.t (.val false [.undef]))])) = xw_szFroTxS_0 y0 r := fun r => by first | rfl | rcases r with r | r <;> rfl | rcases r with r | r | r <;> rfl | rcases r with r | r | r | r <;> rfl
  have h3 := (hx (valO (g_Lw_szFroTxS_0 y0 (y1,y2)))).symm.trans h2
  have e3 := congrArg Prod.fst h3
  have e4 := congrArg Prod.snd h3
  simp only at e3 e4
  rw [← e3,← e4]
  exact key
 ·exact .inl ⟨xt,h1,h2⟩)
def g_Aw_szFroTxS (a0:tL1) (a1:Int):Bool := decide (IntKind.i64.wrap (a1 - (a0.length:Int)) < 0) || okO (g_Lw_szFroTxS_0 a0 (IntKind.i64.wrap (a1 - (a0.length:Int)),(0:Int)))
def g_Vw_szFroTxS_0 (a0:tL1) (a1:Int):Int := bif decide (IntKind.i64.wrap (a1 - (a0.length:Int)) < 0) then (-1:Int) else bif isL (valO (g_Lw_szFroTxS_0 a0 (IntKind.i64.wrap (a1 - (a0.length:Int)),(0:Int)))) then (getL (valO (g_Lw_szFroTxS_0 a0 (IntKind.i64.wrap (a1 - (a0.length:Int)),(0:Int))))).2 else getR (valO (g_Lw_szFroTxS_0 a0 (IntKind.i64.wrap (a1 - (a0.length:Int)),(0:Int))))
def Fw_szFroTxS:FSem := fun ys => match ys with
 | [.val false [.sl .any 129 (.pair (.int .i64) (.pair (.pair (.int .i64) (.pair (.int .i64) (.pair (.int .i64) (.pair (.int .i64) (.pair (.int .i64) (.pair (.int .i64) (.int .i64))))))) (.pair .bool (.pair (.sl 3 (.int .i64)) (.sl 3 (.int .i64)))))) a0],.val false [.int .i64 a1]] => some ((g_Aw_szFroTxS a0 a1),.val false [.int .i64 (g_Vw_szFroTxS_0 a0 a1)],[])
 | _ => none
theorem vw_szFroTxS (a0:tL1) (a1:Int):collapseH .std Ew_szFroTxS Ow_szFroTxS_1 (execFn Ew_szFroTxS Tryz.f28 msw_szFroTxS [.val false [.sl .any 129 (.pair (.int .i64) (.pair (.pair (.int .i64) (.pair (.int .i64) (.pair (.int .i64) (.pair (.int .i64) (.pair (.int .i64) (.pair (.int .i64) (.int .i64))))))) (.pair .bool (.pair (.sl 3 (.int .i64)) (.sl 3 (.int .i64)))))) a0],.val false [.int .i64 a1]]) = some ((g_Aw_szFroTxS a0 a1),.val false [.int .i64 (g_Vw_szFroTxS_0 a0 a1)],[]) := by kernel_rfl
theorem sw_szFroTxS:Sound Tryz.prog 28 msw_szFroTxS Fw_szFroTxS := by
 refine fn_gen goodw_szFroTxS (by kernel_rfl) .std (fn := Tryz.f28) (c := (Tryz.f28.body.getD .skip)) (o := Ow_szFroTxS_1) (k := 1) (by kernel_rfl) (by kernel_rfl) (by kernel_rfl) (by kernel_rfl) (by decide) kw_szFroTxS_1 ?_
 intro ys r outs h
 unfold Fw_szFroTxS at h
 split at h
 ·exact (vw_szFroTxS _ _).trans h
 ·cases h
def Ew_szStoWrite:Env where
 tt := mkTI Tryz.prog
 fn := fun f => match f with
  | 133 => some (msw_szIntS,FSem.wk msw_szIntS Fw_szIntS)
  | _ => none
 bxf := fun _ => none
 mv := []
 keep := fun _ => []
 keepB := fun _ => []
 keepX := fun _ => []
 keepXB := fun _ => []
theorem goodFw_szStoWrite:∀ f ms F,Ew_szStoWrite.fn f = some (ms,F) → Sound Tryz.prog f ms F := fun f ms F h => by
 unfold Ew_szStoWrite at h
 dsimp only at h
 split at h
 ·exact gF sw_szIntS h
 ·cases h
theorem goodw_szStoWrite:Good Tryz.prog Ew_szStoWrite := ⟨rfl,goodFw_szStoWrite,fun f ms F h => by cases h⟩
def Ow_szStoWrite_0:Orc := fun _ _ => none
def msw_szStoWrite:List PM := [.rd,.own]
def lsw_szStoWrite:List (Nat×Code) := loopsAll 0 (Tryz.f173.body.getD .skip)
theorem kw_szStoWrite_0:OrcOk Ew_szStoWrite Ow_szStoWrite_0 lsw_szStoWrite 0 := orcOk_none
def g_Aw_szStoWrite (a0:ByteArray) (a1:Bool) (a2:List Int) (a3:Int):Bool := decide (IntKind.i64.wrap (a3 - (↑(ByteArray.size a0):Int)) < 0) || true
def g_Vw_szStoWrite_0 (a0:ByteArray) (a1:Bool) (a2:List Int) (a3:Int):Int := bif decide (IntKind.i64.wrap (a3 - (↑(ByteArray.size a0):Int)) < 0) then (-1:Int) else bif decide (g_Vw_szIntS_0 a2 (IntKind.i64.wrap (a3 - (↑(ByteArray.size a0):Int))) < 0) then (-1:Int) else g_Vw_szIntS_0 a2 (IntKind.i64.wrap (a3 - (↑(ByteArray.size a0):Int)))
def Fw_szStoWrite:FSem := fun ys => match ys with
 | [.val true [.str a0,.bool a1,.sl .any 3 (.int .i64) a2],.val false [.int .i64 a3]] => some ((g_Aw_szStoWrite a0 a1 a2 a3),.val false [.int .i64 (g_Vw_szStoWrite_0 a0 a1 a2 a3)],[])
 | _ => none
theorem vw_szStoWrite (a0:ByteArray) (a1:Bool) (a2:List Int) (a3:Int):collapseH .std Ew_szStoWrite Ow_szStoWrite_0 (execFn Ew_szStoWrite Tryz.f173 msw_szStoWrite [.val true [.str a0,.bool a1,.sl .any 3 (.int .i64) a2],.val false [.int .i64 a3]]) = some ((g_Aw_szStoWrite a0 a1 a2 a3),.val false [.int .i64 (g_Vw_szStoWrite_0 a0 a1 a2 a3)],[]) := by kernel_rfl
theorem sw_szStoWrite:Sound Tryz.prog 173 msw_szStoWrite Fw_szStoWrite := by
 refine fn_gen goodw_szStoWrite (by kernel_rfl) .std (fn := Tryz.f173) (c := (Tryz.f173.body.getD .skip)) (o := Ow_szStoWrite_0) (k := 0) (by kernel_rfl) (by kernel_rfl) (by kernel_rfl) (by kernel_rfl) (by decide) kw_szStoWrite_0 ?_
 intro ys r outs h
 unfold Fw_szStoWrite at h
 split at h
 ·exact (vw_szStoWrite _ _ _ _).trans h
 ·cases h
def Ew_szStoWriteS:Env where
 tt := mkTI Tryz.prog
 fn := fun f => match f with
  | 173 => some (msw_szStoWrite,FSem.wk msw_szStoWrite Fw_szStoWrite)
  | _ => none
 bxf := fun _ => none
 mv := []
 keep := fun b => match b with
  | 0 => [(0,false),(1,false),(5,false)]
  | _ => []
 keepB := fun b => match b with
  | 0 => []
  | _ => []
 keepX := fun b => match b with
  | 0 => [(1,false),(4,false)]
  | _ => []
 keepXB := fun b => match b with
  | 0 => []
  | _ => []
theorem goodFw_szStoWriteS:∀ f ms F,Ew_szStoWriteS.fn f = some (ms,F) → Sound Tryz.prog f ms F := fun f ms F h => by
 unfold Ew_szStoWriteS at h
 dsimp only at h
 split at h
 ·exact gF sw_szStoWrite h
 ·cases h
theorem goodw_szStoWriteS:Good Tryz.prog Ew_szStoWriteS := ⟨rfl,goodFw_szStoWriteS,fun f ms F h => by cases h⟩
def Ow_szStoWriteS_0:Orc := fun _ _ => none
def msw_szStoWriteS:List PM := [.rd,.own]
def lsw_szStoWriteS:List (Nat×Code) := loopsAll 0 (Tryz.f154.body.getD .skip)
def cw_szStoWriteS_0:Code := (loopOf 0 (Tryz.f154.body.getD .skip)).getD .skip
theorem lseqw_szStoWriteS:lsw_szStoWriteS = [(0,cw_szStoWriteS_0)] := by kernel_rfl
theorem mw_szStoWriteS_0:∀ p,p ∈ lsw_szStoWriteS → p.1 = 0 → p.2 = cw_szStoWriteS_0 := by
 intro p hp
 rw [lseqw_szStoWriteS] at hp
 simp only [List.mem_cons,List.not_mem_nil,or_false] at hp
 subst hp; simp
theorem kw_szStoWriteS_0:OrcOk Ew_szStoWriteS Ow_szStoWriteS_0 lsw_szStoWriteS 0 := orcOk_none
def hw_szStoWriteS_0 (y0:tL2) (y1:Int) (y2:Int):List (Pl×LV) := [(.T 0,.t (.val false [.sl .any 196 (.pair .str (.pair .bool (.sl 3 (.int .i64)))) y0])),(.T 1,.t (.val false [.int .i64 y1])),(.T 5,.t (.val false [.int .i64 y2]))]
def g_Sw_szStoWriteS_0 (y0:tL2):(Int×Int) → RT (Int×Int) ((Int×Int) ⊕ (Int))
 | (y1,y2) => .br (true) (.br (decide (y2 < (y0.length:Int))) (.br (decide (0 ≤ y2 ∧ y2 < (y0.length:Int))) (.br (g_Aw_szStoWrite (at_ yT2 y0 (Int.toNat y2)).1 (at_ yT2 y0 (Int.toNat y2)).2.1 (at_ yT2 y0 (Int.toNat y2)).2.2 y1) (.br (true) (.br (decide (g_Vw_szStoWrite_0 (at_ yT2 y0 (Int.toNat y2)).1 (at_ yT2 y0 (Int.toNat y2)).2.1 (at_ yT2 y0 (Int.toNat y2)).2.2 y1 < 0)) (.out (.inl ((g_Vw_szStoWrite_0 (at_ yT2 y0 (Int.toNat y2)).1 (at_ yT2 y0 (Int.toNat y2)).2.1 (at_ yT2 y0 (Int.toNat y2)).2.2 y1,(-1:Int))))) (.br (true) (.go ((g_Vw_szStoWrite_0 (at_ yT2 y0 (Int.toNat y2)).1 (at_ yT2 y0 (Int.toNat y2)).2.1 (at_ yT2 y0 (Int.toNat y2)).2.2 y1,IntKind.i64.wrap (y2 + 1)))) .bad)) .bad) .bad) .bad) (.out (.inr (y1)))) .bad
def g_Lw_szStoWriteS_0 (y0:tL2) (x:Int×Int):Option ((Int×Int) ⊕ (Int)) := loopO (g_Sw_szStoWriteS_0 y0) x
def xw_szStoWriteS_0 (y0:tL2):((Int×Int) ⊕ (Int)) → Ex×List (Pl×LV) := fun
 | .inl r => (.ret,[(.T 1,.t (.val false [.int .i64 r.1])),(.T 4,.t (.val false [.int .i64 r.2]))])
 | .inr (r) => (.exit 0,[(.T 1,.t (.val false [.int .i64 r])),(.T 4,.t (.val false [.undef]))])
def Ow_szStoWriteS_1:Orc := fun b h => match b,h with
 | 0,[(.T 0,.t (.val false [.sl .any 196 (.pair .str (.pair .bool (.sl 3 (.int .i64)))) y0])),(.T 1,.t (.val false [.int .i64 y1])),(.T 5,.t (.val false [.int .i64 y2]))] => some (okO (g_Lw_szStoWriteS_0 y0 (y1,y2)),(.br (isL (valO (g_Lw_szStoWriteS_0 y0 (y1,y2)))) (.leaf .ret [(.T 1,.t (.val false [.int .i64 (getL (valO (g_Lw_szStoWriteS_0 y0 (y1,y2)))).1])),(.T 4,.t (.val false [.int .i64 (getL (valO (g_Lw_szStoWriteS_0 y0 (y1,y2)))).2]))]) (.leaf (.exit 0) [(.T 1,.t (.val false [.int .i64 (getR (valO (g_Lw_szStoWriteS_0 y0 (y1,y2))))])),(.T 4,.t (.val false [.undef]))])))
 | b,h => Ow_szStoWriteS_0 b h
theorem bw_szStoWriteS_0 (y0:tL2) (y1:Int) (y2:Int):Tr.bt Ew_szStoWriteS Ow_szStoWriteS_0 (exec Ew_szStoWriteS 0 cw_szStoWriteS_0 (St.of (hw_szStoWriteS_0 y0 y1 y2)) (leafRd Ew_szStoWriteS 0)) = (g_Sw_szStoWriteS_0 y0 (y1,y2)).bt (fun ((y1,y2):Int×Int) => (hw_szStoWriteS_0 y0 y1 y2)) (xw_szStoWriteS_0 y0) := by kernel_rfl
theorem kw_szStoWriteS_1:OrcOk Ew_szStoWriteS Ow_szStoWriteS_1 lsw_szStoWriteS 1 := orc_add kw_szStoWriteS_0 (fun n p hp h ex h' ho => by
 obtain ⟨b,c⟩ := p
 obtain ⟨xt,h1,h2⟩ := ho
 have h1:Ow_szStoWriteS_1 b h = some (true,xt) := h1
 unfold Ow_szStoWriteS_1 at h1
 split at h1
 ·injection h1 with h1
  injection h1 with e1 e2
  subst e2
  have hc:c = cw_szStoWriteS_0 := mw_szStoWriteS_0 _ hp rfl
  subst hc
  right
  rename_i y0 y1 y2
  have key := LT_step kw_szStoWriteS_0 hp (fun q hq => loopsAll_in _ _ _ _ hp hq) (fun ((y1,y2):Int×Int) => (hw_szStoWriteS_0 y0 y1 y2)) (xw_szStoWriteS_0 y0) (g_Sw_szStoWriteS_0 y0) (fun x => by first | exact bw_szStoWriteS_0 y0 x.1 x.2) n (x := (y1,y2)) (okO_some e1)
  have hx:∀ r,XT.sel (.br (isL r) (.leaf .ret [(.T 1,.t (.val false [.int .i64 (getL r).1])),(.T 4,.t (.val false [.int .i64 (getL r).2]))]) (.leaf (.exit 0) [(.T 1,.t (.val false [.int .i64 (getR r)])),(.T 4,.t (.val false [.undef]))])) = xw_szStoWriteS_0 y0 r := fun r => by first | rfl | rcases r with r | r <;> rfl | rcases r with r | r | r <;> rfl | rcases r with r | r | r | r <;> rfl
  have h3 := (hx (valO (g_Lw_szStoWriteS_0 y0 (y1,y2)))).symm.trans h2
  have e3 := congrArg Prod.fst h3
  have e4 := congrArg Prod.snd h3
  simp only at e3 e4
  rw [← e3,← e4]
  exact key
 ·exact .inl ⟨xt,h1,h2⟩)
def g_Aw_szStoWriteS (a0:tL2) (a1:Int):Bool := decide (IntKind.i64.wrap (a1 - (a0.length:Int)) < 0) || okO (g_Lw_szStoWriteS_0 a0 (IntKind.i64.wrap (a1 - (a0.length:Int)),(0:Int)))
def g_Vw_szStoWriteS_0 (a0:tL2) (a1:Int):Int := bif decide (IntKind.i64.wrap (a1 - (a0.length:Int)) < 0) then (-1:Int) else bif isL (valO (g_Lw_szStoWriteS_0 a0 (IntKind.i64.wrap (a1 - (a0.length:Int)),(0:Int)))) then (getL (valO (g_Lw_szStoWriteS_0 a0 (IntKind.i64.wrap (a1 - (a0.length:Int)),(0:Int))))).2 else getR (valO (g_Lw_szStoWriteS_0 a0 (IntKind.i64.wrap (a1 - (a0.length:Int)),(0:Int))))
def Fw_szStoWriteS:FSem := fun ys => match ys with
 | [.val false [.sl .any 196 (.pair .str (.pair .bool (.sl 3 (.int .i64)))) a0],.val false [.int .i64 a1]] => some ((g_Aw_szStoWriteS a0 a1),.val false [.int .i64 (g_Vw_szStoWriteS_0 a0 a1)],[])
 | _ => none
theorem vw_szStoWriteS (a0:tL2) (a1:Int):collapseH .std Ew_szStoWriteS Ow_szStoWriteS_1 (execFn Ew_szStoWriteS Tryz.f154 msw_szStoWriteS [.val false [.sl .any 196 (.pair .str (.pair .bool (.sl 3 (.int .i64)))) a0],.val false [.int .i64 a1]]) = some ((g_Aw_szStoWriteS a0 a1),.val false [.int .i64 (g_Vw_szStoWriteS_0 a0 a1)],[]) := by kernel_rfl
theorem sw_szStoWriteS:Sound Tryz.prog 154 msw_szStoWriteS Fw_szStoWriteS := by
 refine fn_gen goodw_szStoWriteS (by kernel_rfl) .std (fn := Tryz.f154) (c := (Tryz.f154.body.getD .skip)) (o := Ow_szStoWriteS_1) (k := 1) (by kernel_rfl) (by kernel_rfl) (by kernel_rfl) (by kernel_rfl) (by decide) kw_szStoWriteS_1 ?_
 intro ys r outs h
 unfold Fw_szStoWriteS at h
 split at h
 ·exact (vw_szStoWriteS _ _).trans h
 ·cases h
def Ew_szStringS:Env where
 tt := mkTI Tryz.prog
 fn := fun _ => none
 bxf := fun _ => none
 mv := []
 keep := fun b => match b with
  | 0 => [(0,false),(1,false),(5,false)]
  | _ => []
 keepB := fun b => match b with
  | 0 => []
  | _ => []
 keepX := fun b => match b with
  | 0 => [(1,false),(4,false)]
  | _ => []
 keepXB := fun b => match b with
  | 0 => []
  | _ => []
theorem goodFw_szStringS:∀ f ms F,Ew_szStringS.fn f = some (ms,F) → Sound Tryz.prog f ms F := fun f ms F h => by cases h
theorem goodw_szStringS:Good Tryz.prog Ew_szStringS := ⟨rfl,goodFw_szStringS,fun f ms F h => by cases h⟩
def Ow_szStringS_0:Orc := fun _ _ => none
def msw_szStringS:List PM := [.rd,.own]
def lsw_szStringS:List (Nat×Code) := loopsAll 0 (Tryz.f153.body.getD .skip)
def cw_szStringS_0:Code := (loopOf 0 (Tryz.f153.body.getD .skip)).getD .skip
theorem lseqw_szStringS:lsw_szStringS = [(0,cw_szStringS_0)] := by kernel_rfl
theorem mw_szStringS_0:∀ p,p ∈ lsw_szStringS → p.1 = 0 → p.2 = cw_szStringS_0 := by
 intro p hp
 rw [lseqw_szStringS] at hp
 simp only [List.mem_cons,List.not_mem_nil,or_false] at hp
 subst hp; simp
theorem kw_szStringS_0:OrcOk Ew_szStringS Ow_szStringS_0 lsw_szStringS 0 := orcOk_none
def hw_szStringS_0 (y0:List ByteArray) (y1:Int) (y2:Int):List (Pl×LV) := [(.T 0,.t (.val false [.sl .any 9 .str y0])),(.T 1,.t (.val false [.int .i64 y1])),(.T 5,.t (.val false [.int .i64 y2]))]
def g_Sw_szStringS_0 (y0:List ByteArray):(Int×Int) → RT (Int×Int) ((Int×Int) ⊕ (Int))
 | (y1,y2) => .br (true) (.br (decide (y2 < (y0.length:Int))) (.br (decide (0 ≤ y2 ∧ y2 < (y0.length:Int))) (.br (true) (.br (true) (.br (decide (IntKind.i64.wrap (y1 - (↑(ByteArray.size (at_ Ty.str y0 (Int.toNat y2))):Int)) < 0)) (.out (.inl ((IntKind.i64.wrap (y1 - (↑(ByteArray.size (at_ Ty.str y0 (Int.toNat y2))):Int)),(-1:Int))))) (.br (true) (.go ((IntKind.i64.wrap (y1 - (↑(ByteArray.size (at_ Ty.str y0 (Int.toNat y2))):Int)),IntKind.i64.wrap (y2 + 1)))) .bad)) .bad) .bad) .bad) (.out (.inr (y1)))) .bad
def g_Lw_szStringS_0 (y0:List ByteArray) (x:Int×Int):Option ((Int×Int) ⊕ (Int)) := loopO (g_Sw_szStringS_0 y0) x
def xw_szStringS_0 (y0:List ByteArray):((Int×Int) ⊕ (Int)) → Ex×List (Pl×LV) := fun
 | .inl r => (.ret,[(.T 1,.t (.val false [.int .i64 r.1])),(.T 4,.t (.val false [.int .i64 r.2]))])
 | .inr (r) => (.exit 0,[(.T 1,.t (.val false [.int .i64 r])),(.T 4,.t (.val false [.undef]))])
def Ow_szStringS_1:Orc := fun b h => match b,h with
 | 0,[(.T 0,.t (.val false [.sl .any 9 .str y0])),(.T 1,.t (.val false [.int .i64 y1])),(.T 5,.t (.val false [.int .i64 y2]))] => some (okO (g_Lw_szStringS_0 y0 (y1,y2)),(.br (isL (valO (g_Lw_szStringS_0 y0 (y1,y2)))) (.leaf .ret [(.T 1,.t (.val false [.int .i64 (getL (valO (g_Lw_szStringS_0 y0 (y1,y2)))).1])),(.T 4,.t (.val false [.int .i64 (getL (valO (g_Lw_szStringS_0 y0 (y1,y2)))).2]))]) (.leaf (.exit 0) [(.T 1,.t (.val false [.int .i64 (getR (valO (g_Lw_szStringS_0 y0 (y1,y2))))])),(.T 4,.t (.val false [.undef]))])))
 | b,h => Ow_szStringS_0 b h
theorem bw_szStringS_0 (y0:List ByteArray) (y1:Int) (y2:Int):Tr.bt Ew_szStringS Ow_szStringS_0 (exec Ew_szStringS 0 cw_szStringS_0 (St.of (hw_szStringS_0 y0 y1 y2)) (leafRd Ew_szStringS 0)) = (g_Sw_szStringS_0 y0 (y1,y2)).bt (fun ((y1,y2):Int×Int) => (hw_szStringS_0 y0 y1 y2)) (xw_szStringS_0 y0) := by kernel_rfl
theorem kw_szStringS_1:OrcOk Ew_szStringS Ow_szStringS_1 lsw_szStringS 1 := orc_add kw_szStringS_0 (fun n p hp h ex h' ho => by
 obtain ⟨b,c⟩ := p
 obtain ⟨xt,h1,h2⟩ := ho
 have h1:Ow_szStringS_1 b h = some (true,xt) := h1
 unfold Ow_szStringS_1 at h1
 split at h1
 ·injection h1 with h1
  injection h1 with e1 e2
  subst e2
  have hc:c = cw_szStringS_0 := mw_szStringS_0 _ hp rfl
  subst hc
  right
  rename_i y0 y1 y2
  have key := LT_step kw_szStringS_0 hp (fun q hq => loopsAll_in _ _ _ _ hp hq) (fun ((y1,y2):Int×Int) => (hw_szStringS_0 y0 y1 y2)) (xw_szStringS_0 y0) (g_Sw_szStringS_0 y0) (fun x => by first | exact bw_szStringS_0 y0 x.1 x.2) n (x := (y1,y2)) (okO_some e1)
  have hx:∀ r,XT.sel (.br (isL r) (.leaf .ret [(.T 1,.t (.val false [.int .i64 (getL r).1])),(.T 4,.t (.val false [.int .i64 (getL r).2]))]) (.leaf (.exit 0) [(.T 1,.t (.val false [.int .i64 (getR r)])),(.T 4,.t (.val false [.undef]))])) = xw_szStringS_0 y0 r := fun r => by first | rfl | rcases r with r | r <;> rfl | rcases r with r | r | r <;> rfl | rcases r with r | r | r | r <;> rfl
  have h3 := (hx (valO (g_Lw_szStringS_0 y0 (y1,y2)))).symm.trans h2
  have e3 := congrArg Prod.fst h3
  have e4 := congrArg Prod.snd h3
  simp only at e3 e4
  rw [← e3,← e4]
  exact key
 ·exact .inl ⟨xt,h1,h2⟩)
def g_Aw_szStringS (a0:List ByteArray) (a1:Int):Bool := decide (IntKind.i64.wrap (a1 - (a0.length:Int)) < 0) || okO (g_Lw_szStringS_0 a0 (IntKind.i64.wrap (a1 - (a0.length:Int)),(0:Int)))
def g_Vw_szStringS_0 (a0:List ByteArray) (a1:Int):Int := bif decide (IntKind.i64.wrap (a1 - (a0.length:Int)) < 0) then (-1:Int) else bif isL (valO (g_Lw_szStringS_0 a0 (IntKind.i64.wrap (a1 - (a0.length:Int)),(0:Int)))) then (getL (valO (g_Lw_szStringS_0 a0 (IntKind.i64.wrap (a1 - (a0.length:Int)),(0:Int))))).2 else getR (valO (g_Lw_szStringS_0 a0 (IntKind.i64.wrap (a1 - (a0.length:Int)),(0:Int))))
def Fw_szStringS:FSem := fun ys => match ys with
 | [.val false [.sl .any 9 .str a0],.val false [.int .i64 a1]] => some ((g_Aw_szStringS a0 a1),.val false [.int .i64 (g_Vw_szStringS_0 a0 a1)],[])
 | _ => none
theorem vw_szStringS (a0:List ByteArray) (a1:Int):collapseH .std Ew_szStringS Ow_szStringS_1 (execFn Ew_szStringS Tryz.f153 msw_szStringS [.val false [.sl .any 9 .str a0],.val false [.int .i64 a1]]) = some ((g_Aw_szStringS a0 a1),.val false [.int .i64 (g_Vw_szStringS_0 a0 a1)],[]) := by kernel_rfl
theorem sw_szStringS:Sound Tryz.prog 153 msw_szStringS Fw_szStringS := by
 refine fn_gen goodw_szStringS (by kernel_rfl) .std (fn := Tryz.f153) (c := (Tryz.f153.body.getD .skip)) (o := Ow_szStringS_1) (k := 1) (by kernel_rfl) (by kernel_rfl) (by kernel_rfl) (by kernel_rfl) (by decide) kw_szStringS_1 ?_
 intro ys r outs h
 unfold Fw_szStringS at h
 split at h
 ·exact (vw_szStringS _ _).trans h
 ·cases h
def Ew_szLogNote:Env where
 tt := mkTI Tryz.prog
 fn := fun f => match f with
  | 153 => some (msw_szStringS,FSem.wk msw_szStringS Fw_szStringS)
  | 154 => some (msw_szStoWriteS,FSem.wk msw_szStoWriteS Fw_szStoWriteS)
  | _ => none
 bxf := fun _ => none
 mv := []
 keep := fun _ => []
 keepB := fun _ => []
 keepX := fun _ => []
 keepXB := fun _ => []
theorem goodFw_szLogNote:∀ f ms F,Ew_szLogNote.fn f = some (ms,F) → Sound Tryz.prog f ms F := fun f ms F h => by
 unfold Ew_szLogNote at h
 dsimp only at h
 split at h
 ·exact gF sw_szStringS h
 ·exact gF sw_szStoWriteS h
 ·cases h
theorem goodw_szLogNote:Good Tryz.prog Ew_szLogNote := ⟨rfl,goodFw_szLogNote,fun f ms F h => by cases h⟩
def Ow_szLogNote_0:Orc := fun _ _ => none
def msw_szLogNote:List PM := [.rd,.own]
def lsw_szLogNote:List (Nat×Code) := loopsAll 0 (Tryz.f132.body.getD .skip)
theorem kw_szLogNote_0:OrcOk Ew_szLogNote Ow_szLogNote_0 lsw_szLogNote 0 := orcOk_none
def g_Aw_szLogNote (a0:Int) (a1:Int) (a2:List ByteArray) (a3:tL2) (a4:Int):Bool := g_Aw_szStringS a2 a4&&(decide (g_Vw_szStringS_0 a2 a4 < 0) || g_Aw_szStoWriteS a3 (g_Vw_szStringS_0 a2 a4)&&true)
def g_Vw_szLogNote_0 (a0:Int) (a1:Int) (a2:List ByteArray) (a3:tL2) (a4:Int):Int := bif decide (g_Vw_szStringS_0 a2 a4 < 0) then (-1:Int) else bif decide (g_Vw_szStoWriteS_0 a3 (g_Vw_szStringS_0 a2 a4) < 0) then (-1:Int) else g_Vw_szStoWriteS_0 a3 (g_Vw_szStringS_0 a2 a4)
def Fw_szLogNote:FSem := fun ys => match ys with
 | [.val true [.int .i64 a0,.int .i64 a1,.sl .any 9 .str a2,.sl .any 196 (.pair .str (.pair .bool (.sl 3 (.int .i64)))) a3],.val false [.int .i64 a4]] => some ((g_Aw_szLogNote a0 a1 a2 a3 a4),.val false [.int .i64 (g_Vw_szLogNote_0 a0 a1 a2 a3 a4)],[])
 | _ => none
theorem vw_szLogNote (a0:Int) (a1:Int) (a2:List ByteArray) (a3:tL2) (a4:Int):collapseH .std Ew_szLogNote Ow_szLogNote_0 (execFn Ew_szLogNote Tryz.f132 msw_szLogNote [.val true [.int .i64 a0,.int .i64 a1,.sl .any 9 .str a2,.sl .any 196 (.pair .str (.pair .bool (.sl 3 (.int .i64)))) a3],.val false [.int .i64 a4]]) = some ((g_Aw_szLogNote a0 a1 a2 a3 a4),.val false [.int .i64 (g_Vw_szLogNote_0 a0 a1 a2 a3 a4)],[]) := by kernel_rfl
theorem sw_szLogNote:Sound Tryz.prog 132 msw_szLogNote Fw_szLogNote := by
 refine fn_gen goodw_szLogNote (by kernel_rfl) .std (fn := Tryz.f132) (c := (Tryz.f132.body.getD .skip)) (o := Ow_szLogNote_0) (k := 0) (by kernel_rfl) (by kernel_rfl) (by kernel_rfl) (by kernel_rfl) (by decide) kw_szLogNote_0 ?_
 intro ys r outs h
 unfold Fw_szLogNote at h
 split at h
 ·exact (vw_szLogNote _ _ _ _ _).trans h
 ·cases h
end
end Go.Proofs.YtedhpmhlmdcpbaaGreatDoor.E
