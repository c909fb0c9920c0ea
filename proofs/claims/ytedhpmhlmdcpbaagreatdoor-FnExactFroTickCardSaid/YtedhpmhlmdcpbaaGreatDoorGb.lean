/- What the functions that are reached do, by the engine: for the proof (laws.FnExactFroTick): part 2. No conditions. -/
import Derived.Test.YtedhpmhlmdcpbaaGreatDoorGa
import Derived.Test.YtedhpmhlmdcpbaaGreatDoorProg
set_option linter.all false
namespace Go.Proofs.YtedhpmhlmdcpbaaGreatDoor.E
open Go
set_option maxRecDepth 100000
set_option maxHeartbeats 0
noncomputable def Es_FroTick:Env where
 tt := mkTI Tryz.prog
 fn := fun f => match f with
  | 29 => some (mss_FroOk,FSem.wk mss_FroOk Fs_FroOk)
  | 30 => some (mss_l6Send,FSem.wk mss_l6Send Fs_l6Send)
  | 31 => some (mss_l6Less,FSem.wk mss_l6Less Fs_l6Less)
  | 32 => some (mss_l6All,FSem.wk mss_l6All Fs_l6All)
  | 33 => some (msZ59,FSem.wk msZ59 FZ59)
  | _ => none
 bxf := fun _ => none
 mv := []
 keep := fun b => match b with
  | 0 => [(1,false),(3,false),(4,false)]
  | _ => []
 keepB := fun b => match b with
  | 0 => [(1,false)]
  | _ => []
 keepX := fun b => match b with
  | 0 => [(3,false)]
  | _ => []
 keepXB := fun b => match b with
  | 0 => []
  | _ => []
theorem goodFs_FroTick:∀ f ms F,Es_FroTick.fn f = some (ms,F) → Sound Tryz.prog f ms F := fun f ms F h => by
 unfold Es_FroTick at h
 dsimp only at h
 split at h
 ·exact gF ss_FroOk h
 ·exact gF ss_l6Send h
 ·exact gF ss_l6Less h
 ·exact gF ss_l6All h
 ·exact gF sZ59 h
 ·cases h
theorem goods_FroTick:Good Tryz.prog Es_FroTick := ⟨rfl,goodFs_FroTick,fun f ms F h => by cases h⟩
noncomputable def Os_FroTick_0:Orc := fun _ _ => none
noncomputable def mss_FroTick:List PM := [.rd]
noncomputable def lss_FroTick:List (Nat×Code) := loopsAll 0 (Tryz.f8.body.getD .skip)
noncomputable def cs_FroTick_0:Code := (loopOf 0 (Tryz.f8.body.getD .skip)).getD .skip
theorem lseqs_FroTick:lss_FroTick = [(0,cs_FroTick_0)] := by kernel_rfl
theorem ms_FroTick_0:∀ p,p ∈ lss_FroTick → p.1 = 0 → p.2 = cs_FroTick_0 := by
 intro p hp
 rw [lseqs_FroTick] at hp
 simp only [List.mem_cons,List.not_mem_nil,or_false] at hp
 subst hp; simp
theorem ks_FroTick_0:OrcOk Es_FroTick Os_FroTick_0 lss_FroTick 0 := orcOk_none
noncomputable def hs_FroTick_0 (y0:tL2) (y1:Int) (y2:tL1) (y3:Int) (y4:tL0):List (Pl×LV) := [(.T 1,.t (.val false [.ptr 1 0 0])),(.T 3,.t (.val false [.row 3 0 0])),(.R 3 0,.r 0 (some ⟨false,.non,true,83,(.pair (.int .i64) (.pair (.int .i64) (.pair (.int .i64) (.pair (.int .i64) (.pair (.int .i64) (.pair (.int .i64) (.pair (.int .i64) (.pair (.int .i64) (.pair (.int .i64) (.pair (.int .i64) (.int .i64))))))))))),y0⟩)),(.T 4,.t (.val false [.int .i64 y1])),(.B 1,.b 0 false [.sl .any 92 (.pair (.int .i64) (.pair (.int .i64) (.pair (.sl 9 .str) (.sl 155 (.pair .str (.pair .bool (.sl 3 (.int .i64)))))))) y2,.int .i64 y3,.sl .any 73 (.pair (.int .i64) (.pair (.pair (.int .i64) (.pair (.int .i64) (.pair (.int .i64) (.pair (.int .i64) (.pair (.int .i64) (.pair (.int .i64) (.int .i64))))))) (.pair .bool (.pair (.sl 3 (.int .i64)) (.sl 3 (.int .i64)))))) y4])]
noncomputable def g_Ss_FroTick_0 (y2:tL1) (y3:Int) (y4:tL0):(tL2×Int) → RT (tL2×Int) ((tL2))
 | (y0,y1) => .br (true) (.br (decide (y1 < (y4.length:Int))) (.br (decide (0 ≤ y1 ∧ y1 < (y4.length:Int))) (.br ((at_ yT0 y4 (Int.toNat y1)).2.2.1) (.br (true) (.br (g_As_l6Less g_Vs_l6All_0 (at_ yT0 y4 (Int.toNat y1)).2.2.2.2) (.br (g_As_l6Send (2:Int) (at_ yT0 y4 (Int.toNat y1)).1 (0:Int) (0:Int) (0:Int) (0:Int) (0:Int) (0:Int) (0:Int) (g_Vs_l6Less_0 g_Vs_l6All_0 (at_ yT0 y4 (Int.toNat y1)).2.2.2.2)) (.br (decide ((List.length y0 + List.length (g_Vs_l6Send_0 (2:Int) (at_ yT0 y4 (Int.toNat y1)).1 (0:Int) (0:Int) (0:Int) (0:Int) (0:Int) (0:Int) (0:Int) (g_Vs_l6Less_0 g_Vs_l6All_0 (at_ yT0 y4 (Int.toNat y1)).2.2.2.2))) * nat_lit 88 ≤ nat_lit 140737488355328 ∧ List.length y0 + List.length (g_Vs_l6Send_0 (2:Int) (at_ yT0 y4 (Int.toNat y1)).1 (0:Int) (0:Int) (0:Int) (0:Int) (0:Int) (0:Int) (0:Int) (g_Vs_l6Less_0 g_Vs_l6All_0 (at_ yT0 y4 (Int.toNat y1)).2.2.2.2)) ≤ nat_lit 9223372036854775807)) (.br (true) (.go ((y0 ++ g_Vs_l6Send_0 (2:Int) (at_ yT0 y4 (Int.toNat y1)).1 (0:Int) (0:Int) (0:Int) (0:Int) (0:Int) (0:Int) (0:Int) (g_Vs_l6Less_0 g_Vs_l6All_0 (at_ yT0 y4 (Int.toNat y1)).2.2.2.2),IntKind.i64.wrap (y1 + 1)))) .bad) .bad) .bad) .bad) .bad) (.br (g_AZ59 (at_ yT0 y4 (Int.toNat y1)).2.1.1 (at_ yT0 y4 (Int.toNat y1)).2.1.2.1 (at_ yT0 y4 (Int.toNat y1)).2.1.2.2.1 (at_ yT0 y4 (Int.toNat y1)).2.1.2.2.2.1 (at_ yT0 y4 (Int.toNat y1)).2.1.2.2.2.2.1 (at_ yT0 y4 (Int.toNat y1)).2.1.2.2.2.2.2.1 (at_ yT0 y4 (Int.toNat y1)).2.1.2.2.2.2.2.2) (.br (g_As_l6Less (g_VZ59_0 (at_ yT0 y4 (Int.toNat y1)).2.1.1 (at_ yT0 y4 (Int.toNat y1)).2.1.2.1 (at_ yT0 y4 (Int.toNat y1)).2.1.2.2.1 (at_ yT0 y4 (Int.toNat y1)).2.1.2.2.2.1 (at_ yT0 y4 (Int.toNat y1)).2.1.2.2.2.2.1 (at_ yT0 y4 (Int.toNat y1)).2.1.2.2.2.2.2.1 (at_ yT0 y4 (Int.toNat y1)).2.1.2.2.2.2.2.2) (at_ yT0 y4 (Int.toNat y1)).2.2.2.1) (.br (g_As_l6Send (1:Int) (at_ yT0 y4 (Int.toNat y1)).1 (at_ yT0 y4 (Int.toNat y1)).2.1.1 (at_ yT0 y4 (Int.toNat y1)).2.1.2.1 (at_ yT0 y4 (Int.toNat y1)).2.1.2.2.1 (at_ yT0 y4 (Int.toNat y1)).2.1.2.2.2.1 (at_ yT0 y4 (Int.toNat y1)).2.1.2.2.2.2.1 (at_ yT0 y4 (Int.toNat y1)).2.1.2.2.2.2.2.1 (at_ yT0 y4 (Int.toNat y1)).2.1.2.2.2.2.2.2 (g_Vs_l6Less_0 (g_VZ59_0 (at_ yT0 y4 (Int.toNat y1)).2.1.1 (at_ yT0 y4 (Int.toNat y1)).2.1.2.1 (at_ yT0 y4 (Int.toNat y1)).2.1.2.2.1 (at_ yT0 y4 (Int.toNat y1)).2.1.2.2.2.1 (at_ yT0 y4 (Int.toNat y1)).2.1.2.2.2.2.1 (at_ yT0 y4 (Int.toNat y1)).2.1.2.2.2.2.2.1 (at_ yT0 y4 (Int.toNat y1)).2.1.2.2.2.2.2.2) (at_ yT0 y4 (Int.toNat y1)).2.2.2.1)) (.br (decide ((List.length y0 + List.length (g_Vs_l6Send_0 (1:Int) (at_ yT0 y4 (Int.toNat y1)).1 (at_ yT0 y4 (Int.toNat y1)).2.1.1 (at_ yT0 y4 (Int.toNat y1)).2.1.2.1 (at_ yT0 y4 (Int.toNat y1)).2.1.2.2.1 (at_ yT0 y4 (Int.toNat y1)).2.1.2.2.2.1 (at_ yT0 y4 (Int.toNat y1)).2.1.2.2.2.2.1 (at_ yT0 y4 (Int.toNat y1)).2.1.2.2.2.2.2.1 (at_ yT0 y4 (Int.toNat y1)).2.1.2.2.2.2.2.2 (g_Vs_l6Less_0 (g_VZ59_0 (at_ yT0 y4 (Int.toNat y1)).2.1.1 (at_ yT0 y4 (Int.toNat y1)).2.1.2.1 (at_ yT0 y4 (Int.toNat y1)).2.1.2.2.1 (at_ yT0 y4 (Int.toNat y1)).2.1.2.2.2.1 (at_ yT0 y4 (Int.toNat y1)).2.1.2.2.2.2.1 (at_ yT0 y4 (Int.toNat y1)).2.1.2.2.2.2.2.1 (at_ yT0 y4 (Int.toNat y1)).2.1.2.2.2.2.2.2) (at_ yT0 y4 (Int.toNat y1)).2.2.2.1))) * nat_lit 88 ≤ nat_lit 140737488355328 ∧ List.length y0 + List.length (g_Vs_l6Send_0 (1:Int) (at_ yT0 y4 (Int.toNat y1)).1 (at_ yT0 y4 (Int.toNat y1)).2.1.1 (at_ yT0 y4 (Int.toNat y1)).2.1.2.1 (at_ yT0 y4 (Int.toNat y1)).2.1.2.2.1 (at_ yT0 y4 (Int.toNat y1)).2.1.2.2.2.1 (at_ yT0 y4 (Int.toNat y1)).2.1.2.2.2.2.1 (at_ yT0 y4 (Int.toNat y1)).2.1.2.2.2.2.2.1 (at_ yT0 y4 (Int.toNat y1)).2.1.2.2.2.2.2.2 (g_Vs_l6Less_0 (g_VZ59_0 (at_ yT0 y4 (Int.toNat y1)).2.1.1 (at_ yT0 y4 (Int.toNat y1)).2.1.2.1 (at_ yT0 y4 (Int.toNat y1)).2.1.2.2.1 (at_ yT0 y4 (Int.toNat y1)).2.1.2.2.2.1 (at_ yT0 y4 (Int.toNat y1)).2.1.2.2.2.2.1 (at_ yT0 y4 (Int.toNat y1)).2.1.2.2.2.2.2.1 (at_ yT0 y4 (Int.toNat y1)).2.1.2.2.2.2.2.2) (at_ yT0 y4 (Int.toNat y1)).2.2.2.1)) ≤ nat_lit 9223372036854775807)) (.br (true) (.go ((y0 ++ g_Vs_l6Send_0 (1:Int) (at_ yT0 y4 (Int.toNat y1)).1 (at_ yT0 y4 (Int.toNat y1)).2.1.1 (at_ yT0 y4 (Int.toNat y1)).2.1.2.1 (at_ yT0 y4 (Int.toNat y1)).2.1.2.2.1 (at_ yT0 y4 (Int.toNat y1)).2.1.2.2.2.1 (at_ yT0 y4 (Int.toNat y1)).2.1.2.2.2.2.1 (at_ yT0 y4 (Int.toNat y1)).2.1.2.2.2.2.2.1 (at_ yT0 y4 (Int.toNat y1)).2.1.2.2.2.2.2.2 (g_Vs_l6Less_0 (g_VZ59_0 (at_ yT0 y4 (Int.toNat y1)).2.1.1 (at_ yT0 y4 (Int.toNat y1)).2.1.2.1 (at_ yT0 y4 (Int.toNat y1)).2.1.2.2.1 (at_ yT0 y4 (Int.toNat y1)).2.1.2.2.2.1 (at_ yT0 y4 (Int.toNat y1)).2.1.2.2.2.2.1 (at_ yT0 y4 (Int.toNat y1)).2.1.2.2.2.2.2.1 (at_ yT0 y4 (Int.toNat y1)).2.1.2.2.2.2.2.2) (at_ yT0 y4 (Int.toNat y1)).2.2.2.1),IntKind.i64.wrap (y1 + 1)))) .bad) .bad) .bad) .bad) .bad)) .bad) (.out (y0))) .bad
noncomputable def g_Ls_FroTick_0 (y2:tL1) (y3:Int) (y4:tL0) (x:tL2×Int):Option ((tL2)) := loopO (g_Ss_FroTick_0 y2 y3 y4) x
noncomputable def xs_FroTick_0 (y2:tL1) (y3:Int) (y4:tL0):((tL2)) → Ex×List (Pl×LV) := fun r => (.exit 0,[(.T 3,.t (.val false [.row 3 0 0])),(.R 3 0,.r 0 (some ⟨false,.non,true,83,(.pair (.int .i64) (.pair (.int .i64) (.pair (.int .i64) (.pair (.int .i64) (.pair (.int .i64) (.pair (.int .i64) (.pair (.int .i64) (.pair (.int .i64) (.pair (.int .i64) (.pair (.int .i64) (.int .i64))))))))))),r⟩))])
noncomputable def Os_FroTick_1:Orc := fun b h => match b,h with
 | 0,[(.T 1,.t (.val false [.ptr 1 0 0])),(.T 3,.t (.val false [.row 3 0 0])),(.R 3 0,.r 0 (some ⟨false,.non,true,83,(.pair (.int .i64) (.pair (.int .i64) (.pair (.int .i64) (.pair (.int .i64) (.pair (.int .i64) (.pair (.int .i64) (.pair (.int .i64) (.pair (.int .i64) (.pair (.int .i64) (.pair (.int .i64) (.int .i64))))))))))),y0⟩)),(.T 4,.t (.val false [.int .i64 y1])),(.B 1,.b 0 false [.sl .any 92 (.pair (.int .i64) (.pair (.int .i64) (.pair (.sl 9 .str) (.sl 155 (.pair .str (.pair .bool (.sl 3 (.int .i64)))))))) y2,.int .i64 y3,.sl .any 73 (.pair (.int .i64) (.pair (.pair (.int .i64) (.pair (.int .i64) (.pair (.int .i64) (.pair (.int .i64) (.pair (.int .i64) (.pair (.int .i64) (.int .i64))))))) (.pair .bool (.pair (.sl 3 (.int .i64)) (.sl 3 (.int .i64)))))) y4])] => some (okO (g_Ls_FroTick_0 y2 y3 y4 (y0,y1)),(.leaf (.exit 0) [(.T 3,.t (.val false [.row 3 0 0])),(.R 3 0,.r 0 (some ⟨false,.non,true,83,(.pair (.int .i64) (.pair (.int .i64) (.pair (.int .i64) (.pair (.int .i64) (.pair (.int .i64) (.pair (.int .i64) (.pair (.int .i64) (.pair (.int .i64) (.pair (.int .i64) (.pair (.int .i64) (.int .i64))))))))))),(valO (g_Ls_FroTick_0 y2 y3 y4 (y0,y1)))⟩))]))
 | b,h => Os_FroTick_0 b h
theorem bs_FroTick_0 (y0:tL2) (y1:Int) (y2:tL1) (y3:Int) (y4:tL0):Tr.bt Es_FroTick Os_FroTick_0 (exec Es_FroTick 0 cs_FroTick_0 (St.of (hs_FroTick_0 y0 y1 y2 y3 y4)) (leafRd Es_FroTick 0)) = (g_Ss_FroTick_0 y2 y3 y4 (y0,y1)).bt (fun ((y0,y1):tL2×Int) => (hs_FroTick_0 y0 y1 y2 y3 y4)) (xs_FroTick_0 y2 y3 y4) := by kernel_rfl
theorem ks_FroTick_1:OrcOk Es_FroTick Os_FroTick_1 lss_FroTick 1 := orc_add ks_FroTick_0 (fun n p hp h ex h' ho => by
 obtain ⟨b,c⟩ := p
 obtain ⟨xt,h1,h2⟩ := ho
 have h1:Os_FroTick_1 b h = some (true,xt) := h1
 unfold Os_FroTick_1 at h1
 split at h1
 ·injection h1 with h1
  injection h1 with e1 e2
  subst e2
  have hc:c = cs_FroTick_0 := ms_FroTick_0 _ hp rfl
  subst hc
  right
  rename_i y0 y1 y2 y3 y4
  have key := LT_step ks_FroTick_0 hp (fun q hq => loopsAll_in _ _ _ _ hp hq) (fun ((y0,y1):tL2×Int) => (hs_FroTick_0 y0 y1 y2 y3 y4)) (xs_FroTick_0 y2 y3 y4) (g_Ss_FroTick_0 y2 y3 y4) (fun x => by first | exact bs_FroTick_0 x.1 x.2 y2 y3 y4) n (x := (y0,y1)) (okO_some e1)
  have hx:∀ r,XT.sel (.leaf (.exit 0) [(.T 3,.t (.val false [.row 3 0 0])),(.R 3 0,.r 0 (some ⟨false,.non,true,83,(.pair (.int .i64) (.pair (.int .i64) (.pair (.int .i64) (.pair (.int .i64) (.pair (.int .i64) (.pair (.int .i64) (.pair (.int .i64) (.pair (.int .i64) (.pair (.int .i64) (.pair (.int .i64) (.int .i64))))))))))),r⟩))]) = xs_FroTick_0 y2 y3 y4 r := fun r => by first | rfl | rcases r with r | r <;> rfl | rcases r with r | r | r <;> rfl | rcases r with r | r | r | r <;> rfl
  have h3 := (hx (valO (g_Ls_FroTick_0 y2 y3 y4 (y0,y1)))).symm.trans h2
  have e3 := congrArg Prod.fst h3
  have e4 := congrArg Prod.snd h3
  simp only at e3 e4
  rw [← e3,← e4]
  exact key
 ·exact .inl ⟨xt,h1,h2⟩)
noncomputable def g_As_FroTick (a0:tL1) (a1:Int) (a2:tL0):Bool := g_As_FroOk a0 a1 a2&&(!g_Vs_FroOk_0 a0 a1 a2 || okO (g_Ls_FroTick_0 a0 a1 a2 ([],(0:Int))))
noncomputable def g_Vs_FroTick_0 (a0:tL1) (a1:Int) (a2:tL0):tL2 := bif !g_Vs_FroOk_0 a0 a1 a2 then [] else valO (g_Ls_FroTick_0 a0 a1 a2 ([],(0:Int)))
noncomputable def Fs_FroTick:FSem := fun ys => match ys with
 | [.val true [.sl .any 92 (.pair (.int .i64) (.pair (.int .i64) (.pair (.sl 9 .str) (.sl 155 (.pair .str (.pair .bool (.sl 3 (.int .i64)))))))) a0,.int .i64 a1,.sl .any 73 (.pair (.int .i64) (.pair (.pair (.int .i64) (.pair (.int .i64) (.pair (.int .i64) (.pair (.int .i64) (.pair (.int .i64) (.pair (.int .i64) (.int .i64))))))) (.pair .bool (.pair (.sl 3 (.int .i64)) (.sl 3 (.int .i64)))))) a2]] => some ((g_As_FroTick a0 a1 a2),.val false [.own .any true 83 (.pair (.int .i64) (.pair (.int .i64) (.pair (.int .i64) (.pair (.int .i64) (.pair (.int .i64) (.pair (.int .i64) (.pair (.int .i64) (.pair (.int .i64) (.pair (.int .i64) (.pair (.int .i64) (.int .i64))))))))))) (g_Vs_FroTick_0 a0 a1 a2)],[])
 | _ => none
theorem vs_FroTick (a0:tL1) (a1:Int) (a2:tL0):collapseH .std Es_FroTick Os_FroTick_1 (execFn Es_FroTick Tryz.f8 mss_FroTick [.val true [.sl .any 92 (.pair (.int .i64) (.pair (.int .i64) (.pair (.sl 9 .str) (.sl 155 (.pair .str (.pair .bool (.sl 3 (.int .i64)))))))) a0,.int .i64 a1,.sl .any 73 (.pair (.int .i64) (.pair (.pair (.int .i64) (.pair (.int .i64) (.pair (.int .i64) (.pair (.int .i64) (.pair (.int .i64) (.pair (.int .i64) (.int .i64))))))) (.pair .bool (.pair (.sl 3 (.int .i64)) (.sl 3 (.int .i64)))))) a2]]) = some ((g_As_FroTick a0 a1 a2),.val false [.own .any true 83 (.pair (.int .i64) (.pair (.int .i64) (.pair (.int .i64) (.pair (.int .i64) (.pair (.int .i64) (.pair (.int .i64) (.pair (.int .i64) (.pair (.int .i64) (.pair (.int .i64) (.pair (.int .i64) (.int .i64))))))))))) (g_Vs_FroTick_0 a0 a1 a2)],[]) := by kernel_rfl
theorem ss_FroTick:Sound Tryz.prog 8 mss_FroTick Fs_FroTick := by
 refine fn_gen goods_FroTick (by kernel_rfl) .std (fn := Tryz.f8) (c := (Tryz.f8.body.getD .skip)) (o := Os_FroTick_1) (k := 1) (by kernel_rfl) (by kernel_rfl) (by kernel_rfl) (by kernel_rfl) (by decide) ks_FroTick_1 ?_
 intro ys r outs h
 unfold Fs_FroTick at h
 split at h
 ·exact (vs_FroTick _ _ _).trans h
 ·cases h
noncomputable def Ew_eqIntS:Env where
 tt := mkTI Tryz.prog
 fn := fun _ => none
 bxf := fun _ => none
 mv := []
 keep := fun b => match b with
  | 0 => [(0,false),(1,false),(5,false)]
  | _ => []
 keepB := fun b => match b with
  | 0 => []
  | _ => []
 keepX := fun b => match b with
  | 0 => [(4,false)]
  | _ => []
 keepXB := fun b => match b with
  | 0 => []
  | _ => []
theorem goodFw_eqIntS:∀ f ms F,Ew_eqIntS.fn f = some (ms,F) → Sound Tryz.prog f ms F := fun f ms F h => by cases h
theorem goodw_eqIntS:Good Tryz.prog Ew_eqIntS := ⟨rfl,goodFw_eqIntS,fun f ms F h => by cases h⟩
noncomputable def Ow_eqIntS_0:Orc := fun _ _ => none
noncomputable def msw_eqIntS:List PM := [.rd,.rd]
noncomputable def lsw_eqIntS:List (Nat×Code) := loopsAll 0 (Tryz.f142.body.getD .skip)
noncomputable def cw_eqIntS_0:Code := (loopOf 0 (Tryz.f142.body.getD .skip)).getD .skip
theorem lseqw_eqIntS:lsw_eqIntS = [(0,cw_eqIntS_0)] := by kernel_rfl
theorem mw_eqIntS_0:∀ p,p ∈ lsw_eqIntS → p.1 = 0 → p.2 = cw_eqIntS_0 := by
 intro p hp
 rw [lseqw_eqIntS] at hp
 simp only [List.mem_cons,List.not_mem_nil,or_false] at hp
 subst hp; simp
theorem kw_eqIntS_0:OrcOk Ew_eqIntS Ow_eqIntS_0 lsw_eqIntS 0 := orcOk_none
noncomputable def hw_eqIntS_0 (y0:List Int) (y1:List Int) (y2:Int):List (Pl×LV) := [(.T 0,.t (.val false [.sl .any 3 (.int .i64) y0])),(.T 1,.t (.val false [.sl .any 3 (.int .i64) y1])),(.T 5,.t (.val false [.int .i64 y2]))]
noncomputable def g_Sw_eqIntS_0 (y0:List Int) (y1:List Int):(Int) → RT (Int) ((Bool) ⊕ (Unit))
 | y2 => .br (true) (.br (decide (y2 < (y0.length:Int))) (.br (decide (0 ≤ y2 ∧ y2 < (y0.length:Int))) (.br (decide (0 ≤ y2 ∧ y2 < (y1.length:Int))) (.br (true) (.br (at_ (.int .i64) y0 (Int.toNat y2) != at_ (.int .i64) y1 (Int.toNat y2)) (.out (.inl false)) (.br (true) (.go (IntKind.i64.wrap (y2 + 1))) .bad)) .bad) .bad) .bad) (.out (.inr (())))) .bad
noncomputable def g_Lw_eqIntS_0 (y0:List Int) (y1:List Int) (x:Int):Option ((Bool) ⊕ (Unit)) := loopO (g_Sw_eqIntS_0 y0 y1) x
noncomputable def xw_eqIntS_0 (y0:List Int) (y1:List Int):((Bool) ⊕ (Unit)) → Ex×List (Pl×LV) := fun
 | .inl r => (.ret,[(.T 4,.t (.val false [.bool r]))])
 | .inr (r) => (.exit 0,[(.T 4,.t (.val false [.undef]))])
noncomputable def Ow_eqIntS_1:Orc := fun b h => match b,h with
 | 0,[(.T 0,.t (.val false [.sl .any 3 (.int .i64) y0])),(.T 1,.t (.val false [.sl .any 3 (.int .i64) y1])),(.T 5,.t (.val false [.int .i64 y2]))] => some (okO (g_Lw_eqIntS_0 y0 y1 y2),(.br (isL (valO (g_Lw_eqIntS_0 y0 y1 y2))) (.leaf .ret [(.T 4,.t (.val false [.bool (getL (valO (g_Lw_eqIntS_0 y0 y1 y2)))]))]) (.leaf (.exit 0) [(.T 4,.t (.val false [.undef]))])))
 | b,h => Ow_eqIntS_0 b h
theorem bw_eqIntS_0 (y0:List Int) (y1:List Int) (y2:Int):Tr.bt Ew_eqIntS Ow_eqIntS_0 (exec Ew_eqIntS 0 cw_eqIntS_0 (St.of (hw_eqIntS_0 y0 y1 y2)) (leafRd Ew_eqIntS 0)) = (g_Sw_eqIntS_0 y0 y1 y2).bt (fun (y2:Int) => (hw_eqIntS_0 y0 y1 y2)) (xw_eqIntS_0 y0 y1) := by kernel_rfl
theorem kw_eqIntS_1:OrcOk Ew_eqIntS Ow_eqIntS_1 lsw_eqIntS 1 := orc_add kw_eqIntS_0 (fun n p hp h ex h' ho => by
 obtain ⟨b,c⟩ := p
 obtain ⟨xt,h1,h2⟩ := ho
 have h1:Ow_eqIntS_1 b h = some (true,xt) := h1
 unfold Ow_eqIntS_1 at h1
 split at h1
 ·injection h1 with h1
  injection h1 with e1 e2
  subst e2
  have hc:c = cw_eqIntS_0 := mw_eqIntS_0 _ hp rfl
  subst hc
  right
  rename_i y0 y1 y2
  have key := LT_step kw_eqIntS_0 hp (fun q hq => loopsAll_in _ _ _ _ hp hq) (fun (y2:Int) => (hw_eqIntS_0 y0 y1 y2)) (xw_eqIntS_0 y0 y1) (g_Sw_eqIntS_0 y0 y1) (fun x => by first | exact bw_eqIntS_0 y0 y1 x) n (x := y2) (okO_some e1)
  have hx:∀ r,XT.sel (.br (isL r) (.leaf .ret [(.T 4,.t (.val false [.bool (getL r)]))]) (.leaf (.exit 0) [(.T 4,.t (.val false [.undef]))])) = xw_eqIntS_0 y0 y1 r := fun r => by first | rfl | rcases r with r | r <;> rfl | rcases r with r | r | r <;> rfl | rcases r with r | r | r | r <;> rfl
  have h3 := (hx (valO (g_Lw_eqIntS_0 y0 y1 y2))).symm.trans h2
  have e3 := congrArg Prod.fst h3
  have e4 := congrArg Prod.snd h3
  simp only at e3 e4
  rw [← e3,← e4]
  exact key
 ·exact .inl ⟨xt,h1,h2⟩)
noncomputable def g_Aw_eqIntS (a0:List Int) (a1:List Int):Bool := (a0.length:Int) != (a1.length:Int) || okO (g_Lw_eqIntS_0 a0 a1 (0:Int))
noncomputable def g_Vw_eqIntS_0 (a0:List Int) (a1:List Int):Bool := bif (a0.length:Int) != (a1.length:Int) then false else bif isL (valO (g_Lw_eqIntS_0 a0 a1 (0:Int))) then getL (valO (g_Lw_eqIntS_0 a0 a1 (0:Int))) else true
noncomputable def Fw_eqIntS:FSem := fun ys => match ys with
 | [.val false [.sl .any 3 (.int .i64) a0],.val false [.sl .any 3 (.int .i64) a1]] => some ((g_Aw_eqIntS a0 a1),.val false [.bool (g_Vw_eqIntS_0 a0 a1)],[])
 | _ => none
theorem vw_eqIntS (a0:List Int) (a1:List Int):collapseH .std Ew_eqIntS Ow_eqIntS_1 (execFn Ew_eqIntS Tryz.f142 msw_eqIntS [.val false [.sl .any 3 (.int .i64) a0],.val false [.sl .any 3 (.int .i64) a1]]) = some ((g_Aw_eqIntS a0 a1),.val false [.bool (g_Vw_eqIntS_0 a0 a1)],[]) := by kernel_rfl
theorem sw_eqIntS:Sound Tryz.prog 142 msw_eqIntS Fw_eqIntS := by
 refine fn_gen goodw_eqIntS (by kernel_rfl) .std (fn := Tryz.f142) (c := (Tryz.f142.body.getD .skip)) (o := Ow_eqIntS_1) (k := 1) (by kernel_rfl) (by kernel_rfl) (by kernel_rfl) (by kernel_rfl) (by decide) kw_eqIntS_1 ?_
 intro ys r outs h
 unfold Fw_eqIntS at h
 split at h
 ·exact (vw_eqIntS _ _).trans h
 ·cases h
noncomputable def Ew_eqOpOp:Env where
 tt := mkTI Tryz.prog
 fn := fun _ => none
 bxf := fun _ => none
 mv := []
 keep := fun _ => []
 keepB := fun _ => []
 keepX := fun _ => []
 keepXB := fun _ => []
theorem goodFw_eqOpOp:∀ f ms F,Ew_eqOpOp.fn f = some (ms,F) → Sound Tryz.prog f ms F := fun f ms F h => by cases h
theorem goodw_eqOpOp:Good Tryz.prog Ew_eqOpOp := ⟨rfl,goodFw_eqOpOp,fun f ms F h => by cases h⟩
noncomputable def Ow_eqOpOp_0:Orc := fun _ _ => none
noncomputable def msw_eqOpOp:List PM := [.own,.own]
noncomputable def lsw_eqOpOp:List (Nat×Code) := loopsAll 0 (Tryz.f102.body.getD .skip)
theorem kw_eqOpOp_0:OrcOk Ew_eqOpOp Ow_eqOpOp_0 lsw_eqOpOp 0 := orcOk_none
noncomputable def g_Aw_eqOpOp (a0:Int) (a1:Int) (a2:Int) (a3:Int) (a4:Int) (a5:Int) (a6:Int) (a7:Int) (a8:Int) (a9:Int) (a10:Int) (a11:Int) (a12:Int) (a13:Int):Bool := a0 != a7 || (a1 != a8 || (a2 != a9 || (a3 != a10 || (a4 != a11 || (a5 != a12 || true)))))
noncomputable def g_Vw_eqOpOp_0 (a0:Int) (a1:Int) (a2:Int) (a3:Int) (a4:Int) (a5:Int) (a6:Int) (a7:Int) (a8:Int) (a9:Int) (a10:Int) (a11:Int) (a12:Int) (a13:Int):Bool := bif a0 != a7 then false else bif a1 != a8 then false else bif a2 != a9 then false else bif a3 != a10 then false else bif a4 != a11 then false else bif a5 != a12 then false else bif a6 != a13 then false else true
noncomputable def Fw_eqOpOp:FSem := fun ys => match ys with
 | [.val true [.int .i64 a0,.int .i64 a1,.int .i64 a2,.int .i64 a3,.int .i64 a4,.int .i64 a5,.int .i64 a6],.val true [.int .i64 a7,.int .i64 a8,.int .i64 a9,.int .i64 a10,.int .i64 a11,.int .i64 a12,.int .i64 a13]] => some ((g_Aw_eqOpOp a0 a1 a2 a3 a4 a5 a6 a7 a8 a9 a10 a11 a12 a13),.val false [.bool (g_Vw_eqOpOp_0 a0 a1 a2 a3 a4 a5 a6 a7 a8 a9 a10 a11 a12 a13)],[])
 | _ => none
theorem vw_eqOpOp (a0:Int) (a1:Int) (a2:Int) (a3:Int) (a4:Int) (a5:Int) (a6:Int) (a7:Int) (a8:Int) (a9:Int) (a10:Int) (a11:Int) (a12:Int) (a13:Int):collapseH .std Ew_eqOpOp Ow_eqOpOp_0 (execFn Ew_eqOpOp Tryz.f102 msw_eqOpOp [.val true [.int .i64 a0,.int .i64 a1,.int .i64 a2,.int .i64 a3,.int .i64 a4,.int .i64 a5,.int .i64 a6],.val true [.int .i64 a7,.int .i64 a8,.int .i64 a9,.int .i64 a10,.int .i64 a11,.int .i64 a12,.int .i64 a13]]) = some ((g_Aw_eqOpOp a0 a1 a2 a3 a4 a5 a6 a7 a8 a9 a10 a11 a12 a13),.val false [.bool (g_Vw_eqOpOp_0 a0 a1 a2 a3 a4 a5 a6 a7 a8 a9 a10 a11 a12 a13)],[]) := by kernel_rfl
theorem sw_eqOpOp:Sound Tryz.prog 102 msw_eqOpOp Fw_eqOpOp := by
 refine fn_gen goodw_eqOpOp (by kernel_rfl) .std (fn := Tryz.f102) (c := (Tryz.f102.body.getD .skip)) (o := Ow_eqOpOp_0) (k := 0) (by kernel_rfl) (by kernel_rfl) (by kernel_rfl) (by kernel_rfl) (by decide) kw_eqOpOp_0 ?_
 intro ys r outs h
 unfold Fw_eqOpOp at h
 split at h
 ·exact (vw_eqOpOp _ _ _ _ _ _ _ _ _ _ _ _ _ _).trans h
 ·cases h
noncomputable def Ew_eqFroTx:Env where
 tt := mkTI Tryz.prog
 fn := fun f => match f with
  | 102 => some (msw_eqOpOp,FSem.wk msw_eqOpOp Fw_eqOpOp)
  | 142 => some (msw_eqIntS,FSem.wk msw_eqIntS Fw_eqIntS)
  | _ => none
 bxf := fun _ => none
 mv := []
 keep := fun _ => []
 keepB := fun _ => []
 keepX := fun _ => []
 keepXB := fun _ => []
theorem goodFw_eqFroTx:∀ f ms F,Ew_eqFroTx.fn f = some (ms,F) → Sound Tryz.prog f ms F := fun f ms F h => by
 unfold Ew_eqFroTx at h
 dsimp only at h
 split at h
 ·exact gF sw_eqOpOp h
 ·exact gF sw_eqIntS h
 ·cases h
theorem goodw_eqFroTx:Good Tryz.prog Ew_eqFroTx := ⟨rfl,goodFw_eqFroTx,fun f ms F h => by cases h⟩
noncomputable def Ow_eqFroTx_0:Orc := fun _ _ => none
noncomputable def msw_eqFroTx:List PM := [.rd,.rd]
noncomputable def lsw_eqFroTx:List (Nat×Code) := loopsAll 0 (Tryz.f104.body.getD .skip)
theorem kw_eqFroTx_0:OrcOk Ew_eqFroTx Ow_eqFroTx_0 lsw_eqFroTx 0 := orcOk_none
noncomputable def g_Aw_eqFroTx (a0:Int) (a1:Int) (a2:Int) (a3:Int) (a4:Int) (a5:Int) (a6:Int) (a7:Int) (a8:Bool) (a9:List Int) (a10:List Int) (a11:Int) (a12:Int) (a13:Int) (a14:Int) (a15:Int) (a16:Int) (a17:Int) (a18:Int) (a19:Bool) (a20:List Int) (a21:List Int):Bool := a0 != a11 || g_Aw_eqOpOp a1 a2 a3 a4 a5 a6 a7 a12 a13 a14 a15 a16 a17 a18&&(!g_Vw_eqOpOp_0 a1 a2 a3 a4 a5 a6 a7 a12 a13 a14 a15 a16 a17 a18 || (!a8 == a19 || g_Aw_eqIntS a9 a20&&(!g_Vw_eqIntS_0 a9 a20 || g_Aw_eqIntS a10 a21)))
noncomputable def g_Vw_eqFroTx_0 (a0:Int) (a1:Int) (a2:Int) (a3:Int) (a4:Int) (a5:Int) (a6:Int) (a7:Int) (a8:Bool) (a9:List Int) (a10:List Int) (a11:Int) (a12:Int) (a13:Int) (a14:Int) (a15:Int) (a16:Int) (a17:Int) (a18:Int) (a19:Bool) (a20:List Int) (a21:List Int):Bool := bif a0 != a11 then false else bif !g_Vw_eqOpOp_0 a1 a2 a3 a4 a5 a6 a7 a12 a13 a14 a15 a16 a17 a18 then false else bif !a8 == a19 then false else bif !g_Vw_eqIntS_0 a9 a20 then false else bif !g_Vw_eqIntS_0 a10 a21 then false else true
noncomputable def Fw_eqFroTx:FSem := fun ys => match ys with
 | [.val true [.int .i64 a0,.int .i64 a1,.int .i64 a2,.int .i64 a3,.int .i64 a4,.int .i64 a5,.int .i64 a6,.int .i64 a7,.bool a8,.sl .any 3 (.int .i64) a9,.sl .any 3 (.int .i64) a10],.val true [.int .i64 a11,.int .i64 a12,.int .i64 a13,.int .i64 a14,.int .i64 a15,.int .i64 a16,.int .i64 a17,.int .i64 a18,.bool a19,.sl .any 3 (.int .i64) a20,.sl .any 3 (.int .i64) a21]] => some ((g_Aw_eqFroTx a0 a1 a2 a3 a4 a5 a6 a7 a8 a9 a10 a11 a12 a13 a14 a15 a16 a17 a18 a19 a20 a21),.val false [.bool (g_Vw_eqFroTx_0 a0 a1 a2 a3 a4 a5 a6 a7 a8 a9 a10 a11 a12 a13 a14 a15 a16 a17 a18 a19 a20 a21)],[])
 | _ => none
theorem vw_eqFroTx (a0:Int) (a1:Int) (a2:Int) (a3:Int) (a4:Int) (a5:Int) (a6:Int) (a7:Int) (a8:Bool) (a9:List Int) (a10:List Int) (a11:Int) (a12:Int) (a13:Int) (a14:Int) (a15:Int) (a16:Int) (a17:Int) (a18:Int) (a19:Bool) (a20:List Int) (a21:List Int):collapseH .std Ew_eqFroTx Ow_eqFroTx_0 (execFn Ew_eqFroTx Tryz.f104 msw_eqFroTx [.val true [.int .i64 a0,.int .i64 a1,.int .i64 a2,.int .i64 a3,.int .i64 a4,.int .i64 a5,.int .i64 a6,.int .i64 a7,.bool a8,.sl .any 3 (.int .i64) a9,.sl .any 3 (.int .i64) a10],.val true [.int .i64 a11,.int .i64 a12,.int .i64 a13,.int .i64 a14,.int .i64 a15,.int .i64 a16,.int .i64 a17,.int .i64 a18,.bool a19,.sl .any 3 (.int .i64) a20,.sl .any 3 (.int .i64) a21]]) = some ((g_Aw_eqFroTx a0 a1 a2 a3 a4 a5 a6 a7 a8 a9 a10 a11 a12 a13 a14 a15 a16 a17 a18 a19 a20 a21),.val false [.bool (g_Vw_eqFroTx_0 a0 a1 a2 a3 a4 a5 a6 a7 a8 a9 a10 a11 a12 a13 a14 a15 a16 a17 a18 a19 a20 a21)],[]) := by kernel_rfl
theorem sw_eqFroTx:Sound Tryz.prog 104 msw_eqFroTx Fw_eqFroTx := by
 refine fn_gen goodw_eqFroTx (by kernel_rfl) .std (fn := Tryz.f104) (c := (Tryz.f104.body.getD .skip)) (o := Ow_eqFroTx_0) (k := 0) (by kernel_rfl) (by kernel_rfl) (by kernel_rfl) (by kernel_rfl) (by decide) kw_eqFroTx_0 ?_
 intro ys r outs h
 unfold Fw_eqFroTx at h
 split at h
 ·exact (vw_eqFroTx _ _ _ _ _ _ _ _ _ _ _ _ _ _ _ _ _ _ _ _ _ _).trans h
 ·cases h
noncomputable def EZ60:Env where
 tt := mkTI Tryz.prog
 fn := fun f => match f with
  | 104 => some (msw_eqFroTx,FSem.wk msw_eqFroTx Fw_eqFroTx)
  | _ => none
 bxf := fun _ => none
 mv := []
 keep := fun b => match b with
  | 0 => [(0,false),(1,false),(5,false)]
  | _ => []
 keepB := fun b => match b with
  | 0 => []
  | _ => []
 keepX := fun b => match b with
  | 0 => [(4,false)]
  | _ => []
 keepXB := fun b => match b with
  | 0 => []
  | _ => []
theorem goodFZ60:∀ f ms F,EZ60.fn f = some (ms,F) → Sound Tryz.prog f ms F := fun f ms F h => by
 unfold EZ60 at h
 dsimp only at h
 split at h
 ·exact gF sw_eqFroTx h
 ·cases h
theorem goodZ60:Good Tryz.prog EZ60 := ⟨rfl,goodFZ60,fun f ms F h => by cases h⟩
noncomputable def OZ60_0:Orc := fun _ _ => none
noncomputable def msZ60:List PM := [.rd,.rd]
noncomputable def lsZ60:List (Nat×Code) := loopsAll 0 (Tryz.f43.body.getD .skip)
noncomputable def cZ60_0:Code := (loopOf 0 (Tryz.f43.body.getD .skip)).getD .skip
theorem lseqZ60:lsZ60 = [(0,cZ60_0)] := by kernel_rfl
theorem mZ60_0:∀ p,p ∈ lsZ60 → p.1 = 0 → p.2 = cZ60_0 := by
 intro p hp
 rw [lseqZ60] at hp
 simp only [List.mem_cons,List.not_mem_nil,or_false] at hp
 subst hp; simp
theorem kZ60_0:OrcOk EZ60 OZ60_0 lsZ60 0 := orcOk_none
noncomputable def hZ60_0 (y0:tL0) (y1:tL0) (y2:Int):List (Pl×LV) := [(.T 0,.t (.val false [.sl .any 73 (.pair (.int .i64) (.pair (.pair (.int .i64) (.pair (.int .i64) (.pair (.int .i64) (.pair (.int .i64) (.pair (.int .i64) (.pair (.int .i64) (.int .i64))))))) (.pair .bool (.pair (.sl 3 (.int .i64)) (.sl 3 (.int .i64)))))) y0])),(.T 1,.t (.val false [.sl .any 73 (.pair (.int .i64) (.pair (.pair (.int .i64) (.pair (.int .i64) (.pair (.int .i64) (.pair (.int .i64) (.pair (.int .i64) (.pair (.int .i64) (.int .i64))))))) (.pair .bool (.pair (.sl 3 (.int .i64)) (.sl 3 (.int .i64)))))) y1])),(.T 5,.t (.val false [.int .i64 y2]))]
noncomputable def g_SZ60_0 (y0:tL0) (y1:tL0):(Int) → RT (Int) ((Bool) ⊕ (Unit))
 | y2 => .br (true) (.br (decide (y2 < (y0.length:Int))) (.br (decide (0 ≤ y2 ∧ y2 < (y0.length:Int))) (.br (decide (0 ≤ y2 ∧ y2 < (y1.length:Int))) (.br (g_Aw_eqFroTx (at_ yT0 y0 (Int.toNat y2)).1 (at_ yT0 y0 (Int.toNat y2)).2.1.1 (at_ yT0 y0 (Int.toNat y2)).2.1.2.1 (at_ yT0 y0 (Int.toNat y2)).2.1.2.2.1 (at_ yT0 y0 (Int.toNat y2)).2.1.2.2.2.1 (at_ yT0 y0 (Int.toNat y2)).2.1.2.2.2.2.1 (at_ yT0 y0 (Int.toNat y2)).2.1.2.2.2.2.2.1 (at_ yT0 y0 (Int.toNat y2)).2.1.2.2.2.2.2.2 (at_ yT0 y0 (Int.toNat y2)).2.2.1 (at_ yT0 y0 (Int.toNat y2)).2.2.2.1 (at_ yT0 y0 (Int.toNat y2)).2.2.2.2 (at_ yT0 y1 (Int.toNat y2)).1 (at_ yT0 y1 (Int.toNat y2)).2.1.1 (at_ yT0 y1 (Int.toNat y2)).2.1.2.1 (at_ yT0 y1 (Int.toNat y2)).2.1.2.2.1 (at_ yT0 y1 (Int.toNat y2)).2.1.2.2.2.1 (at_ yT0 y1 (Int.toNat y2)).2.1.2.2.2.2.1 (at_ yT0 y1 (Int.toNat y2)).2.1.2.2.2.2.2.1 (at_ yT0 y1 (Int.toNat y2)).2.1.2.2.2.2.2.2 (at_ yT0 y1 (Int.toNat y2)).2.2.1 (at_ yT0 y1 (Int.toNat y2)).2.2.2.1 (at_ yT0 y1 (Int.toNat y2)).2.2.2.2) (.br (!g_Vw_eqFroTx_0 (at_ yT0 y0 (Int.toNat y2)).1 (at_ yT0 y0 (Int.toNat y2)).2.1.1 (at_ yT0 y0 (Int.toNat y2)).2.1.2.1 (at_ yT0 y0 (Int.toNat y2)).2.1.2.2.1 (at_ yT0 y0 (Int.toNat y2)).2.1.2.2.2.1 (at_ yT0 y0 (Int.toNat y2)).2.1.2.2.2.2.1 (at_ yT0 y0 (Int.toNat y2)).2.1.2.2.2.2.2.1 (at_ yT0 y0 (Int.toNat y2)).2.1.2.2.2.2.2.2 (at_ yT0 y0 (Int.toNat y2)).2.2.1 (at_ yT0 y0 (Int.toNat y2)).2.2.2.1 (at_ yT0 y0 (Int.toNat y2)).2.2.2.2 (at_ yT0 y1 (Int.toNat y2)).1 (at_ yT0 y1 (Int.toNat y2)).2.1.1 (at_ yT0 y1 (Int.toNat y2)).2.1.2.1 (at_ yT0 y1 (Int.toNat y2)).2.1.2.2.1 (at_ yT0 y1 (Int.toNat y2)).2.1.2.2.2.1 (at_ yT0 y1 (Int.toNat y2)).2.1.2.2.2.2.1 (at_ yT0 y1 (Int.toNat y2)).2.1.2.2.2.2.2.1 (at_ yT0 y1 (Int.toNat y2)).2.1.2.2.2.2.2.2 (at_ yT0 y1 (Int.toNat y2)).2.2.1 (at_ yT0 y1 (Int.toNat y2)).2.2.2.1 (at_ yT0 y1 (Int.toNat y2)).2.2.2.2) (.out (.inl false)) (.br (true) (.go (IntKind.i64.wrap (y2 + 1))) .bad)) .bad) .bad) .bad) (.out (.inr (())))) .bad
noncomputable def g_LZ60_0 (y0:tL0) (y1:tL0) (x:Int):Option ((Bool) ⊕ (Unit)) := loopO (g_SZ60_0 y0 y1) x
noncomputable def xZ60_0 (y0:tL0) (y1:tL0):((Bool) ⊕ (Unit)) → Ex×List (Pl×LV) := fun
 | .inl r => (.ret,[(.T 4,.t (.val false [.bool r]))])
 | .inr (r) => (.exit 0,[(.T 4,.t (.val false [.undef]))])
noncomputable def OZ60_1:Orc := fun b h => match b,h with
 | 0,[(.T 0,.t (.val false [.sl .any 73 (.pair (.int .i64) (.pair (.pair (.int .i64) (.pair (.int .i64) (.pair (.int .i64) (.pair (.int .i64) (.pair (.int .i64) (.pair (.int .i64) (.int .i64))))))) (.pair .bool (.pair (.sl 3 (.int .i64)) (.sl 3 (.int .i64)))))) y0])),(.T 1,.t (.val false [.sl .any 73 (.pair (.int .i64) (.pair (.pair (.int .i64) (.pair (.int .i64) (.pair (.int .i64) (.pair (.int .i64) (.pair (.int .i64) (.pair (.int .i64) (.int .i64))))))) (.pair .bool (.pair (.sl 3 (.int .i64)) (.sl 3 (.int .i64)))))) y1])),(.T 5,.t (.val false [.int .i64 y2]))] => some (okO (g_LZ60_0 y0 y1 y2),(.br (isL (valO (g_LZ60_0 y0 y1 y2))) (.leaf .ret [(.T 4,.t (.val false [.bool (getL (valO (g_LZ60_0 y0 y1 y2)))]))]) (.leaf (.exit 0) [(.T 4,.t (.val false [.undef]))])))
 | b,h => OZ60_0 b h
theorem bZ60_0 (y0:tL0) (y1:tL0) (y2:Int):Tr.bt EZ60 OZ60_0 (exec EZ60 0 cZ60_0 (St.of (hZ60_0 y0 y1 y2)) (leafRd EZ60 0)) = (g_SZ60_0 y0 y1 y2).bt (fun (y2:Int) => (hZ60_0 y0 y1 y2)) (xZ60_0 y0 y1) := by kernel_rfl
theorem kZ60_1:OrcOk EZ60 OZ60_1 lsZ60 1 := orc_add kZ60_0 (fun n p hp h ex h' ho => by
 obtain ⟨b,c⟩ := p
 obtain ⟨xt,h1,h2⟩ := ho
 have h1:OZ60_1 b h = some (true,xt) := h1
 unfold OZ60_1 at h1
 split at h1
 ·injection h1 with h1
  injection h1 with e1 e2
  subst e2
  have hc:c = cZ60_0 := mZ60_0 _ hp rfl
  subst hc
  right
  rename_i y0 y1 y2
  have key := LT_step kZ60_0 hp (fun q hq => loopsAll_in _ _ _ _ hp hq) (fun (y2:Int) => (hZ60_0 y0 y1 y2)) (xZ60_0 y0 y1) (g_SZ60_0 y0 y1) (fun x => by first | exact bZ60_0 y0 y1 x) n (x := y2) (okO_some e1)
  have hx:∀ r,XT.sel (.br (isL r) (.leaf .ret [(.T 4,.t (.val false [.bool (getL r)]))]) (.leaf (.exit 0) [(.T 4,.t (.val false [.undef]))])) = xZ60_0 y0 y1 r := fun r => by first | rfl | rcases r with r | r <;> rfl | rcases r with r | r | r <;> rfl | rcases r with r | r | r | r <;> rfl
  have h3 := (hx (valO (g_LZ60_0 y0 y1 y2))).symm.trans h2
  have e3 := congrArg Prod.fst h3
  have e4 := congrArg Prod.snd h3
  simp only at e3 e4
  rw [← e3,← e4]
  exact key
 ·exact .inl ⟨xt,h1,h2⟩)
noncomputable def g_AZ60 (a0:tL0) (a1:tL0):Bool := (a0.length:Int) != (a1.length:Int) || okO (g_LZ60_0 a0 a1 (0:Int))
noncomputable def g_VZ60_0 (a0:tL0) (a1:tL0):Bool := bif (a0.length:Int) != (a1.length:Int) then false else bif isL (valO (g_LZ60_0 a0 a1 (0:Int))) then getL (valO (g_LZ60_0 a0 a1 (0:Int))) else true
noncomputable def FZ60:FSem := fun ys => match ys with
 | [.val false [.sl .any 73 (.pair (.int .i64) (.pair (.pair (.int .i64) (.pair (.int .i64) (.pair (.int .i64) (.pair (.int .i64) (.pair (.int .i64) (.pair (.int .i64) (.int .i64))))))) (.pair .bool (.pair (.sl 3 (.int .i64)) (.sl 3 (.int .i64)))))) a0],.val false [.sl .any 73 (.pair (.int .i64) (.pair (.pair (.int .i64) (.pair (.int .i64) (.pair (.int .i64) (.pair (.int .i64) (.pair (.int .i64) (.pair (.int .i64) (.int .i64))))))) (.pair .bool (.pair (.sl 3 (.int .i64)) (.sl 3 (.int .i64)))))) a1]] => some ((g_AZ60 a0 a1),.val false [.bool (g_VZ60_0 a0 a1)],[])
 | _ => none
theorem vZ60 (a0:tL0) (a1:tL0):collapseH .std EZ60 OZ60_1 (execFn EZ60 Tryz.f43 msZ60 [.val false [.sl .any 73 (.pair (.int .i64) (.pair (.pair (.int .i64) (.pair (.int .i64) (.pair (.int .i64) (.pair (.int .i64) (.pair (.int .i64) (.pair (.int .i64) (.int .i64))))))) (.pair .bool (.pair (.sl 3 (.int .i64)) (.sl 3 (.int .i64)))))) a0],.val false [.sl .any 73 (.pair (.int .i64) (.pair (.pair (.int .i64) (.pair (.int .i64) (.pair (.int .i64) (.pair (.int .i64) (.pair (.int .i64) (.pair (.int .i64) (.int .i64))))))) (.pair .bool (.pair (.sl 3 (.int .i64)) (.sl 3 (.int .i64)))))) a1]]) = some ((g_AZ60 a0 a1),.val false [.bool (g_VZ60_0 a0 a1)],[]) := by kernel_rfl
theorem sZ60:Sound Tryz.prog 43 msZ60 FZ60 := by
 refine fn_gen goodZ60 (by kernel_rfl) .std (fn := Tryz.f43) (c := (Tryz.f43.body.getD .skip)) (o := OZ60_1) (k := 1) (by kernel_rfl) (by kernel_rfl) (by kernel_rfl) (by kernel_rfl) (by decide) kZ60_1 ?_
 intro ys r outs h
 unfold FZ60 at h
 split at h
 ·exact (vZ60 _ _).trans h
 ·cases h
noncomputable def EZ31:Env where
 tt := mkTI Tryz.prog
 fn := fun f => match f with
  | 142 => some (msw_eqIntS,FSem.wk msw_eqIntS Fw_eqIntS)
  | _ => none
 bxf := fun _ => none
 mv := []
 keep := fun _ => []
 keepB := fun _ => []
 keepX := fun _ => []
 keepXB := fun _ => []
theorem goodFZ31:∀ f ms F,EZ31.fn f = some (ms,F) → Sound Tryz.prog f ms F := fun f ms F h => by
 unfold EZ31 at h
 dsimp only at h
 split at h
 ·exact gF sw_eqIntS h
 ·cases h
theorem goodZ31:Good Tryz.prog EZ31 := ⟨rfl,goodFZ31,fun f ms F h => by cases h⟩
noncomputable def OZ31_0:Orc := fun _ _ => none
noncomputable def msZ31:List PM := [.rd,.rd]
noncomputable def lsZ31:List (Nat×Code) := loopsAll 0 (Tryz.f180.body.getD .skip)
theorem kZ31_0:OrcOk EZ31 OZ31_0 lsZ31 0 := orcOk_none
noncomputable def g_AZ31 (a0:ByteArray) (a1:Bool) (a2:List Int) (a3:ByteArray) (a4:Bool) (a5:List Int):Bool := !ByteArray.toList a0 == ByteArray.toList a3 || (!a1 == a4 || g_Aw_eqIntS a2 a5)
noncomputable def g_VZ31_0 (a0:ByteArray) (a1:Bool) (a2:List Int) (a3:ByteArray) (a4:Bool) (a5:List Int):Bool := bif !ByteArray.toList a0 == ByteArray.toList a3 then false else bif !a1 == a4 then false else bif !g_Vw_eqIntS_0 a2 a5 then false else true
noncomputable def FZ31:FSem := fun ys => match ys with
 | [.val true [.str a0,.bool a1,.sl .any 3 (.int .i64) a2],.val true [.str a3,.bool a4,.sl .any 3 (.int .i64) a5]] => some ((g_AZ31 a0 a1 a2 a3 a4 a5),.val false [.bool (g_VZ31_0 a0 a1 a2 a3 a4 a5)],[])
 | _ => none
theorem vZ31 (a0:ByteArray) (a1:Bool) (a2:List Int) (a3:ByteArray) (a4:Bool) (a5:List Int):collapseH .std EZ31 OZ31_0 (execFn EZ31 Tryz.f180 msZ31 [.val true [.str a0,.bool a1,.sl .any 3 (.int .i64) a2],.val true [.str a3,.bool a4,.sl .any 3 (.int .i64) a5]]) = some ((g_AZ31 a0 a1 a2 a3 a4 a5),.val false [.bool (g_VZ31_0 a0 a1 a2 a3 a4 a5)],[]) := by kernel_rfl
theorem sZ31:Sound Tryz.prog 180 msZ31 FZ31 := by
 refine fn_gen goodZ31 (by kernel_rfl) .std (fn := Tryz.f180) (c := (Tryz.f180.body.getD .skip)) (o := OZ31_0) (k := 0) (by kernel_rfl) (by kernel_rfl) (by kernel_rfl) (by kernel_rfl) (by decide) kZ31_0 ?_
 intro ys r outs h
 unfold FZ31 at h
 split at h
 ·exact (vZ31 _ _ _ _ _ _).trans h
 ·cases h
noncomputable def EZ22:Env where
 tt := mkTI Tryz.prog
 fn := fun f => match f with
  | 180 => some (msZ31,FSem.wk msZ31 FZ31)
  | _ => none
 bxf := fun _ => none
 mv := []
 keep := fun b => match b with
  | 0 => [(0,false),(1,false),(5,false)]
  | _ => []
 keepB := fun b => match b with
  | 0 => []
  | _ => []
 keepX := fun b => match b with
  | 0 => [(4,false)]
  | _ => []
 keepXB := fun b => match b with
  | 0 => []
  | _ => []
theorem goodFZ22:∀ f ms F,EZ22.fn f = some (ms,F) → Sound Tryz.prog f ms F := fun f ms F h => by
 unfold EZ22 at h
 dsimp only at h
 split at h
 ·exact gF sZ31 h
 ·cases h
theorem goodZ22:Good Tryz.prog EZ22 := ⟨rfl,goodFZ22,fun f ms F h => by cases h⟩
noncomputable def OZ22_0:Orc := fun _ _ => none
noncomputable def msZ22:List PM := [.rd,.rd]
noncomputable def lsZ22:List (Nat×Code) := loopsAll 0 (Tryz.f167.body.getD .skip)
noncomputable def cZ22_0:Code := (loopOf 0 (Tryz.f167.body.getD .skip)).getD .skip
theorem lseqZ22:lsZ22 = [(0,cZ22_0)] := by kernel_rfl
theorem mZ22_0:∀ p,p ∈ lsZ22 → p.1 = 0 → p.2 = cZ22_0 := by
 intro p hp
 rw [lseqZ22] at hp
 simp only [List.mem_cons,List.not_mem_nil,or_false] at hp
 subst hp; simp
theorem kZ22_0:OrcOk EZ22 OZ22_0 lsZ22 0 := orcOk_none
noncomputable def hZ22_0 (y0:tL3) (y1:tL3) (y2:Int):List (Pl×LV) := [(.T 0,.t (.val false [.sl .any 155 (.pair .str (.pair .bool (.sl 3 (.int .i64)))) y0])),(.T 1,.t (.val false [.sl .any 155 (.pair .str (.pair .bool (.sl 3 (.int .i64)))) y1])),(.T 5,.t (.val false [.int .i64 y2]))]
noncomputable def g_SZ22_0 (y0:tL3) (y1:tL3):(Int) → RT (Int) ((Bool) ⊕ (Unit))
 | y2 => .br (true) (.br (decide (y2 < (y0.length:Int))) (.br (decide (0 ≤ y2 ∧ y2 < (y0.length:Int))) (.br (decide (0 ≤ y2 ∧ y2 < (y1.length:Int))) (.br (g_AZ31 (at_ yT4 y0 (Int.toNat y2)).1 (at_ yT4 y0 (Int.toNat y2)).2.1 (at_ yT4 y0 (Int.toNat y2)).2.2 (at_ yT4 y1 (Int.toNat y2)).1 (at_ yT4 y1 (Int.toNat y2)).2.1 (at_ yT4 y1 (Int.toNat y2)).2.2) (.br (!g_VZ31_0 (at_ yT4 y0 (Int.toNat y2)).1 (at_ yT4 y0 (Int.toNat y2)).2.1 (at_ yT4 y0 (Int.toNat y2)).2.2 (at_ yT4 y1 (Int.toNat y2)).1 (at_ yT4 y1 (Int.toNat y2)).2.1 (at_ yT4 y1 (Int.toNat y2)).2.2) (.out (.inl false)) (.br (true) (.go (IntKind.i64.wrap (y2 + 1))) .bad)) .bad) .bad) .bad) (.out (.inr (())))) .bad
noncomputable def g_LZ22_0 (y0:tL3) (y1:tL3) (x:Int):Option ((Bool) ⊕ (Unit)) := loopO (g_SZ22_0 y0 y1) x
noncomputable def xZ22_0 (y0:tL3) (y1:tL3):((Bool) ⊕ (Unit)) → Ex×List (Pl×LV) := fun
 | .inl r => (.ret,[(.T 4,.t (.val false [.bool r]))])
 | .inr (r) => (.exit 0,[(.T 4,.t (.val false [.undef]))])
noncomputable def OZ22_1:Orc := fun b h => match b,h with
 | 0,[(.T 0,.t (.val false [.sl .any 155 (.pair .str (.pair .bool (.sl 3 (.int .i64)))) y0])),(.T 1,.t (.val false [.sl .any 155 (.pair .str (.pair .bool (.sl 3 (.int .i64)))) y1])),(.T 5,.t (.val false [.int .i64 y2]))] => some (okO (g_LZ22_0 y0 y1 y2),(.br (isL (valO (g_LZ22_0 y0 y1 y2))) (.leaf .ret [(.T 4,.t (.val false [.bool (getL (valO (g_LZ22_0 y0 y1 y2)))]))]) (.leaf (.exit 0) [(.T 4,.t (.val false [.undef]))])))
 | b,h => OZ22_0 b h
theorem bZ22_0 (y0:tL3) (y1:tL3) (y2:Int):Tr.bt EZ22 OZ22_0 (exec EZ22 0 cZ22_0 (St.of (hZ22_0 y0 y1 y2)) (leafRd EZ22 0)) = (g_SZ22_0 y0 y1 y2).bt (fun (y2:Int) => (hZ22_0 y0 y1 y2)) (xZ22_0 y0 y1) := by kernel_rfl
theorem kZ22_1:OrcOk EZ22 OZ22_1 lsZ22 1 := orc_add kZ22_0 (fun n p hp h ex h' ho => by
 obtain ⟨b,c⟩ := p
 obtain ⟨xt,h1,h2⟩ := ho
 have h1:OZ22_1 b h = some (true,xt) := h1
 unfold OZ22_1 at h1
 split at h1
 ·injection h1 with h1
  injection h1 with e1 e2
  subst e2
  have hc:c = cZ22_0 := mZ22_0 _ hp rfl
  subst hc
  right
  rename_i y0 y1 y2
  have key := LT_step kZ22_0 hp (fun q hq => loopsAll_in _ _ _ _ hp hq) (fun (y2:Int) => (hZ22_0 y0 y1 y2)) (xZ22_0 y0 y1) (g_SZ22_0 y0 y1) (fun x => by first | exact bZ22_0 y0 y1 x) n (x := y2) (okO_some e1)
  have hx:∀ r,XT.sel (.br (isL r) (.leaf .ret [(.T 4,.t (.val false [.bool (getL r)]))]) (.leaf (.exit 0) [(.T 4,.t (.val false [.undef]))])) = xZ22_0 y0 y1 r := fun r => by first | rfl | rcases r with r | r <;> rfl | rcases r with r | r | r <;> rfl | rcases r with r | r | r | r <;> rfl
  have h3 := (hx (valO (g_LZ22_0 y0 y1 y2))).symm.trans h2
  have e3 := congrArg Prod.fst h3
  have e4 := congrArg Prod.snd h3
  simp only at e3 e4
  rw [← e3,← e4]
  exact key
 ·exact .inl ⟨xt,h1,h2⟩)
noncomputable def g_AZ22 (a0:tL3) (a1:tL3):Bool := (a0.length:Int) != (a1.length:Int) || okO (g_LZ22_0 a0 a1 (0:Int))
noncomputable def g_VZ22_0 (a0:tL3) (a1:tL3):Bool := bif (a0.length:Int) != (a1.length:Int) then false else bif isL (valO (g_LZ22_0 a0 a1 (0:Int))) then getL (valO (g_LZ22_0 a0 a1 (0:Int))) else true
noncomputable def FZ22:FSem := fun ys => match ys with
 | [.val false [.sl .any 155 (.pair .str (.pair .bool (.sl 3 (.int .i64)))) a0],.val false [.sl .any 155 (.pair .str (.pair .bool (.sl 3 (.int .i64)))) a1]] => some ((g_AZ22 a0 a1),.val false [.bool (g_VZ22_0 a0 a1)],[])
 | _ => none
theorem vZ22 (a0:tL3) (a1:tL3):collapseH .std EZ22 OZ22_1 (execFn EZ22 Tryz.f167 msZ22 [.val false [.sl .any 155 (.pair .str (.pair .bool (.sl 3 (.int .i64)))) a0],.val false [.sl .any 155 (.pair .str (.pair .bool (.sl 3 (.int .i64)))) a1]]) = some ((g_AZ22 a0 a1),.val false [.bool (g_VZ22_0 a0 a1)],[]) := by kernel_rfl
theorem sZ22:Sound Tryz.prog 167 msZ22 FZ22 := by
 refine fn_gen goodZ22 (by kernel_rfl) .std (fn := Tryz.f167) (c := (Tryz.f167.body.getD .skip)) (o := OZ22_1) (k := 1) (by kernel_rfl) (by kernel_rfl) (by kernel_rfl) (by kernel_rfl) (by decide) kZ22_1 ?_
 intro ys r outs h
 unfold FZ22 at h
 split at h
 ·exact (vZ22 _ _).trans h
 ·cases h
noncomputable def EZ43:Env where
 tt := mkTI Tryz.prog
 fn := fun _ => none
 bxf := fun _ => none
 mv := []
 keep := fun b => match b with
  | 0 => [(0,false),(1,false),(5,false)]
  | _ => []
 keepB := fun b => match b with
  | 0 => []
  | _ => []
 keepX := fun b => match b with
  | 0 => [(4,false)]
  | _ => []
 keepXB := fun b => match b with
  | 0 => []
  | _ => []
theorem goodFZ43:∀ f ms F,EZ43.fn f = some (ms,F) → Sound Tryz.prog f ms F := fun f ms F h => by cases h
theorem goodZ43:Good Tryz.prog EZ43 := ⟨rfl,goodFZ43,fun f ms F h => by cases h⟩
noncomputable def OZ43_0:Orc := fun _ _ => none
noncomputable def msZ43:List PM := [.rd,.rd]
noncomputable def lsZ43:List (Nat×Code) := loopsAll 0 (Tryz.f166.body.getD .skip)
noncomputable def cZ43_0:Code := (loopOf 0 (Tryz.f166.body.getD .skip)).getD .skip
theorem lseqZ43:lsZ43 = [(0,cZ43_0)] := by kernel_rfl
theorem mZ43_0:∀ p,p ∈ lsZ43 → p.1 = 0 → p.2 = cZ43_0 := by
 intro p hp
 rw [lseqZ43] at hp
 simp only [List.mem_cons,List.not_mem_nil,or_false] at hp
 subst hp; simp
theorem kZ43_0:OrcOk EZ43 OZ43_0 lsZ43 0 := orcOk_none
noncomputable def hZ43_0 (y0:List ByteArray) (y1:List ByteArray) (y2:Int):List (Pl×LV) := [(.T 0,.t (.val false [.sl .any 9 .str y0])),(.T 1,.t (.val false [.sl .any 9 .str y1])),(.T 5,.t (.val false [.int .i64 y2]))]
noncomputable def g_SZ43_0 (y0:List ByteArray) (y1:List ByteArray):(Int) → RT (Int) ((Bool) ⊕ (Unit))
 | y2 => .br (true) (.br (decide (y2 < (y0.length:Int))) (.br (decide (0 ≤ y2 ∧ y2 < (y0.length:Int))) (.br (decide (0 ≤ y2 ∧ y2 < (y1.length:Int))) (.br (true) (.br (!ByteArray.toList (at_ Ty.str y0 (Int.toNat y2)) == ByteArray.toList (at_ Ty.str y1 (Int.toNat y2))) (.out (.inl false)) (.br (true) (.go (IntKind.i64.wrap (y2 + 1))) .bad)) .bad) .bad) .bad) (.out (.inr (())))) .bad
noncomputable def g_LZ43_0 (y0:List ByteArray) (y1:List ByteArray) (x:Int):Option ((Bool) ⊕ (Unit)) := loopO (g_SZ43_0 y0 y1) x
noncomputable def xZ43_0 (y0:List ByteArray) (y1:List ByteArray):((Bool) ⊕ (Unit)) → Ex×List (Pl×LV) := fun
 | .inl r => (.ret,[(.T 4,.t (.val false [.bool r]))])
 | .inr (r) => (.exit 0,[(.T 4,.t (.val false [.undef]))])
noncomputable def OZ43_1:Orc := fun b h => match b,h with
 | 0,[(.T 0,.t (.val false [.sl .any 9 .str y0])),(.T 1,.t (.val false [.sl .any 9 .str y1])),(.T 5,.t (.val false [.int .i64 y2]))] => some (okO (g_LZ43_0 y0 y1 y2),(.br (isL (valO (g_LZ43_0 y0 y1 y2))) (.leaf .ret [(.T 4,.t (.val false [.bool (getL (valO (g_LZ43_0 y0 y1 y2)))]))]) (.leaf (.exit 0) [(.T 4,.t (.val false [.undef]))])))
 | b,h => OZ43_0 b h
theorem bZ43_0 (y0:List ByteArray) (y1:List ByteArray) (y2:Int):Tr.bt EZ43 OZ43_0 (exec EZ43 0 cZ43_0 (St.of (hZ43_0 y0 y1 y2)) (leafRd EZ43 0)) = (g_SZ43_0 y0 y1 y2).bt (fun (y2:Int) => (hZ43_0 y0 y1 y2)) (xZ43_0 y0 y1) := by kernel_rfl
theorem kZ43_1:OrcOk EZ43 OZ43_1 lsZ43 1 := orc_add kZ43_0 (fun n p hp h ex h' ho => by
 obtain ⟨b,c⟩ := p
 obtain ⟨xt,h1,h2⟩ := ho
 have h1:OZ43_1 b h = some (true,xt) := h1
 unfold OZ43_1 at h1
 split at h1
 ·injection h1 with h1
  injection h1 with e1 e2
  subst e2
  have hc:c = cZ43_0 := mZ43_0 _ hp rfl
  subst hc
  right
  rename_i y0 y1 y2
  have key := LT_step kZ43_0 hp (fun q hq => loopsAll_in _ _ _ _ hp hq) (fun (y2:Int) => (hZ43_0 y0 y1 y2)) (xZ43_0 y0 y1) (g_SZ43_0 y0 y1) (fun x => by first | exact bZ43_0 y0 y1 x) n (x := y2) (okO_some e1)
  have hx:∀ r,XT.sel (.br (isL r) (.leaf .ret [(.T 4,.t (.val false [.bool (getL r)]))]) (.leaf (.exit 0) [(.T 4,.t (.val false [.undef]))])) = xZ43_0 y0 y1 r := fun r => by first | rfl | rcases r with r | r <;> rfl | rcases r with r | r | r <;> rfl | rcases r with r | r | r | r <;> rfl
  have h3 := (hx (valO (g_LZ43_0 y0 y1 y2))).symm.trans h2
  have e3 := congrArg Prod.fst h3
  have e4 := congrArg Prod.snd h3
  simp only at e3 e4
  rw [← e3,← e4]
  exact key
 ·exact .inl ⟨xt,h1,h2⟩)
noncomputable def g_AZ43 (a0:List ByteArray) (a1:List ByteArray):Bool := (a0.length:Int) != (a1.length:Int) || okO (g_LZ43_0 a0 a1 (0:Int))
noncomputable def g_VZ43_0 (a0:List ByteArray) (a1:List ByteArray):Bool := bif (a0.length:Int) != (a1.length:Int) then false else bif isL (valO (g_LZ43_0 a0 a1 (0:Int))) then getL (valO (g_LZ43_0 a0 a1 (0:Int))) else true
noncomputable def FZ43:FSem := fun ys => match ys with
 | [.val false [.sl .any 9 .str a0],.val false [.sl .any 9 .str a1]] => some ((g_AZ43 a0 a1),.val false [.bool (g_VZ43_0 a0 a1)],[])
 | _ => none
theorem vZ43 (a0:List ByteArray) (a1:List ByteArray):collapseH .std EZ43 OZ43_1 (execFn EZ43 Tryz.f166 msZ43 [.val false [.sl .any 9 .str a0],.val false [.sl .any 9 .str a1]]) = some ((g_AZ43 a0 a1),.val false [.bool (g_VZ43_0 a0 a1)],[]) := by kernel_rfl
theorem sZ43:Sound Tryz.prog 166 msZ43 FZ43 := by
 refine fn_gen goodZ43 (by kernel_rfl) .std (fn := Tryz.f166) (c := (Tryz.f166.body.getD .skip)) (o := OZ43_1) (k := 1) (by kernel_rfl) (by kernel_rfl) (by kernel_rfl) (by kernel_rfl) (by decide) kZ43_1 ?_
 intro ys r outs h
 unfold FZ43 at h
 split at h
 ·exact (vZ43 _ _).trans h
 ·cases h
noncomputable def EZ44:Env where
 tt := mkTI Tryz.prog
 fn := fun f => match f with
  | 166 => some (msZ43,FSem.wk msZ43 FZ43)
  | 167 => some (msZ22,FSem.wk msZ22 FZ22)
  | _ => none
 bxf := fun _ => none
 mv := []
 keep := fun _ => []
 keepB := fun _ => []
 keepX := fun _ => []
 keepXB := fun _ => []
theorem goodFZ44:∀ f ms F,EZ44.fn f = some (ms,F) → Sound Tryz.prog f ms F := fun f ms F h => by
 unfold EZ44 at h
 dsimp only at h
 split at h
 ·exact gF sZ43 h
 ·exact gF sZ22 h
 ·cases h
theorem goodZ44:Good Tryz.prog EZ44 := ⟨rfl,goodFZ44,fun f ms F h => by cases h⟩
noncomputable def OZ44_0:Orc := fun _ _ => none
noncomputable def msZ44:List PM := [.rd,.rd]
noncomputable def lsZ44:List (Nat×Code) := loopsAll 0 (Tryz.f141.body.getD .skip)
theorem kZ44_0:OrcOk EZ44 OZ44_0 lsZ44 0 := orcOk_none
noncomputable def g_AZ44 (a0:Int) (a1:Int) (a2:List ByteArray) (a3:tL3) (a4:Int) (a5:Int) (a6:List ByteArray) (a7:tL3):Bool := a0 != a4 || (a1 != a5 || g_AZ43 a2 a6&&(!g_VZ43_0 a2 a6 || g_AZ22 a3 a7))
noncomputable def g_VZ44_0 (a0:Int) (a1:Int) (a2:List ByteArray) (a3:tL3) (a4:Int) (a5:Int) (a6:List ByteArray) (a7:tL3):Bool := bif a0 != a4 then false else bif a1 != a5 then false else bif !g_VZ43_0 a2 a6 then false else bif !g_VZ22_0 a3 a7 then false else true
noncomputable def FZ44:FSem := fun ys => match ys with
 | [.val true [.int .i64 a0,.int .i64 a1,.sl .any 9 .str a2,.sl .any 155 (.pair .str (.pair .bool (.sl 3 (.int .i64)))) a3],.val true [.int .i64 a4,.int .i64 a5,.sl .any 9 .str a6,.sl .any 155 (.pair .str (.pair .bool (.sl 3 (.int .i64)))) a7]] => some ((g_AZ44 a0 a1 a2 a3 a4 a5 a6 a7),.val false [.bool (g_VZ44_0 a0 a1 a2 a3 a4 a5 a6 a7)],[])
 | _ => none
theorem vZ44 (a0:Int) (a1:Int) (a2:List ByteArray) (a3:tL3) (a4:Int) (a5:Int) (a6:List ByteArray) (a7:tL3):collapseH .std EZ44 OZ44_0 (execFn EZ44 Tryz.f141 msZ44 [.val true [.int .i64 a0,.int .i64 a1,.sl .any 9 .str a2,.sl .any 155 (.pair .str (.pair .bool (.sl 3 (.int .i64)))) a3],.val true [.int .i64 a4,.int .i64 a5,.sl .any 9 .str a6,.sl .any 155 (.pair .str (.pair .bool (.sl 3 (.int .i64)))) a7]]) = some ((g_AZ44 a0 a1 a2 a3 a4 a5 a6 a7),.val false [.bool (g_VZ44_0 a0 a1 a2 a3 a4 a5 a6 a7)],[]) := by kernel_rfl
theorem sZ44:Sound Tryz.prog 141 msZ44 FZ44 := by
 refine fn_gen goodZ44 (by kernel_rfl) .std (fn := Tryz.f141) (c := (Tryz.f141.body.getD .skip)) (o := OZ44_0) (k := 0) (by kernel_rfl) (by kernel_rfl) (by kernel_rfl) (by kernel_rfl) (by decide) kZ44_0 ?_
 intro ys r outs h
 unfold FZ44 at h
 split at h
 ·exact (vZ44 _ _ _ _ _ _ _ _).trans h
 ·cases h
noncomputable def EZ32:Env where
 tt := mkTI Tryz.prog
 fn := fun f => match f with
  | 141 => some (msZ44,FSem.wk msZ44 FZ44)
  | _ => none
 bxf := fun _ => none
 mv := []
 keep := fun b => match b with
  | 0 => [(0,false),(1,false),(5,false)]
  | _ => []
 keepB := fun b => match b with
  | 0 => []
  | _ => []
 keepX := fun b => match b with
  | 0 => [(4,false)]
  | _ => []
 keepXB := fun b => match b with
  | 0 => []
  | _ => []
theorem goodFZ32:∀ f ms F,EZ32.fn f = some (ms,F) → Sound Tryz.prog f ms F := fun f ms F h => by
 unfold EZ32 at h
 dsimp only at h
 split at h
 ·exact gF sZ44 h
 ·cases h
theorem goodZ32:Good Tryz.prog EZ32 := ⟨rfl,goodFZ32,fun f ms F h => by cases h⟩
noncomputable def OZ32_0:Orc := fun _ _ => none
noncomputable def msZ32:List PM := [.rd,.rd]
noncomputable def lsZ32:List (Nat×Code) := loopsAll 0 (Tryz.f103.body.getD .skip)
noncomputable def cZ32_0:Code := (loopOf 0 (Tryz.f103.body.getD .skip)).getD .skip
theorem lseqZ32:lsZ32 = [(0,cZ32_0)] := by kernel_rfl
theorem mZ32_0:∀ p,p ∈ lsZ32 → p.1 = 0 → p.2 = cZ32_0 := by
 intro p hp
 rw [lseqZ32] at hp
 simp only [List.mem_cons,List.not_mem_nil,or_false] at hp
 subst hp; simp
theorem kZ32_0:OrcOk EZ32 OZ32_0 lsZ32 0 := orcOk_none
noncomputable def hZ32_0 (y0:tL1) (y1:tL1) (y2:Int):List (Pl×LV) := [(.T 0,.t (.val false [.sl .any 92 (.pair (.int .i64) (.pair (.int .i64) (.pair (.sl 9 .str) (.sl 155 (.pair .str (.pair .bool (.sl 3 (.int .i64)))))))) y0])),(.T 1,.t (.val false [.sl .any 92 (.pair (.int .i64) (.pair (.int .i64) (.pair (.sl 9 .str) (.sl 155 (.pair .str (.pair .bool (.sl 3 (.int .i64)))))))) y1])),(.T 5,.t (.val false [.int .i64 y2]))]
noncomputable def g_SZ32_0 (y0:tL1) (y1:tL1):(Int) → RT (Int) ((Bool) ⊕ (Unit))
 | y2 => .br (true) (.br (decide (y2 < (y0.length:Int))) (.br (decide (0 ≤ y2 ∧ y2 < (y0.length:Int))) (.br (decide (0 ≤ y2 ∧ y2 < (y1.length:Int))) (.br (g_AZ44 (at_ yT2 y0 (Int.toNat y2)).1 (at_ yT2 y0 (Int.toNat y2)).2.1 (at_ yT2 y0 (Int.toNat y2)).2.2.1 (at_ yT2 y0 (Int.toNat y2)).2.2.2 (at_ yT2 y1 (Int.toNat y2)).1 (at_ yT2 y1 (Int.toNat y2)).2.1 (at_ yT2 y1 (Int.toNat y2)).2.2.1 (at_ yT2 y1 (Int.toNat y2)).2.2.2) (.br (!g_VZ44_0 (at_ yT2 y0 (Int.toNat y2)).1 (at_ yT2 y0 (Int.toNat y2)).2.1 (at_ yT2 y0 (Int.toNat y2)).2.2.1 (at_ yT2 y0 (Int.toNat y2)).2.2.2 (at_ yT2 y1 (Int.toNat y2)).1 (at_ yT2 y1 (Int.toNat y2)).2.1 (at_ yT2 y1 (Int.toNat y2)).2.2.1 (at_ yT2 y1 (Int.toNat y2)).2.2.2) (.out (.inl false)) (.br (true) (.go (IntKind.i64.wrap (y2 + 1))) .bad)) .bad) .bad) .bad) (.out (.inr (())))) .bad
noncomputable def g_LZ32_0 (y0:tL1) (y1:tL1) (x:Int):Option ((Bool) ⊕ (Unit)) := loopO (g_SZ32_0 y0 y1) x
noncomputable def xZ32_0 (y0:tL1) (y1:tL1):((Bool) ⊕ (Unit)) → Ex×List (Pl×LV) := fun
 | .inl r => (.ret,[(.T 4,.t (.val false [.bool r]))])
 | .inr (r) => (.exit 0,[(.T 4,.t (.val false [.undef]))])
noncomputable def OZ32_1:Orc := fun b h => match b,h with
 | 0,[(.T 0,.t (.val false [.sl .any 92 (.pair (.int .i64) (.pair (.int .i64) (.pair (.sl 9 .str) (.sl 155 (.pair .str (.pair .bool (.sl 3 (.int .i64)))))))) y0])),(.T 1,.t (.val false [.sl .any 92 (.pair (.int .i64) (.pair (.int .i64) (.pair (.sl 9 .str) (.sl 155 (.pair .str (.pair .bool (.sl 3 (.int .i64)))))))) y1])),(.T 5,.t (.val false [.int .i64 y2]))] => some (okO (g_LZ32_0 y0 y1 y2),(.br (isL (valO (g_LZ32_0 y0 y1 y2))) (.leaf .ret [(.T 4,.t (.val false [.bool (getL (valO (g_LZ32_0 y0 y1 y2)))]))]) (.leaf (.exit 0) [(.T 4,.t (.val false [.undef]))])))
 | b,h => OZ32_0 b h
theorem bZ32_0 (y0:tL1) (y1:tL1) (y2:Int):Tr.bt EZ32 OZ32_0 (exec EZ32 0 cZ32_0 (St.of (hZ32_0 y0 y1 y2)) (leafRd EZ32 0)) = (g_SZ32_0 y0 y1 y2).bt (fun (y2:Int) => (hZ32_0 y0 y1 y2)) (xZ32_0 y0 y1) := by kernel_rfl
theorem kZ32_1:OrcOk EZ32 OZ32_1 lsZ32 1 := orc_add kZ32_0 (fun n p hp h ex h' ho => by
 obtain ⟨b,c⟩ := p
 obtain ⟨xt,h1,h2⟩ := ho
 have h1:OZ32_1 b h = some (true,xt) := h1
 unfold OZ32_1 at h1
 split at h1
 ·injection h1 with h1
  injection h1 with e1 e2
  subst e2
  have hc:c = cZ32_0 := mZ32_0 _ hp rfl
  subst hc
  right
  rename_i y0 y1 y2
  have key := LT_step kZ32_0 hp (fun q hq => loopsAll_in _ _ _ _ hp hq) (fun (y2:Int) => (hZ32_0 y0 y1 y2)) (xZ32_0 y0 y1) (g_SZ32_0 y0 y1) (fun x => by first | exact bZ32_0 y0 y1 x) n (x := y2) (okO_some e1)
  have hx:∀ r,XT.sel (.br (isL r) (.leaf .ret [(.T 4,.t (.val false [.bool (getL r)]))]) (.leaf (.exit 0) [(.T 4,.t (.val false [.undef]))])) = xZ32_0 y0 y1 r := fun r => by first | rfl | rcases r with r | r <;> rfl | rcases r with r | r | r <;> rfl | rcases r with r | r | r | r <;> rfl
  have h3 := (hx (valO (g_LZ32_0 y0 y1 y2))).symm.trans h2
  have e3 := congrArg Prod.fst h3
  have e4 := congrArg Prod.snd h3
  simp only at e3 e4
  rw [← e3,← e4]
  exact key
 ·exact .inl ⟨xt,h1,h2⟩)
noncomputable def g_AZ32 (a0:tL1) (a1:tL1):Bool := (a0.length:Int) != (a1.length:Int) || okO (g_LZ32_0 a0 a1 (0:Int))
noncomputable def g_VZ32_0 (a0:tL1) (a1:tL1):Bool := bif (a0.length:Int) != (a1.length:Int) then false else bif isL (valO (g_LZ32_0 a0 a1 (0:Int))) then getL (valO (g_LZ32_0 a0 a1 (0:Int))) else true
noncomputable def FZ32:FSem := fun ys => match ys with
 | [.val false [.sl .any 92 (.pair (.int .i64) (.pair (.int .i64) (.pair (.sl 9 .str) (.sl 155 (.pair .str (.pair .bool (.sl 3 (.int .i64)))))))) a0],.val false [.sl .any 92 (.pair (.int .i64) (.pair (.int .i64) (.pair (.sl 9 .str) (.sl 155 (.pair .str (.pair .bool (.sl 3 (.int .i64)))))))) a1]] => some ((g_AZ32 a0 a1),.val false [.bool (g_VZ32_0 a0 a1)],[])
 | _ => none
theorem vZ32 (a0:tL1) (a1:tL1):collapseH .std EZ32 OZ32_1 (execFn EZ32 Tryz.f103 msZ32 [.val false [.sl .any 92 (.pair (.int .i64) (.pair (.int .i64) (.pair (.sl 9 .str) (.sl 155 (.pair .str (.pair .bool (.sl 3 (.int .i64)))))))) a0],.val false [.sl .any 92 (.pair (.int .i64) (.pair (.int .i64) (.pair (.sl 9 .str) (.sl 155 (.pair .str (.pair .bool (.sl 3 (.int .i64)))))))) a1]]) = some ((g_AZ32 a0 a1),.val false [.bool (g_VZ32_0 a0 a1)],[]) := by kernel_rfl
theorem sZ32:Sound Tryz.prog 103 msZ32 FZ32 := by
 refine fn_gen goodZ32 (by kernel_rfl) .std (fn := Tryz.f103) (c := (Tryz.f103.body.getD .skip)) (o := OZ32_1) (k := 1) (by kernel_rfl) (by kernel_rfl) (by kernel_rfl) (by kernel_rfl) (by decide) kZ32_1 ?_
 intro ys r outs h
 unfold FZ32 at h
 split at h
 ·exact (vZ32 _ _).trans h
 ·cases h
noncomputable def EZ45:Env where
 tt := mkTI Tryz.prog
 fn := fun f => match f with
  | 103 => some (msZ32,FSem.wk msZ32 FZ32)
  | _ => none
 bxf := fun _ => none
 mv := []
 keep := fun _ => []
 keepB := fun _ => []
 keepX := fun _ => []
 keepXB := fun _ => []
theorem goodFZ45:∀ f ms F,EZ45.fn f = some (ms,F) → Sound Tryz.prog f ms F := fun f ms F h => by
 unfold EZ45 at h
 dsimp only at h
 split at h
 ·exact gF sZ32 h
 ·cases h
theorem goodZ45:Good Tryz.prog EZ45 := ⟨rfl,goodFZ45,fun f ms F h => by cases h⟩
noncomputable def OZ45_0:Orc := fun _ _ => none
noncomputable def msZ45:List PM := [.rd,.rd]
noncomputable def lsZ45:List (Nat×Code) := loopsAll 0 (Tryz.f42.body.getD .skip)
theorem kZ45_0:OrcOk EZ45 OZ45_0 lsZ45 0 := orcOk_none
noncomputable def g_AZ45 (a0:tL1) (a1:Int) (a2:tL1) (a3:Int):Bool := g_AZ32 a0 a2&&(!g_VZ32_0 a0 a2 || true)
noncomputable def g_VZ45_0 (a0:tL1) (a1:Int) (a2:tL1) (a3:Int):Bool := bif !g_VZ32_0 a0 a2 then false else bif a1 != a3 then false else true
noncomputable def FZ45:FSem := fun ys => match ys with
 | [.val true [.sl .any 92 (.pair (.int .i64) (.pair (.int .i64) (.pair (.sl 9 .str) (.sl 155 (.pair .str (.pair .bool (.sl 3 (.int .i64)))))))) a0,.int .i64 a1],.val true [.sl .any 92 (.pair (.int .i64) (.pair (.int .i64) (.pair (.sl 9 .str) (.sl 155 (.pair .str (.pair .bool (.sl 3 (.int .i64)))))))) a2,.int .i64 a3]] => some ((g_AZ45 a0 a1 a2 a3),.val false [.bool (g_VZ45_0 a0 a1 a2 a3)],[])
 | _ => none
theorem vZ45 (a0:tL1) (a1:Int) (a2:tL1) (a3:Int):collapseH .std EZ45 OZ45_0 (execFn EZ45 Tryz.f42 msZ45 [.val true [.sl .any 92 (.pair (.int .i64) (.pair (.int .i64) (.pair (.sl 9 .str) (.sl 155 (.pair .str (.pair .bool (.sl 3 (.int .i64)))))))) a0,.int .i64 a1],.val true [.sl .any 92 (.pair (.int .i64) (.pair (.int .i64) (.pair (.sl 9 .str) (.sl 155 (.pair .str (.pair .bool (.sl 3 (.int .i64)))))))) a2,.int .i64 a3]]) = some ((g_AZ45 a0 a1 a2 a3),.val false [.bool (g_VZ45_0 a0 a1 a2 a3)],[]) := by kernel_rfl
theorem sZ45:Sound Tryz.prog 42 msZ45 FZ45 := by
 refine fn_gen goodZ45 (by kernel_rfl) .std (fn := Tryz.f42) (c := (Tryz.f42.body.getD .skip)) (o := OZ45_0) (k := 0) (by kernel_rfl) (by kernel_rfl) (by kernel_rfl) (by kernel_rfl) (by decide) kZ45_0 ?_
 intro ys r outs h
 unfold FZ45 at h
 split at h
 ·exact (vZ45 _ _ _ _).trans h
 ·cases h
noncomputable def EZ33:Env where
 tt := mkTI Tryz.prog
 fn := fun f => match f with
  | 42 => some (msZ45,FSem.wk msZ45 FZ45)
  | 43 => some (msZ60,FSem.wk msZ60 FZ60)
  | _ => none
 bxf := fun _ => none
 mv := []
 keep := fun _ => []
 keepB := fun _ => []
 keepX := fun _ => []
 keepXB := fun _ => []
theorem goodFZ33:∀ f ms F,EZ33.fn f = some (ms,F) → Sound Tryz.prog f ms F := fun f ms F h => by
 unfold EZ33 at h
 dsimp only at h
 split at h
 ·exact gF sZ45 h
 ·exact gF sZ60 h
 ·cases h
theorem goodZ33:Good Tryz.prog EZ33 := ⟨rfl,goodFZ33,fun f ms F h => by cases h⟩
noncomputable def OZ33_0:Orc := fun _ _ => none
noncomputable def msZ33:List PM := [.rd,.rd]
noncomputable def lsZ33:List (Nat×Code) := loopsAll 0 (Tryz.f12.body.getD .skip)
theorem kZ33_0:OrcOk EZ33 OZ33_0 lsZ33 0 := orcOk_none
noncomputable def g_AZ33 (a0:tL1) (a1:Int) (a2:tL0) (a3:tL1) (a4:Int) (a5:tL0):Bool := g_AZ45 a0 a1 a3 a4&&(!g_VZ45_0 a0 a1 a3 a4 || g_AZ60 a2 a5)
noncomputable def g_VZ33_0 (a0:tL1) (a1:Int) (a2:tL0) (a3:tL1) (a4:Int) (a5:tL0):Bool := bif !g_VZ45_0 a0 a1 a3 a4 then false else bif !g_VZ60_0 a2 a5 then false else true
noncomputable def FZ33:FSem := fun ys => match ys with
 | [.val true [.sl .any 92 (.pair (.int .i64) (.pair (.int .i64) (.pair (.sl 9 .str) (.sl 155 (.pair .str (.pair .bool (.sl 3 (.int .i64)))))))) a0,.int .i64 a1,.sl .any 73 (.pair (.int .i64) (.pair (.pair (.int .i64) (.pair (.int .i64) (.pair (.int .i64) (.pair (.int .i64) (.pair (.int .i64) (.pair (.int .i64) (.int .i64))))))) (.pair .bool (.pair (.sl 3 (.int .i64)) (.sl 3 (.int .i64)))))) a2],.val true [.sl .any 92 (.pair (.int .i64) (.pair (.int .i64) (.pair (.sl 9 .str) (.sl 155 (.pair .str (.pair .bool (.sl 3 (.int .i64)))))))) a3,.int .i64 a4,.sl .any 73 (.pair (.int .i64) (.pair (.pair (.int .i64) (.pair (.int .i64) (.pair (.int .i64) (.pair (.int .i64) (.pair (.int .i64) (.pair (.int .i64) (.int .i64))))))) (.pair .bool (.pair (.sl 3 (.int .i64)) (.sl 3 (.int .i64)))))) a5]] => some ((g_AZ33 a0 a1 a2 a3 a4 a5),.val false [.bool (g_VZ33_0 a0 a1 a2 a3 a4 a5)],[])
 | _ => none
theorem vZ33 (a0:tL1) (a1:Int) (a2:tL0) (a3:tL1) (a4:Int) (a5:tL0):collapseH .std EZ33 OZ33_0 (execFn EZ33 Tryz.f12 msZ33 [.val true [.sl .any 92 (.pair (.int .i64) (.pair (.int .i64) (.pair (.sl 9 .str) (.sl 155 (.pair .str (.pair .bool (.sl 3 (.int .i64)))))))) a0,.int .i64 a1,.sl .any 73 (.pair (.int .i64) (.pair (.pair (.int .i64) (.pair (.int .i64) (.pair (.int .i64) (.pair (.int .i64) (.pair (.int .i64) (.pair (.int .i64) (.int .i64))))))) (.pair .bool (.pair (.sl 3 (.int .i64)) (.sl 3 (.int .i64)))))) a2],.val true [.sl .any 92 (.pair (.int .i64) (.pair (.int .i64) (.pair (.sl 9 .str) (.sl 155 (.pair .str (.pair .bool (.sl 3 (.int .i64)))))))) a3,.int .i64 a4,.sl .any 73 (.pair (.int .i64) (.pair (.pair (.int .i64) (.pair (.int .i64) (.pair (.int .i64) (.pair (.int .i64) (.pair (.int .i64) (.pair (.int .i64) (.int .i64))))))) (.pair .bool (.pair (.sl 3 (.int .i64)) (.sl 3 (.int .i64)))))) a5]]) = some ((g_AZ33 a0 a1 a2 a3 a4 a5),.val false [.bool (g_VZ33_0 a0 a1 a2 a3 a4 a5)],[]) := by kernel_rfl
theorem sZ33:Sound Tryz.prog 12 msZ33 FZ33 := by
 refine fn_gen goodZ33 (by kernel_rfl) .std (fn := Tryz.f12) (c := (Tryz.f12.body.getD .skip)) (o := OZ33_0) (k := 0) (by kernel_rfl) (by kernel_rfl) (by kernel_rfl) (by kernel_rfl) (by decide) kZ33_0 ?_
 intro ys r outs h
 unfold FZ33 at h
 split at h
 ·exact (vZ33 _ _ _ _ _ _).trans h
 ·cases h
noncomputable def EZ61:Env where
 tt := mkTI Tryz.prog
 fn := fun f => match f with
  | 102 => some (msw_eqOpOp,FSem.wk msw_eqOpOp Fw_eqOpOp)
  | _ => none
 bxf := fun _ => none
 mv := []
 keep := fun _ => []
 keepB := fun _ => []
 keepX := fun _ => []
 keepXB := fun _ => []
theorem goodFZ61:∀ f ms F,EZ61.fn f = some (ms,F) → Sound Tryz.prog f ms F := fun f ms F h => by
 unfold EZ61 at h
 dsimp only at h
 split at h
 ·exact gF sw_eqOpOp h
 ·cases h
theorem goodZ61:Good Tryz.prog EZ61 := ⟨rfl,goodFZ61,fun f ms F h => by cases h⟩
noncomputable def OZ61_0:Orc := fun _ _ => none
noncomputable def msZ61:List PM := [.own,.own]
noncomputable def lsZ61:List (Nat×Code) := loopsAll 0 (Tryz.f41.body.getD .skip)
theorem kZ61_0:OrcOk EZ61 OZ61_0 lsZ61 0 := orcOk_none
noncomputable def g_AZ61 (a0:Int) (a1:Int) (a2:Int) (a3:Int) (a4:Int) (a5:Int) (a6:Int) (a7:Int) (a8:Int) (a9:Int) (a10:Int) (a11:Int) (a12:Int) (a13:Int) (a14:Int) (a15:Int) (a16:Int) (a17:Int) (a18:Int) (a19:Int) (a20:Int) (a21:Int):Bool := a0 != a11 || (a1 != a12 || (a2 != a13 || (a3 != a14 || g_Aw_eqOpOp a4 a5 a6 a7 a8 a9 a10 a15 a16 a17 a18 a19 a20 a21)))
noncomputable def g_VZ61_0 (a0:Int) (a1:Int) (a2:Int) (a3:Int) (a4:Int) (a5:Int) (a6:Int) (a7:Int) (a8:Int) (a9:Int) (a10:Int) (a11:Int) (a12:Int) (a13:Int) (a14:Int) (a15:Int) (a16:Int) (a17:Int) (a18:Int) (a19:Int) (a20:Int) (a21:Int):Bool := bif a0 != a11 then false else bif a1 != a12 then false else bif a2 != a13 then false else bif a3 != a14 then false else bif !g_Vw_eqOpOp_0 a4 a5 a6 a7 a8 a9 a10 a15 a16 a17 a18 a19 a20 a21 then false else true
noncomputable def FZ61:FSem := fun ys => match ys with
 | [.val true [.int .i64 a0,.int .i64 a1,.int .i64 a2,.int .i64 a3,.int .i64 a4,.int .i64 a5,.int .i64 a6,.int .i64 a7,.int .i64 a8,.int .i64 a9,.int .i64 a10],.val true [.int .i64 a11,.int .i64 a12,.int .i64 a13,.int .i64 a14,.int .i64 a15,.int .i64 a16,.int .i64 a17,.int .i64 a18,.int .i64 a19,.int .i64 a20,.int .i64 a21]] => some ((g_AZ61 a0 a1 a2 a3 a4 a5 a6 a7 a8 a9 a10 a11 a12 a13 a14 a15 a16 a17 a18 a19 a20 a21),.val false [.bool (g_VZ61_0 a0 a1 a2 a3 a4 a5 a6 a7 a8 a9 a10 a11 a12 a13 a14 a15 a16 a17 a18 a19 a20 a21)],[])
 | _ => none
theorem vZ61 (a0:Int) (a1:Int) (a2:Int) (a3:Int) (a4:Int) (a5:Int) (a6:Int) (a7:Int) (a8:Int) (a9:Int) (a10:Int) (a11:Int) (a12:Int) (a13:Int) (a14:Int) (a15:Int) (a16:Int) (a17:Int) (a18:Int) (a19:Int) (a20:Int) (a21:Int):collapseH .std EZ61 OZ61_0 (execFn EZ61 Tryz.f41 msZ61 [.val true [.int .i64 a0,.int .i64 a1,.int .i64 a2,.int .i64 a3,.int .i64 a4,.int .i64 a5,.int .i64 a6,.int .i64 a7,.int .i64 a8,.int .i64 a9,.int .i64 a10],.val true [.int .i64 a11,.int .i64 a12,.int .i64 a13,.int .i64 a14,.int .i64 a15,.int .i64 a16,.int .i64 a17,.int .i64 a18,.int .i64 a19,.int .i64 a20,.int .i64 a21]]) = some ((g_AZ61 a0 a1 a2 a3 a4 a5 a6 a7 a8 a9 a10 a11 a12 a13 a14 a15 a16 a17 a18 a19 a20 a21),.val false [.bool (g_VZ61_0 a0 a1 a2 a3 a4 a5 a6 a7 a8 a9 a10 a11 a12 a13 a14 a15 a16 a17 a18 a19 a20 a21)],[]) := by kernel_rfl
theorem sZ61:Sound Tryz.prog 41 msZ61 FZ61 := by
 refine fn_gen goodZ61 (by kernel_rfl) .std (fn := Tryz.f41) (c := (Tryz.f41.body.getD .skip)) (o := OZ61_0) (k := 0) (by kernel_rfl) (by kernel_rfl) (by kernel_rfl) (by kernel_rfl) (by decide) kZ61_0 ?_
 intro ys r outs h
 unfold FZ61 at h
 split at h
 ·exact (vZ61 _ _ _ _ _ _ _ _ _ _ _ _ _ _ _ _ _ _ _ _ _ _).trans h
 ·cases h
noncomputable def EZ46:Env where
 tt := mkTI Tryz.prog
 fn := fun f => match f with
  | 41 => some (msZ61,FSem.wk msZ61 FZ61)
  | _ => none
 bxf := fun _ => none
 mv := []
 keep := fun b => match b with
  | 0 => [(0,false),(1,false),(5,false)]
  | _ => []
 keepB := fun b => match b with
  | 0 => []
  | _ => []
 keepX := fun b => match b with
  | 0 => [(4,false)]
  | _ => []
 keepXB := fun b => match b with
  | 0 => []
  | _ => []
theorem goodFZ46:∀ f ms F,EZ46.fn f = some (ms,F) → Sound Tryz.prog f ms F := fun f ms F h => by
 unfold EZ46 at h
 dsimp only at h
 split at h
 ·exact gF sZ61 h
 ·cases h
theorem goodZ46:Good Tryz.prog EZ46 := ⟨rfl,goodFZ46,fun f ms F h => by cases h⟩
noncomputable def OZ46_0:Orc := fun _ _ => none
noncomputable def msZ46:List PM := [.rd,.rd]
noncomputable def lsZ46:List (Nat×Code) := loopsAll 0 (Tryz.f11.body.getD .skip)
noncomputable def cZ46_0:Code := (loopOf 0 (Tryz.f11.body.getD .skip)).getD .skip
theorem lseqZ46:lsZ46 = [(0,cZ46_0)] := by kernel_rfl
theorem mZ46_0:∀ p,p ∈ lsZ46 → p.1 = 0 → p.2 = cZ46_0 := by
 intro p hp
 rw [lseqZ46] at hp
 simp only [List.mem_cons,List.not_mem_nil,or_false] at hp
 subst hp; simp
theorem kZ46_0:OrcOk EZ46 OZ46_0 lsZ46 0 := orcOk_none
noncomputable def hZ46_0 (y0:tL2) (y1:tL2) (y2:Int):List (Pl×LV) := [(.T 0,.t (.val false [.sl .any 83 (.pair (.int .i64) (.pair (.int .i64) (.pair (.int .i64) (.pair (.int .i64) (.pair (.int .i64) (.pair (.int .i64) (.pair (.int .i64) (.pair (.int .i64) (.pair (.int .i64) (.pair (.int .i64) (.int .i64))))))))))) y0])),(.T 1,.t (.val false [.sl .any 83 (.pair (.int .i64) (.pair (.int .i64) (.pair (.int .i64) (.pair (.int .i64) (.pair (.int .i64) (.pair (.int .i64) (.pair (.int .i64) (.pair (.int .i64) (.pair (.int .i64) (.pair (.int .i64) (.int .i64))))))))))) y1])),(.T 5,.t (.val false [.int .i64 y2]))]
noncomputable def g_SZ46_0 (y0:tL2) (y1:tL2):(Int) → RT (Int) ((Bool) ⊕ (Unit))
 | y2 => .br (true) (.br (decide (y2 < (y0.length:Int))) (.br (decide (0 ≤ y2 ∧ y2 < (y0.length:Int))) (.br (decide (0 ≤ y2 ∧ y2 < (y1.length:Int))) (.br (g_AZ61 (at_ yT1 y0 (Int.toNat y2)).1 (at_ yT1 y0 (Int.toNat y2)).2.1 (at_ yT1 y0 (Int.toNat y2)).2.2.1 (at_ yT1 y0 (Int.toNat y2)).2.2.2.1 (at_ yT1 y0 (Int.toNat y2)).2.2.2.2.1 (at_ yT1 y0 (Int.toNat y2)).2.2.2.2.2.1 (at_ yT1 y0 (Int.toNat y2)).2.2.2.2.2.2.1 (at_ yT1 y0 (Int.toNat y2)).2.2.2.2.2.2.2.1 (at_ yT1 y0 (Int.toNat y2)).2.2.2.2.2.2.2.2.1 (at_ yT1 y0 (Int.toNat y2)).2.2.2.2.2.2.2.2.2.1 (at_ yT1 y0 (Int.toNat y2)).2.2.2.2.2.2.2.2.2.2 (at_ yT1 y1 (Int.toNat y2)).1 (at_ yT1 y1 (Int.toNat y2)).2.1 (at_ yT1 y1 (Int.toNat y2)).2.2.1 (at_ yT1 y1 (Int.toNat y2)).2.2.2.1 (at_ yT1 y1 (Int.toNat y2)).2.2.2.2.1 (at_ yT1 y1 (Int.toNat y2)).2.2.2.2.2.1 (at_ yT1 y1 (Int.toNat y2)).2.2.2.2.2.2.1 (at_ yT1 y1 (Int.toNat y2)).2.2.2.2.2.2.2.1 (at_ yT1 y1 (Int.toNat y2)).2.2.2.2.2.2.2.2.1 (at_ yT1 y1 (Int.toNat y2)).2.2.2.2.2.2.2.2.2.1 (at_ yT1 y1 (Int.toNat y2)).2.2.2.2.2.2.2.2.2.2) (.br (!g_VZ61_0 (at_ yT1 y0 (Int.toNat y2)).1 (at_ yT1 y0 (Int.toNat y2)).2.1 (at_ yT1 y0 (Int.toNat y2)).2.2.1 (at_ yT1 y0 (Int.toNat y2)).2.2.2.1 (at_ yT1 y0 (Int.toNat y2)).2.2.2.2.1 (at_ yT1 y0 (Int.toNat y2)).2.2.2.2.2.1 (at_ yT1 y0 (Int.toNat y2)).2.2.2.2.2.2.1 (at_ yT1 y0 (Int.toNat y2)).2.2.2.2.2.2.2.1 (at_ yT1 y0 (Int.toNat y2)).2.2.2.2.2.2.2.2.1 (at_ yT1 y0 (Int.toNat y2)).2.2.2.2.2.2.2.2.2.1 (at_ yT1 y0 (Int.toNat y2)).2.2.2.2.2.2.2.2.2.2 (at_ yT1 y1 (Int.toNat y2)).1 (at_ yT1 y1 (Int.toNat y2)).2.1 (at_ yT1 y1 (Int.toNat y2)).2.2.1 (at_ yT1 y1 (Int.toNat y2)).2.2.2.1 (at_ yT1 y1 (Int.toNat y2)).2.2.2.2.1 (at_ yT1 y1 (Int.toNat y2)).2.2.2.2.2.1 (at_ yT1 y1 (Int.toNat y2)).2.2.2.2.2.2.1 (at_ yT1 y1 (Int.toNat y2)).2.2.2.2.2.2.2.1 (at_ yT1 y1 (Int.toNat y2)).2.2.2.2.2.2.2.2.1 (at_ yT1 y1 (Int.toNat y2)).2.2.2.2.2.2.2.2.2.1 (at_ yT1 y1 (Int.toNat y2)).2.2.2.2.2.2.2.2.2.2) (.out (.inl false)) (.br (true) (.go (IntKind.i64.wrap (y2 + 1))) .bad)) .bad) .bad) .bad) (.out (.inr (())))) .bad
noncomputable def g_LZ46_0 (y0:tL2) (y1:tL2) (x:Int):Option ((Bool) ⊕ (Unit)) := loopO (g_SZ46_0 y0 y1) x
noncomputable def xZ46_0 (y0:tL2) (y1:tL2):((Bool) ⊕ (Unit)) → Ex×List (Pl×LV) := fun
 | .inl r => (.ret,[(.T 4,.t (.val false [.bool r]))])
 | .inr (r) => (.exit 0,[(.T 4,.t (.val false [.undef]))])
noncomputable def OZ46_1:Orc := fun b h => match b,h with
 | 0,[(.T 0,.t (.val false [.sl .any 83 (.pair (.int .i64) (.pair (.int .i64) (.pair (.int .i64) (.pair (.int .i64) (.pair (.int .i64) (.pair (.int .i64) (.pair (.int .i64) (.pair (.int .i64) (.pair (.int .i64) (.pair (.int .i64) (.int .i64))))))))))) y0])),(.T 1,.t (.val false [.sl .any 83 (.pair (.int .i64) (.pair (.int .i64) (.pair (.int .i64) (.pair (.int .i64) (.pair (.int .i64) (.pair (.int .i64) (.pair (.int .i64) (.pair (.int .i64) (.pair (.int .i64) (.pair (.int .i64) (.int .i64))))))))))) y1])),(.T 5,.t (.val false [.int .i64 y2]))] => some (okO (g_LZ46_0 y0 y1 y2),(.br (isL (valO (g_LZ46_0 y0 y1 y2))) (.leaf .ret [(.T 4,.t (.val false [.bool (getL (valO (g_LZ46_0 y0 y1 y2)))]))]) (.leaf (.exit 0) [(.T 4,.t (.val false [.undef]))])))
 | b,h => OZ46_0 b h
theorem bZ46_0 (y0:tL2) (y1:tL2) (y2:Int):Tr.bt EZ46 OZ46_0 (exec EZ46 0 cZ46_0 (St.of (hZ46_0 y0 y1 y2)) (leafRd EZ46 0)) = (g_SZ46_0 y0 y1 y2).bt (fun (y2:Int) => (hZ46_0 y0 y1 y2)) (xZ46_0 y0 y1) := by kernel_rfl
theorem kZ46_1:OrcOk EZ46 OZ46_1 lsZ46 1 := orc_add kZ46_0 (fun n p hp h ex h' ho => by
 obtain ⟨b,c⟩ := p
 obtain ⟨xt,h1,h2⟩ := ho
 have h1:OZ46_1 b h = some (true,xt) := h1
 unfold OZ46_1 at h1
 split at h1
 ·injection h1 with h1
  injection h1 with e1 e2
  subst e2
  have hc:c = cZ46_0 := mZ46_0 _ hp rfl
  subst hc
  right
  rename_i y0 y1 y2
  have key := LT_step kZ46_0 hp (fun q hq => loopsAll_in _ _ _ _ hp hq) (fun (y2:Int) => (hZ46_0 y0 y1 y2)) (xZ46_0 y0 y1) (g_SZ46_0 y0 y1) (fun x => by first | exact bZ46_0 y0 y1 x) n (x := y2) (okO_some e1)
  have hx:∀ r,XT.sel (.br (isL r) (.leaf .ret [(.T 4,.t (.val false [.bool (getL r)]))]) (.leaf (.exit 0) [(.T 4,.t (.val false [.undef]))])) = xZ46_0 y0 y1 r := fun r => by first | rfl | rcases r with r | r <;> rfl | rcases r with r | r | r <;> rfl | rcases r with r | r | r | r <;> rfl
  have h3 := (hx (valO (g_LZ46_0 y0 y1 y2))).symm.trans h2
  have e3 := congrArg Prod.fst h3
  have e4 := congrArg Prod.snd h3
  simp only at e3 e4
  rw [← e3,← e4]
  exact key
 ·exact .inl ⟨xt,h1,h2⟩)
noncomputable def g_AZ46 (a0:tL2) (a1:tL2):Bool := (a0.length:Int) != (a1.length:Int) || okO (g_LZ46_0 a0 a1 (0:Int))
noncomputable def g_VZ46_0 (a0:tL2) (a1:tL2):Bool := bif (a0.length:Int) != (a1.length:Int) then false else bif isL (valO (g_LZ46_0 a0 a1 (0:Int))) then getL (valO (g_LZ46_0 a0 a1 (0:Int))) else true
noncomputable def FZ46:FSem := fun ys => match ys with
 | [.val false [.sl .any 83 (.pair (.int .i64) (.pair (.int .i64) (.pair (.int .i64) (.pair (.int .i64) (.pair (.int .i64) (.pair (.int .i64) (.pair (.int .i64) (.pair (.int .i64) (.pair (.int .i64) (.pair (.int .i64) (.int .i64))))))))))) a0],.val false [.sl .any 83 (.pair (.int .i64) (.pair (.int .i64) (.pair (.int .i64) (.pair (.int .i64) (.pair (.int .i64) (.pair (.int .i64) (.pair (.int .i64) (.pair (.int .i64) (.pair (.int .i64) (.pair (.int .i64) (.int .i64))))))))))) a1]] => some ((g_AZ46 a0 a1),.val false [.bool (g_VZ46_0 a0 a1)],[])
 | _ => none
theorem vZ46 (a0:tL2) (a1:tL2):collapseH .std EZ46 OZ46_1 (execFn EZ46 Tryz.f11 msZ46 [.val false [.sl .any 83 (.pair (.int .i64) (.pair (.int .i64) (.pair (.int .i64) (.pair (.int .i64) (.pair (.int .i64) (.pair (.int .i64) (.pair (.int .i64) (.pair (.int .i64) (.pair (.int .i64) (.pair (.int .i64) (.int .i64))))))))))) a0],.val false [.sl .any 83 (.pair (.int .i64) (.pair (.int .i64) (.pair (.int .i64) (.pair (.int .i64) (.pair (.int .i64) (.pair (.int .i64) (.pair (.int .i64) (.pair (.int .i64) (.pair (.int .i64) (.pair (.int .i64) (.int .i64))))))))))) a1]]) = some ((g_AZ46 a0 a1),.val false [.bool (g_VZ46_0 a0 a1)],[]) := by kernel_rfl
theorem sZ46:Sound Tryz.prog 11 msZ46 FZ46 := by
 refine fn_gen goodZ46 (by kernel_rfl) .std (fn := Tryz.f11) (c := (Tryz.f11.body.getD .skip)) (o := OZ46_1) (k := 1) (by kernel_rfl) (by kernel_rfl) (by kernel_rfl) (by kernel_rfl) (by decide) kZ46_1 ?_
 intro ys r outs h
 unfold FZ46 at h
 split at h
 ·exact (vZ46 _ _).trans h
 ·cases h
noncomputable def EZ23:Env where
 tt := mkTI Tryz.prog
 fn := fun _ => none
 bxf := fun _ => none
 mv := []
 keep := fun b => match b with
  | 0 => [(0,false),(1,false),(5,false)]
  | _ => []
 keepB := fun b => match b with
  | 0 => []
  | _ => []
 keepX := fun b => match b with
  | 0 => [(1,false),(4,false)]
  | _ => []
 keepXB := fun b => match b with
  | 0 => []
  | _ => []
theorem goodFZ23:∀ f ms F,EZ23.fn f = some (ms,F) → Sound Tryz.prog f ms F := fun f ms F h => by cases h
theorem goodZ23:Good Tryz.prog EZ23 := ⟨rfl,goodFZ23,fun f ms F h => by cases h⟩
noncomputable def OZ23_0:Orc := fun _ _ => none
noncomputable def msZ23:List PM := [.rd,.own]
noncomputable def lsZ23:List (Nat×Code) := loopsAll 0 (Tryz.f15.body.getD .skip)
noncomputable def cZ23_0:Code := (loopOf 0 (Tryz.f15.body.getD .skip)).getD .skip
theorem lseqZ23:lsZ23 = [(0,cZ23_0)] := by kernel_rfl
theorem mZ23_0:∀ p,p ∈ lsZ23 → p.1 = 0 → p.2 = cZ23_0 := by
 intro p hp
 rw [lseqZ23] at hp
 simp only [List.mem_cons,List.not_mem_nil,or_false] at hp
 subst hp; simp
theorem kZ23_0:OrcOk EZ23 OZ23_0 lsZ23 0 := orcOk_none
noncomputable def hZ23_0 (y0:tL2) (y1:Int) (y2:Int):List (Pl×LV) := [(.T 0,.t (.val false [.sl .any 83 (.pair (.int .i64) (.pair (.int .i64) (.pair (.int .i64) (.pair (.int .i64) (.pair (.int .i64) (.pair (.int .i64) (.pair (.int .i64) (.pair (.int .i64) (.pair (.int .i64) (.pair (.int .i64) (.int .i64))))))))))) y0])),(.T 1,.t (.val false [.int .i64 y1])),(.T 5,.t (.val false [.int .i64 y2]))]
noncomputable def g_SZ23_0 (y0:tL2):(Int×Int) → RT (Int×Int) ((Int×Int) ⊕ (Int))
 | (y1,y2) => .br (true) (.br (decide (y2 < (y0.length:Int))) (.br (decide (0 ≤ y2 ∧ y2 < (y0.length:Int))) (.br (true) (.br ((at_ yT1 y0 (Int.toNat y2)).1 != y1) (.out (.inl ((y1,(-1:Int))))) (.br (true) (.br (decide (0 ≤ y2 ∧ y2 < (y0.length:Int))) (.br (true) (.br ((at_ yT1 y0 (Int.toNat y2)).2.1 != IntKind.i64.wrap (y1 + 1)) (.out (.inl ((IntKind.i64.wrap (y1 + 1),(-1:Int))))) (.br (true) (.br (decide (0 ≤ y2 ∧ y2 < (y0.length:Int))) (.br (true) (.br ((at_ yT1 y0 (Int.toNat y2)).2.2.1 != IntKind.i64.wrap (IntKind.i64.wrap (y1 + 1) + 1)) (.out (.inl ((IntKind.i64.wrap (IntKind.i64.wrap (y1 + 1) + 1),(-1:Int))))) (.br (true) (.br (decide (0 ≤ y2 ∧ y2 < (y0.length:Int))) (.br (true) (.br ((at_ yT1 y0 (Int.toNat y2)).2.2.2.1 != IntKind.i64.wrap (IntKind.i64.wrap (IntKind.i64.wrap (y1 + 1) + 1) + 1)) (.out (.inl ((IntKind.i64.wrap (IntKind.i64.wrap (IntKind.i64.wrap (y1 + 1) + 1) + 1),(-1:Int))))) (.br (true) (.br (decide (0 ≤ y2 ∧ y2 < (y0.length:Int))) (.br (true) (.br ((at_ yT1 y0 (Int.toNat y2)).2.2.2.2.1 != IntKind.i64.wrap (IntKind.i64.wrap (IntKind.i64.wrap (IntKind.i64.wrap (y1 + 1) + 1) + 1) + 1)) (.out (.inl ((IntKind.i64.wrap (IntKind.i64.wrap (IntKind.i64.wrap (IntKind.i64.wrap (y1 + 1) + 1) + 1) + 1),(-1:Int))))) (.br (true) (.br (decide (0 ≤ y2 ∧ y2 < (y0.length:Int))) (.br (true) (.br ((at_ yT1 y0 (Int.toNat y2)).2.2.2.2.2.1 != IntKind.i64.wrap (IntKind.i64.wrap (IntKind.i64.wrap (IntKind.i64.wrap (IntKind.i64.wrap (y1 + 1) + 1) + 1) + 1) + 1)) (.out (.inl ((IntKind.i64.wrap (IntKind.i64.wrap (IntKind.i64.wrap (IntKind.i64.wrap (IntKind.i64.wrap (y1 + 1) + 1) + 1) + 1) + 1),(-1:Int))))) (.br (true) (.br (decide (0 ≤ y2 ∧ y2 < (y0.length:Int))) (.br (true) (.br ((at_ yT1 y0 (Int.toNat y2)).2.2.2.2.2.2.1 != IntKind.i64.wrap (IntKind.i64.wrap (IntKind.i64.wrap (IntKind.i64.wrap (IntKind.i64.wrap (IntKind.i64.wrap (y1 + 1) + 1) + 1) + 1) + 1) + 1)) (.out (.inl ((IntKind.i64.wrap (IntKind.i64.wrap (IntKind.i64.wrap (IntKind.i64.wrap (IntKind.i64.wrap (IntKind.i64.wrap (y1 + 1) + 1) + 1) + 1) + 1) + 1),(-1:Int))))) (.br (true) (.br (decide (0 ≤ y2 ∧ y2 < (y0.length:Int))) (.br (true) (.br ((at_ yT1 y0 (Int.toNat y2)).2.2.2.2.2.2.2.1 != IntKind.i64.wrap (IntKind.i64.wrap (IntKind.i64.wrap (IntKind.i64.wrap (IntKind.i64.wrap (IntKind.i64.wrap (IntKind.i64.wrap (y1 + 1) + 1) + 1) + 1) + 1) + 1) + 1)) (.out (.inl ((IntKind.i64.wrap (IntKind.i64.wrap (IntKind.i64.wrap (IntKind.i64.wrap (IntKind.i64.wrap (IntKind.i64.wrap (IntKind.i64.wrap (y1 + 1) + 1) + 1) + 1) + 1) + 1) + 1),(-1:Int))))) (.br (true) (.br (decide (0 ≤ y2 ∧ y2 < (y0.length:Int))) (.br (true) (.br ((at_ yT1 y0 (Int.toNat y2)).2.2.2.2.2.2.2.2.1 != IntKind.i64.wrap (IntKind.i64.wrap (IntKind.i64.wrap (IntKind.i64.wrap (IntKind.i64.wrap (IntKind.i64.wrap (IntKind.i64.wrap (IntKind.i64.wrap (y1 + 1) + 1) + 1) + 1) + 1) + 1) + 1) + 1)) (.out (.inl ((IntKind.i64.wrap (IntKind.i64.wrap (IntKind.i64.wrap (IntKind.i64.wrap (IntKind.i64.wrap (IntKind.i64.wrap (IntKind.i64.wrap (IntKind.i64.wrap (y1 + 1) + 1) + 1) + 1) + 1) + 1) + 1) + 1),(-1:Int))))) (.br (true) (.br (decide (0 ≤ y2 ∧ y2 < (y0.length:Int))) (.br (true) (.br ((at_ yT1 y0 (Int.toNat y2)).2.2.2.2.2.2.2.2.2.1 != IntKind.i64.wrap (IntKind.i64.wrap (IntKind.i64.wrap (IntKind.i64.wrap (IntKind.i64.wrap (IntKind.i64.wrap (IntKind.i64.wrap (IntKind.i64.wrap (IntKind.i64.wrap (y1 + 1) + 1) + 1) + 1) + 1) + 1) + 1) + 1) + 1)) (.out (.inl ((IntKind.i64.wrap (IntKind.i64.wrap (IntKind.i64.wrap (IntKind.i64.wrap (IntKind.i64.wrap (IntKind.i64.wrap (IntKind.i64.wrap (IntKind.i64.wrap (IntKind.i64.wrap (y1 + 1) + 1) + 1) + 1) + 1) + 1) + 1) + 1) + 1),(-1:Int))))) (.br (true) (.br (decide (0 ≤ y2 ∧ y2 < (y0.length:Int))) (.br (true) (.br ((at_ yT1 y0 (Int.toNat y2)).2.2.2.2.2.2.2.2.2.2 != IntKind.i64.wrap (IntKind.i64.wrap (IntKind.i64.wrap (IntKind.i64.wrap (IntKind.i64.wrap (IntKind.i64.wrap (IntKind.i64.wrap (IntKind.i64.wrap (IntKind.i64.wrap (IntKind.i64.wrap (y1 + 1) + 1) + 1) + 1) + 1) + 1) + 1) + 1) + 1) + 1)) (.out (.inl ((IntKind.i64.wrap (IntKind.i64.wrap (IntKind.i64.wrap (IntKind.i64.wrap (IntKind.i64.wrap (IntKind.i64.wrap (IntKind.i64.wrap (IntKind.i64.wrap (IntKind.i64.wrap (IntKind.i64.wrap (y1 + 1) + 1) + 1) + 1) + 1) + 1) + 1) + 1) + 1) + 1),(-1:Int))))) (.br (true) (.br (true) (.go ((IntKind.i64.wrap (IntKind.i64.wrap (IntKind.i64.wrap (IntKind.i64.wrap (IntKind.i64.wrap (IntKind.i64.wrap (IntKind.i64.wrap (IntKind.i64.wrap (IntKind.i64.wrap (IntKind.i64.wrap (IntKind.i64.wrap (y1 + 1) + 1) + 1) + 1) + 1) + 1) + 1) + 1) + 1) + 1) + 1),IntKind.i64.wrap (y2 + 1)))) .bad) .bad)) .bad) .bad) .bad)) .bad) .bad) .bad)) .bad) .bad) .bad)) .bad) .bad) .bad)) .bad) .bad) .bad)) .bad) .bad) .bad)) .bad) .bad) .bad)) .bad) .bad) .bad)) .bad) .bad) .bad)) .bad) .bad) .bad)) .bad) .bad) (.out (.inr (y1)))) .bad
noncomputable def g_LZ23_0 (y0:tL2) (x:Int×Int):Option ((Int×Int) ⊕ (Int)) := loopO (g_SZ23_0 y0) x
noncomputable def xZ23_0 (y0:tL2):((Int×Int) ⊕ (Int)) → Ex×List (Pl×LV) := fun
 | .inl r => (.ret,[(.T 1,.t (.val false [.int .i64 r.1])),(.T 4,.t (.val false [.int .i64 r.2]))])
 | .inr (r) => (.exit 0,[(.T 1,.t (.val false [.int .i64 r])),(.T 4,.t (.val false [.undef]))])
noncomputable def OZ23_1:Orc := fun b h => match b,h with
 | 0,[(.T 0,.t (.val false [.sl .any 83 (.pair (.int .i64) (.pair (.int .i64) (.pair (.int .i64) (.pair (.int .i64) (.pair (.int .i64) (.pair (.int .i64) (.pair (.int .i64) (.pair (.int .i64) (.pair (.int .i64) (.pair (.int .i64) (.int .i64))))))))))) y0])),(.T 1,.t (.val false [.int .i64 y1])),(.T 5,.t (.val false [.int .i64 y2]))] => some (okO (g_LZ23_0 y0 (y1,y2)),(.br (isL (valO (g_LZ23_0 y0 (y1,y2)))) (.leaf .ret [(.T 1,.t (.val false [.int .i64 (getL (valO (g_LZ23_0 y0 (y1,y2)))).1])),(.T 4,.t (.val false [.int .i64 (getL (valO (g_LZ23_0 y0 (y1,y2)))).2]))]) (.leaf (.exit 0) [(.T 1,.t (.val false [.int .i64 (getR (valO (g_LZ23_0 y0 (y1,y2))))])),(.T 4,.t (.val false [.undef]))])))
 | b,h => OZ23_0 b h
theorem bZ23_0 (y0:tL2) (y1:Int) (y2:Int):Tr.bt EZ23 OZ23_0 (exec EZ23 0 cZ23_0 (St.of (hZ23_0 y0 y1 y2)) (leafRd EZ23 0)) = (g_SZ23_0 y0 (y1,y2)).bt (fun ((y1,y2):Int×Int) => (hZ23_0 y0 y1 y2)) (xZ23_0 y0) := by kernel_rfl
theorem kZ23_1:OrcOk EZ23 OZ23_1 lsZ23 1 := orc_add kZ23_0 (fun n p hp h ex h' ho => by
 obtain ⟨b,c⟩ := p
 obtain ⟨xt,h1,h2⟩ := ho
 have h1:OZ23_1 b h = some (true,xt) := h1
 unfold OZ23_1 at h1
 split at h1
 ·injection h1 with h1
  injection h1 with e1 e2
  subst e2
  have hc:c = cZ23_0 := mZ23_0 _ hp rfl
  subst hc
  right
  rename_i y0 y1 y2
  have key := LT_step kZ23_0 hp (fun q hq => loopsAll_in _ _ _ _ hp hq) (fun ((y1,y2):Int×Int) => (hZ23_0 y0 y1 y2)) (xZ23_0 y0) (g_SZ23_0 y0) (fun x => by first | exact bZ23_0 y0 x.1 x.2) n (x := (y1,y2)) (okO_some e1)
  have hx:∀ r,XT.sel (.br (isL r) (.leaf .ret [(.T 1,.t (.val false [.int .i64 (getL r).1])),(.T 4,.t (.val false [.int .i64 (getL r).2]))]) (.leaf (.exit 0) [(.T 1,.t (.val false [.int .i64 (getR r)])),(.T 4,.t (.val false [.undef]))])) = xZ23_0 y0 r := fun r => by first | rfl | rcases r with r | r <;> rfl | rcases r with r | r | r <;> rfl | rcases r with r | r | r | r <;> rfl
  have h3 := (hx (valO (g_LZ23_0 y0 (y1,y2)))).symm.trans h2
  have e3 := congrArg Prod.fst h3
  have e4 := congrArg Prod.snd h3
  simp only at e3 e4
  rw [← e3,← e4]
  exact key
 ·exact .inl ⟨xt,h1,h2⟩)
noncomputable def g_AZ23 (a0:tL2) (a1:Int):Bool := okO (g_LZ23_0 a0 (a1,(0:Int)))
noncomputable def g_VZ23_0 (a0:tL2) (a1:Int):Int := bif isL (valO (g_LZ23_0 a0 (a1,(0:Int)))) then (getL (valO (g_LZ23_0 a0 (a1,(0:Int))))).2 else getR (valO (g_LZ23_0 a0 (a1,(0:Int))))
noncomputable def FZ23:FSem := fun ys => match ys with
 | [.val false [.sl .any 83 (.pair (.int .i64) (.pair (.int .i64) (.pair (.int .i64) (.pair (.int .i64) (.pair (.int .i64) (.pair (.int .i64) (.pair (.int .i64) (.pair (.int .i64) (.pair (.int .i64) (.pair (.int .i64) (.int .i64))))))))))) a0],.val false [.int .i64 a1]] => some ((g_AZ23 a0 a1),.val false [.int .i64 (g_VZ23_0 a0 a1)],[])
 | _ => none
theorem vZ23 (a0:tL2) (a1:Int):collapseH .std EZ23 OZ23_1 (execFn EZ23 Tryz.f15 msZ23 [.val false [.sl .any 83 (.pair (.int .i64) (.pair (.int .i64) (.pair (.int .i64) (.pair (.int .i64) (.pair (.int .i64) (.pair (.int .i64) (.pair (.int .i64) (.pair (.int .i64) (.pair (.int .i64) (.pair (.int .i64) (.int .i64))))))))))) a0],.val false [.int .i64 a1]]) = some ((g_AZ23 a0 a1),.val false [.int .i64 (g_VZ23_0 a0 a1)],[]) := by kernel_rfl
theorem sZ23:Sound Tryz.prog 15 msZ23 FZ23 := by
 refine fn_gen goodZ23 (by kernel_rfl) .std (fn := Tryz.f15) (c := (Tryz.f15.body.getD .skip)) (o := OZ23_1) (k := 1) (by kernel_rfl) (by kernel_rfl) (by kernel_rfl) (by kernel_rfl) (by decide) kZ23_1 ?_
 intro ys r outs h
 unfold FZ23 at h
 split at h
 ·exact (vZ23 _ _).trans h
 ·cases h
noncomputable def EZ62:Env where
 tt := mkTI Tryz.prog
 fn := fun _ => none
 bxf := fun _ => none
 mv := []
 keep := fun b => match b with
  | 0 => [(0,false),(1,false),(5,false)]
  | _ => []
 keepB := fun b => match b with
  | 0 => []
  | _ => []
 keepX := fun b => match b with
  | 0 => [(0,false),(1,false)]
  | _ => []
 keepXB := fun b => match b with
  | 0 => []
  | _ => []
theorem goodFZ62:∀ f ms F,EZ62.fn f = some (ms,F) → Sound Tryz.prog f ms F := fun f ms F h => by cases h
theorem goodZ62:Good Tryz.prog EZ62 := ⟨rfl,goodFZ62,fun f ms F h => by cases h⟩
noncomputable def OZ62_0:Orc := fun _ _ => none
noncomputable def msZ62:List PM := [.«mut»,.own]
noncomputable def lsZ62:List (Nat×Code) := loopsAll 0 (Tryz.f106.body.getD .skip)
noncomputable def cZ62_0:Code := (loopOf 0 (Tryz.f106.body.getD .skip)).getD .skip
theorem lseqZ62:lsZ62 = [(0,cZ62_0)] := by kernel_rfl
theorem mZ62_0:∀ p,p ∈ lsZ62 → p.1 = 0 → p.2 = cZ62_0 := by
 intro p hp
 rw [lseqZ62] at hp
 simp only [List.mem_cons,List.not_mem_nil,or_false] at hp
 subst hp; simp
theorem kZ62_0:OrcOk EZ62 OZ62_0 lsZ62 0 := orcOk_none
noncomputable def hZ62_0 (y0:List Int) (y1:Int) (y2:Int):List (Pl×LV) := [(.T 0,.t (.val false [.row 0 0 0])),(.R 0 0,.r 0 (some ⟨false,.any,true,3,(.int .i64),y0⟩)),(.T 1,.t (.val false [.int .i64 y1])),(.T 5,.t (.val false [.int .i64 y2]))]
noncomputable def g_SZ62_0:((List Int)×Int×Int) → RT ((List Int)×Int×Int) (((List Int)×Int))
 | (y0,y1,y2) => .br (true) (.br (decide (y2 < (y0.length:Int))) (.br (decide (0 ≤ y2 ∧ y2 < (y0.length:Int))) (.br (decide (Int.toNat y2 < List.length y0)) (.br (true) (.br (true) (.go ((List.set y0 (Int.toNat y2) y1,IntKind.i64.wrap (y1 + 1),IntKind.i64.wrap (y2 + 1)))) .bad) .bad) .bad) .bad) (.out ((y0,y1)))) .bad
noncomputable def g_LZ62_0 (x:(List Int)×Int×Int):Option (((List Int)×Int)) := loopO (g_SZ62_0) x
noncomputable def xZ62_0:(((List Int)×Int)) → Ex×List (Pl×LV) := fun r => (.exit 0,[(.T 0,.t (.val false [.row 0 0 0])),(.R 0 0,.r 0 (some ⟨false,.any,true,3,(.int .i64),r.1⟩)),(.T 1,.t (.val false [.int .i64 r.2]))])
noncomputable def OZ62_1:Orc := fun b h => match b,h with
 | 0,[(.T 0,.t (.val false [.row 0 0 0])),(.R 0 0,.r 0 (some ⟨false,.any,true,3,(.int .i64),y0⟩)),(.T 1,.t (.val false [.int .i64 y1])),(.T 5,.t (.val false [.int .i64 y2]))] => some (okO (g_LZ62_0 (y0,y1,y2)),(.leaf (.exit 0) [(.T 0,.t (.val false [.row 0 0 0])),(.R 0 0,.r 0 (some ⟨false,.any,true,3,(.int .i64),(valO (g_LZ62_0 (y0,y1,y2))).1⟩)),(.T 1,.t (.val false [.int .i64 (valO (g_LZ62_0 (y0,y1,y2))).2]))]))
 | b,h => OZ62_0 b h
theorem bZ62_0 (y0:List Int) (y1:Int) (y2:Int):Tr.bt EZ62 OZ62_0 (exec EZ62 0 cZ62_0 (St.of (hZ62_0 y0 y1 y2)) (leafRd EZ62 0)) = (g_SZ62_0 (y0,y1,y2)).bt (fun ((y0,y1,y2):(List Int)×Int×Int) => (hZ62_0 y0 y1 y2)) (xZ62_0) := by kernel_rfl
theorem kZ62_1:OrcOk EZ62 OZ62_1 lsZ62 1 := orc_add kZ62_0 (fun n p hp h ex h' ho => by
 obtain ⟨b,c⟩ := p
 obtain ⟨xt,h1,h2⟩ := ho
 have h1:OZ62_1 b h = some (true,xt) := h1
 unfold OZ62_1 at h1
 split at h1
 ·injection h1 with h1
  injection h1 with e1 e2
  subst e2
  have hc:c = cZ62_0 := mZ62_0 _ hp rfl
  subst hc
  right
  rename_i y0 y1 y2
  have key := LT_step kZ62_0 hp (fun q hq => loopsAll_in _ _ _ _ hp hq) (fun ((y0,y1,y2):(List Int)×Int×Int) => (hZ62_0 y0 y1 y2)) (xZ62_0) (g_SZ62_0) (fun x => by first | exact bZ62_0 x.1 x.2.1 x.2.2) n (x := (y0,y1,y2)) (okO_some e1)
  have hx:∀ r,XT.sel (.leaf (.exit 0) [(.T 0,.t (.val false [.row 0 0 0])),(.R 0 0,.r 0 (some ⟨false,.any,true,3,(.int .i64),r.1⟩)),(.T 1,.t (.val false [.int .i64 r.2]))]) = xZ62_0 r := fun r => by first | rfl | rcases r with r | r <;> rfl | rcases r with r | r | r <;> rfl | rcases r with r | r | r | r <;> rfl
  have h3 := (hx (valO (g_LZ62_0 (y0,y1,y2)))).symm.trans h2
  have e3 := congrArg Prod.fst h3
  have e4 := congrArg Prod.snd h3
  simp only at e3 e4
  rw [← e3,← e4]
  exact key
 ·exact .inl ⟨xt,h1,h2⟩)
noncomputable def g_AZ62 (a0:List Int) (a1:Int):Bool := okO (g_LZ62_0 (a0,a1,(0:Int)))
noncomputable def g_VZ62_0 (a0:List Int) (a1:Int):Int := (valO (g_LZ62_0 (a0,a1,(0:Int)))).2
noncomputable def g_VZ62_1 (a0:List Int) (a1:Int):List Int := (valO (g_LZ62_0 (a0,a1,(0:Int)))).1
noncomputable def FZ62:FSem := fun ys => match ys with
 | [.val false [.own .any true 3 (.int .i64) a0],.val false [.int .i64 a1]] => some ((g_AZ62 a0 a1),.val false [.int .i64 (g_VZ62_0 a0 a1)],[[.own .any true 3 (.int .i64) (g_VZ62_1 a0 a1)]])
 | _ => none
theorem vZ62 (a0:List Int) (a1:Int):collapseH .std EZ62 OZ62_1 (execFn EZ62 Tryz.f106 msZ62 [.val false [.own .any true 3 (.int .i64) a0],.val false [.int .i64 a1]]) = some ((g_AZ62 a0 a1),.val false [.int .i64 (g_VZ62_0 a0 a1)],[[.own .any true 3 (.int .i64) (g_VZ62_1 a0 a1)]]) := by kernel_rfl
theorem sZ62:Sound Tryz.prog 106 msZ62 FZ62 := by
 refine fn_gen goodZ62 (by kernel_rfl) .std (fn := Tryz.f106) (c := (Tryz.f106.body.getD .skip)) (o := OZ62_1) (k := 1) (by kernel_rfl) (by kernel_rfl) (by kernel_rfl) (by kernel_rfl) (by decide) kZ62_1 ?_
 intro ys r outs h
 unfold FZ62 at h
 split at h
 ·exact (vZ62 _ _).trans h
 ·cases h
noncomputable def EZ34:Env where
 tt := mkTI Tryz.prog
 fn := fun f => match f with
  | 106 => some (msZ62,FSem.wk msZ62 FZ62)
  | _ => none
 bxf := fun _ => none
 mv := []
 keep := fun b => match b with
  | 0 => [(0,false),(1,false),(5,false)]
  | _ => []
 keepB := fun b => match b with
  | 0 => []
  | _ => []
 keepX := fun b => match b with
  | 0 => [(0,false),(1,false)]
  | _ => []
 keepXB := fun b => match b with
  | 0 => []
  | _ => []
 nest := [88,95]
theorem goodFZ34:∀ f ms F,EZ34.fn f = some (ms,F) → Sound Tryz.prog f ms F := fun f ms F h => by
 unfold EZ34 at h
 dsimp only at h
 split at h
 ·exact gF sZ62 h
 ·cases h
theorem goodZ34:Good Tryz.prog EZ34 := ⟨rfl,goodFZ34,fun f ms F h => by cases h⟩
noncomputable def OZ34_0:Orc := fun _ _ => none
noncomputable def msZ34:List PM := [.«mut»,.own]
noncomputable def lsZ34:List (Nat×Code) := loopsAll 0 (Tryz.f45.body.getD .skip)
noncomputable def cZ34_0:Code := (loopOf 0 (Tryz.f45.body.getD .skip)).getD .skip
theorem lseqZ34:lsZ34 = [(0,cZ34_0)] := by kernel_rfl
theorem mZ34_0:∀ p,p ∈ lsZ34 → p.1 = 0 → p.2 = cZ34_0 := by
 intro p hp
 rw [lseqZ34] at hp
 simp only [List.mem_cons,List.not_mem_nil,or_false] at hp
 subst hp; simp
theorem kZ34_0:OrcOk EZ34 OZ34_0 lsZ34 0 := orcOk_none
noncomputable def hZ34_0 (y0:tL0) (y1:Int) (y2:Int):List (Pl×LV) := [(.T 0,.t (.val false [.row 0 0 0])),(.R 0 0,.r 0 (some ⟨false,.any,true,73,(.pair (.int .i64) (.pair (.pair (.int .i64) (.pair (.int .i64) (.pair (.int .i64) (.pair (.int .i64) (.pair (.int .i64) (.pair (.int .i64) (.int .i64))))))) (.pair .bool (.pair (.sl 3 (.int .i64)) (.sl 3 (.int .i64)))))),y0⟩)),(.T 1,.t (.val false [.int .i64 y1])),(.T 5,.t (.val false [.int .i64 y2]))]
noncomputable abbrev uq1190 (y0:tL0) (y1 y2:Int):tL0 := updE yT0 y0 (Int.toNat y2) fun x => (y1,(x.2.1.1,x.2.1.2.1,x.2.1.2.2.1,x.2.1.2.2.2.1,x.2.1.2.2.2.2.1,x.2.1.2.2.2.2.2.1,x.2.1.2.2.2.2.2.2),x.2.2.1,x.2.2.2.1,x.2.2.2.2)
noncomputable abbrev uq1191 (y0:tL0) (y1 y2:Int):tL0 := updE yT0 (uq1190 y0 y1 y2) (Int.toNat y2) fun x => (x.1,(IntKind.i64.wrap (y1 + 1),x.2.1.2.1,x.2.1.2.2.1,x.2.1.2.2.2.1,x.2.1.2.2.2.2.1,x.2.1.2.2.2.2.2.1,x.2.1.2.2.2.2.2.2),x.2.2.1,x.2.2.2.1,x.2.2.2.2)
noncomputable abbrev uq1192 (y0:tL0) (y1 y2:Int):tL0 := updE yT0 (uq1191 y0 y1 y2) (Int.toNat y2) fun x => (x.1,(x.2.1.1,IntKind.i64.wrap (IntKind.i64.wrap (y1 + 1) + 1),x.2.1.2.2.1,x.2.1.2.2.2.1,x.2.1.2.2.2.2.1,x.2.1.2.2.2.2.2.1,x.2.1.2.2.2.2.2.2),x.2.2.1,x.2.2.2.1,x.2.2.2.2)
noncomputable abbrev uq1193 (y0:tL0) (y1 y2:Int):tL0 := updE yT0 (uq1192 y0 y1 y2) (Int.toNat y2) fun x => (x.1,(x.2.1.1,x.2.1.2.1,IntKind.i64.wrap (IntKind.i64.wrap (IntKind.i64.wrap (y1 + 1) + 1) + 1),x.2.1.2.2.2.1,x.2.1.2.2.2.2.1,x.2.1.2.2.2.2.2.1,x.2.1.2.2.2.2.2.2),x.2.2.1,x.2.2.2.1,x.2.2.2.2)
noncomputable abbrev uq1194 (y0:tL0) (y1 y2:Int):tL0 := updE yT0 (uq1193 y0 y1 y2) (Int.toNat y2) fun x => (x.1,(x.2.1.1,x.2.1.2.1,x.2.1.2.2.1,IntKind.i64.wrap (IntKind.i64.wrap (IntKind.i64.wrap (IntKind.i64.wrap (y1 + 1) + 1) + 1) + 1),x.2.1.2.2.2.2.1,x.2.1.2.2.2.2.2.1,x.2.1.2.2.2.2.2.2),x.2.2.1,x.2.2.2.1,x.2.2.2.2)
noncomputable abbrev uq1195 (y0:tL0) (y1 y2:Int):tL0 := updE yT0 (uq1194 y0 y1 y2) (Int.toNat y2) fun x => (x.1,(x.2.1.1,x.2.1.2.1,x.2.1.2.2.1,x.2.1.2.2.2.1,IntKind.i64.wrap (IntKind.i64.wrap (IntKind.i64.wrap (IntKind.i64.wrap (IntKind.i64.wrap (y1 + 1) + 1) + 1) + 1) + 1),x.2.1.2.2.2.2.2.1,x.2.1.2.2.2.2.2.2),x.2.2.1,x.2.2.2.1,x.2.2.2.2)
noncomputable abbrev uq1196 (y0:tL0) (y1 y2:Int):tL0 := updE yT0 (uq1195 y0 y1 y2) (Int.toNat y2) fun x => (x.1,(x.2.1.1,x.2.1.2.1,x.2.1.2.2.1,x.2.1.2.2.2.1,x.2.1.2.2.2.2.1,IntKind.i64.wrap (IntKind.i64.wrap (IntKind.i64.wrap (IntKind.i64.wrap (IntKind.i64.wrap (IntKind.i64.wrap (y1 + 1) + 1) + 1) + 1) + 1) + 1),x.2.1.2.2.2.2.2.2),x.2.2.1,x.2.2.2.1,x.2.2.2.2)
noncomputable abbrev uq1197 (y0:tL0) (y1 y2:Int):tL0 := updE yT0 (uq1196 y0 y1 y2) (Int.toNat y2) fun x => (x.1,(x.2.1.1,x.2.1.2.1,x.2.1.2.2.1,x.2.1.2.2.2.1,x.2.1.2.2.2.2.1,x.2.1.2.2.2.2.2.1,IntKind.i64.wrap (IntKind.i64.wrap (IntKind.i64.wrap (IntKind.i64.wrap (IntKind.i64.wrap (IntKind.i64.wrap (IntKind.i64.wrap (y1 + 1) + 1) + 1) + 1) + 1) + 1) + 1)),x.2.2.1,x.2.2.2.1,x.2.2.2.2)
noncomputable abbrev uq1198 (y0:tL0) (y1 y2:Int):tL0 := updE yT0 (uq1197 y0 y1 y2) (Int.toNat y2) fun x => (x.1,(x.2.1.1,x.2.1.2.1,x.2.1.2.2.1,x.2.1.2.2.2.1,x.2.1.2.2.2.2.1,x.2.1.2.2.2.2.2.1,x.2.1.2.2.2.2.2.2),Int.tmod (IntKind.i64.wrap (IntKind.i64.wrap (IntKind.i64.wrap (IntKind.i64.wrap (IntKind.i64.wrap (IntKind.i64.wrap (IntKind.i64.wrap (IntKind.i64.wrap (y1 + 1) + 1) + 1) + 1) + 1) + 1) + 1) + 1)) (3:Int) == (0:Int),x.2.2.2.1,x.2.2.2.2)
noncomputable abbrev uq1199 (y0:tL0) (y1 y2:Int):tL0 := updE yT0 (uq1198 y0 y1 y2) (Int.toNat y2) fun q => (q.1,(q.2.1.1,q.2.1.2.1,q.2.1.2.2.1,q.2.1.2.2.2.1,q.2.1.2.2.2.2.1,q.2.1.2.2.2.2.2.1,q.2.1.2.2.2.2.2.2),q.2.2.1,g_VZ62_1 q.2.2.2.1 (IntKind.i64.wrap (IntKind.i64.wrap (IntKind.i64.wrap (IntKind.i64.wrap (IntKind.i64.wrap (IntKind.i64.wrap (IntKind.i64.wrap (IntKind.i64.wrap (IntKind.i64.wrap (y1 + 1) + 1) + 1) + 1) + 1) + 1) + 1) + 1) + 1)),q.2.2.2.2)
noncomputable def g_SZ34_0:(tL0×Int×Int) → RT (tL0×Int×Int) ((tL0×Int))
 | (y0,y1,y2) => .br (true) (.br (decide (y2 < (y0.length:Int))) (.br (decide (0 ≤ y2 ∧ y2 < (y0.length:Int))) (.br (decide (Int.toNat y2 < List.length y0)) (.br (true) (.br (decide (0 ≤ y2 ∧ y2 < (↑(List.length (uq1190 y0 y1 y2)):Int))) (.br (decide (Int.toNat y2 < List.length (uq1190 y0 y1 y2))) (.br (true) (.br (decide (0 ≤ y2 ∧ y2 < (↑(List.length (uq1191 y0 y1 y2)):Int))) (.br (decide (Int.toNat y2 < List.length (uq1191 y0 y1 y2))) (.br (true) (.br (decide (0 ≤ y2 ∧ y2 < (↑(List.length (uq1192 y0 y1 y2)):Int))) (.br (decide (Int.toNat y2 < List.length (uq1192 y0 y1 y2))) (.br (true) (.br (decide (0 ≤ y2 ∧ y2 < (↑(List.length (uq1193 y0 y1 y2)):Int))) (.br (decide (Int.toNat y2 < List.length (uq1193 y0 y1 y2))) (.br (true) (.br (decide (0 ≤ y2 ∧ y2 < (↑(List.length (uq1194 y0 y1 y2)):Int))) (.br (decide (Int.toNat y2 < List.length (uq1194 y0 y1 y2))) (.br (true) (.br (decide (0 ≤ y2 ∧ y2 < (↑(List.length (uq1195 y0 y1 y2)):Int))) (.br (decide (Int.toNat y2 < List.length (uq1195 y0 y1 y2))) (.br (true) (.br (decide (0 ≤ y2 ∧ y2 < (↑(List.length (uq1196 y0 y1 y2)):Int))) (.br (decide (Int.toNat y2 < List.length (uq1196 y0 y1 y2))) (.br (true) (.br (true) (.br (true) (.br (decide (0 ≤ y2 ∧ y2 < (↑(List.length (uq1197 y0 y1 y2)):Int))) (.br (decide (Int.toNat y2 < List.length (uq1197 y0 y1 y2))) (.br (true) (.br (decide (0 ≤ y2 ∧ y2 < (↑(List.length (uq1198 y0 y1 y2)):Int))) (.br (decide (Int.toNat y2 < List.length (uq1198 y0 y1 y2))) (.br (g_AZ62 (at_ yT0 (uq1198 y0 y1 y2) (Int.toNat y2)).2.2.2.1 (IntKind.i64.wrap (IntKind.i64.wrap (IntKind.i64.wrap (IntKind.i64.wrap (IntKind.i64.wrap (IntKind.i64.wrap (IntKind.i64.wrap (IntKind.i64.wrap (IntKind.i64.wrap (y1 + 1) + 1) + 1) + 1) + 1) + 1) + 1) + 1) + 1))) (.br (decide (0 ≤ y2 ∧ y2 < (↑(List.length (uq1199 y0 y1 y2)):Int))) (.br (decide (Int.toNat y2 < List.length (uq1199 y0 y1 y2))) (.br (g_AZ62 (at_ yT0 (uq1199 y0 y1 y2) (Int.toNat y2)).2.2.2.2 (g_VZ62_0 (at_ yT0 (uq1198 y0 y1 y2) (Int.toNat y2)).2.2.2.1 (IntKind.i64.wrap (IntKind.i64.wrap (IntKind.i64.wrap (IntKind.i64.wrap (IntKind.i64.wrap (IntKind.i64.wrap (IntKind.i64.wrap (IntKind.i64.wrap (IntKind.i64.wrap (y1 + 1) + 1) + 1) + 1) + 1) + 1) + 1) + 1) + 1)))) (.br (true) (.go ((updE yT0 (uq1199 y0 y1 y2) (Int.toNat y2) fun q => (q.1,(q.2.1.1,q.2.1.2.1,q.2.1.2.2.1,q.2.1.2.2.2.1,q.2.1.2.2.2.2.1,q.2.1.2.2.2.2.2.1,q.2.1.2.2.2.2.2.2),q.2.2.1,q.2.2.2.1,g_VZ62_1 q.2.2.2.2 (g_VZ62_0 (at_ yT0 (uq1198 y0 y1 y2) (Int.toNat y2)).2.2.2.1 (IntKind.i64.wrap (IntKind.i64.wrap (IntKind.i64.wrap (IntKind.i64.wrap (IntKind.i64.wrap (IntKind.i64.wrap (IntKind.i64.wrap (IntKind.i64.wrap (IntKind.i64.wrap (y1 + 1) + 1) + 1) + 1) + 1) + 1) + 1) + 1) + 1)))),g_VZ62_0 (at_ yT0 (uq1199 y0 y1 y2) (Int.toNat y2)).2.2.2.2 (g_VZ62_0 (at_ yT0 (uq1198 y0 y1 y2) (Int.toNat y2)).2.2.2.1 (IntKind.i64.wrap (IntKind.i64.wrap (IntKind.i64.wrap (IntKind.i64.wrap (IntKind.i64.wrap (IntKind.i64.wrap (IntKind.i64.wrap (IntKind.i64.wrap (IntKind.i64.wrap (y1 + 1) + 1) + 1) + 1) + 1) + 1) + 1) + 1) + 1))),IntKind.i64.wrap (y2 + 1)))) .bad) .bad) .bad) .bad) .bad) .bad) .bad) .bad) .bad) .bad) .bad) .bad) .bad) .bad) .bad) .bad) .bad) .bad) .bad) .bad) .bad) .bad) .bad) .bad) .bad) .bad) .bad) .bad) .bad) .bad) .bad) .bad) .bad) .bad) .bad) .bad) (.out ((y0,y1)))) .bad
noncomputable def g_LZ34_0 (x:tL0×Int×Int):Option ((tL0×Int)) := loopO (g_SZ34_0) x
noncomputable def xZ34_0:((tL0×Int)) → Ex×List (Pl×LV) := fun r => (.exit 0,[(.T 0,.t (.val false [.row 0 0 0])),(.R 0 0,.r 0 (some ⟨false,.any,true,73,(.pair (.int .i64) (.pair (.pair (.int .i64) (.pair (.int .i64) (.pair (.int .i64) (.pair (.int .i64) (.pair (.int .i64) (.pair (.int .i64) (.int .i64))))))) (.pair .bool (.pair (.sl 3 (.int .i64)) (.sl 3 (.int .i64)))))),r.1⟩)),(.T 1,.t (.val false [.int .i64 r.2]))])
noncomputable def OZ34_1:Orc := fun b h => match b,h with
 | 0,[(.T 0,.t (.val false [.row 0 0 0])),(.R 0 0,.r 0 (some ⟨false,.any,true,73,(.pair (.int .i64) (.pair (.pair (.int .i64) (.pair (.int .i64) (.pair (.int .i64) (.pair (.int .i64) (.pair (.int .i64) (.pair (.int .i64) (.int .i64))))))) (.pair .bool (.pair (.sl 3 (.int .i64)) (.sl 3 (.int .i64)))))),y0⟩)),(.T 1,.t (.val false [.int .i64 y1])),(.T 5,.t (.val false [.int .i64 y2]))] => some (okO (g_LZ34_0 (y0,y1,y2)),(.leaf (.exit 0) [(.T 0,.t (.val false [.row 0 0 0])),(.R 0 0,.r 0 (some ⟨false,.any,true,73,(.pair (.int .i64) (.pair (.pair (.int .i64) (.pair (.int .i64) (.pair (.int .i64) (.pair (.int .i64) (.pair (.int .i64) (.pair (.int .i64) (.int .i64))))))) (.pair .bool (.pair (.sl 3 (.int .i64)) (.sl 3 (.int .i64)))))),(valO (g_LZ34_0 (y0,y1,y2))).1⟩)),(.T 1,.t (.val false [.int .i64 (valO (g_LZ34_0 (y0,y1,y2))).2]))]))
 | b,h => OZ34_0 b h
theorem bZ34_0 (y0:tL0) (y1:Int) (y2:Int):Tr.bt EZ34 OZ34_0 (exec EZ34 0 cZ34_0 (St.of (hZ34_0 y0 y1 y2)) (leafRd EZ34 0)) = (g_SZ34_0 (y0,y1,y2)).bt (fun ((y0,y1,y2):tL0×Int×Int) => (hZ34_0 y0 y1 y2)) (xZ34_0) := by kernel_rfl
theorem kZ34_1:OrcOk EZ34 OZ34_1 lsZ34 1 := orc_add kZ34_0 (fun n p hp h ex h' ho => by
 obtain ⟨b,c⟩ := p
 obtain ⟨xt,h1,h2⟩ := ho
 have h1:OZ34_1 b h = some (true,xt) := h1
 unfold OZ34_1 at h1
 split at h1
 ·injection h1 with h1
  injection h1 with e1 e2
  subst e2
  have hc:c = cZ34_0 := mZ34_0 _ hp rfl
  subst hc
  right
  rename_i y0 y1 y2
  have key := LT_step kZ34_0 hp (fun q hq => loopsAll_in _ _ _ _ hp hq) (fun ((y0,y1,y2):tL0×Int×Int) => (hZ34_0 y0 y1 y2)) (xZ34_0) (g_SZ34_0) (fun x => by first | exact bZ34_0 x.1 x.2.1 x.2.2) n (x := (y0,y1,y2)) (okO_some e1)
  have hx:∀ r,XT.sel (.leaf (.exit 0) [(.T 0,.t (.val false [.row 0 0 0])),(.R 0 0,.r 0 (some ⟨false,.any,true,73,(.pair (.int .i64) (.pair (.pair (.int .i64) (.pair (.int .i64) (.pair (.int .i64) (.pair (.int .i64) (.pair (.int .i64) (.pair (.int .i64) (.int .i64))))))) (.pair .bool (.pair (.sl 3 (.int .i64)) (.sl 3 (.int .i64)))))),r.1⟩)),(.T 1,.t (.val false [.int .i64 r.2]))]) = xZ34_0 r := fun r => by first | rfl | rcases r with r | r <;> rfl | rcases r with r | r | r <;> rfl | rcases r with r | r | r | r <;> rfl
  have h3 := (hx (valO (g_LZ34_0 (y0,y1,y2)))).symm.trans h2
  have e3 := congrArg Prod.fst h3
  have e4 := congrArg Prod.snd h3
  simp only at e3 e4
  rw [← e3,← e4]
  exact key
 ·exact .inl ⟨xt,h1,h2⟩)
noncomputable def g_AZ34 (a0:tL0) (a1:Int):Bool := okO (g_LZ34_0 (a0,a1,(0:Int)))
noncomputable def g_VZ34_0 (a0:tL0) (a1:Int):Int := (valO (g_LZ34_0 (a0,a1,(0:Int)))).2
noncomputable def g_VZ34_1 (a0:tL0) (a1:Int):tL0 := (valO (g_LZ34_0 (a0,a1,(0:Int)))).1
noncomputable def FZ34:FSem := fun ys => match ys with
 | [.val false [.own .any true 73 (.pair (.int .i64) (.pair (.pair (.int .i64) (.pair (.int .i64) (.pair (.int .i64) (.pair (.int .i64) (.pair (.int .i64) (.pair (.int .i64) (.int .i64))))))) (.pair .bool (.pair (.sl 3 (.int .i64)) (.sl 3 (.int .i64)))))) a0],.val false [.int .i64 a1]] => some ((g_AZ34 a0 a1),.val false [.int .i64 (g_VZ34_0 a0 a1)],[[.own .any true 73 (.pair (.int .i64) (.pair (.pair (.int .i64) (.pair (.int .i64) (.pair (.int .i64) (.pair (.int .i64) (.pair (.int .i64) (.pair (.int .i64) (.int .i64))))))) (.pair .bool (.pair (.sl 3 (.int .i64)) (.sl 3 (.int .i64)))))) (g_VZ34_1 a0 a1)]])
 | _ => none
theorem vZ34 (a0:tL0) (a1:Int):collapseH .std EZ34 OZ34_1 (execFn EZ34 Tryz.f45 msZ34 [.val false [.own .any true 73 (.pair (.int .i64) (.pair (.pair (.int .i64) (.pair (.int .i64) (.pair (.int .i64) (.pair (.int .i64) (.pair (.int .i64) (.pair (.int .i64) (.int .i64))))))) (.pair .bool (.pair (.sl 3 (.int .i64)) (.sl 3 (.int .i64)))))) a0],.val false [.int .i64 a1]]) = some ((g_AZ34 a0 a1),.val false [.int .i64 (g_VZ34_0 a0 a1)],[[.own .any true 73 (.pair (.int .i64) (.pair (.pair (.int .i64) (.pair (.int .i64) (.pair (.int .i64) (.pair (.int .i64) (.pair (.int .i64) (.pair (.int .i64) (.int .i64))))))) (.pair .bool (.pair (.sl 3 (.int .i64)) (.sl 3 (.int .i64)))))) (g_VZ34_1 a0 a1)]]) := by kernel_rfl
theorem sZ34:Sound Tryz.prog 45 msZ34 FZ34 := by
 refine fn_gen goodZ34 (by kernel_rfl) .std (fn := Tryz.f45) (c := (Tryz.f45.body.getD .skip)) (o := OZ34_1) (k := 1) (by kernel_rfl) (by kernel_rfl) (by kernel_rfl) (by kernel_rfl) (by decide) kZ34_1 ?_
 intro ys r outs h
 unfold FZ34 at h
 split at h
 ·exact (vZ34 _ _).trans h
 ·cases h
noncomputable def EZ63:Env where
 tt := mkTI Tryz.prog
 fn := fun _ => none
 bxf := fun _ => none
 mv := []
 keep := fun b => match b with
  | 0 => [(0,false),(3,false)]
  | _ => []
 keepB := fun b => match b with
  | 0 => []
  | _ => []
 keepX := fun b => match b with
  | 0 => [(3,false)]
  | _ => []
 keepXB := fun b => match b with
  | 0 => []
  | _ => []
theorem goodFZ63:∀ f ms F,EZ63.fn f = some (ms,F) → Sound Tryz.prog f ms F := fun f ms F h => by cases h
theorem goodZ63:Good Tryz.prog EZ63 := ⟨rfl,goodFZ63,fun f ms F h => by cases h⟩
noncomputable def OZ63_0:Orc := fun _ _ => none
noncomputable def msZ63:List PM := [.own]
noncomputable def lsZ63:List (Nat×Code) := loopsAll 0 (Tryz.f168.body.getD .skip)
noncomputable def cZ63_0:Code := (loopOf 0 (Tryz.f168.body.getD .skip)).getD .skip
theorem lseqZ63:lsZ63 = [(0,cZ63_0)] := by kernel_rfl
theorem mZ63_0:∀ p,p ∈ lsZ63 → p.1 = 0 → p.2 = cZ63_0 := by
 intro p hp
 rw [lseqZ63] at hp
 simp only [List.mem_cons,List.not_mem_nil,or_false] at hp
 subst hp; simp
theorem kZ63_0:OrcOk EZ63 OZ63_0 lsZ63 0 := orcOk_none
noncomputable def hZ63_0 (y0:Int) (y1:ByteArray):List (Pl×LV) := [(.T 0,.t (.val false [.int .i64 y0])),(.T 3,.t (.val false [.str y1]))]
noncomputable def g_SZ63_0:(Int×ByteArray) → RT (Int×ByteArray) ((ByteArray))
 | (y0,y1) => .br (true) (.br (decide (y0 > 0)) (.br (true) (.br (true) (.br (decide (ByteArray.size { data := List.toArray (List.map (fun n => UInt8.ofNat (Int.toNat n)) [IntKind.wrap IntKind.u8 (IntKind.i64.wrap (48 + Int.tmod y0 (10:Int)))]) } + ByteArray.size y1 ≤ nat_lit 9223372036854775807)) (.br (true) (.go ((IntKind.i64.wrap (Int.tdiv y0 (10:Int)),{ data := List.toArray (List.map (fun n => UInt8.ofNat (Int.toNat n)) [IntKind.wrap IntKind.u8 (IntKind.i64.wrap (48 + Int.tmod y0 (10:Int)))]) } ++ y1))) .bad) .bad) .bad) .bad) (.out (y1))) .bad
noncomputable def g_LZ63_0 (x:Int×ByteArray):Option ((ByteArray)) := loopO (g_SZ63_0) x
noncomputable def xZ63_0:((ByteArray)) → Ex×List (Pl×LV) := fun r => (.exit 0,[(.T 3,.t (.val false [.str r]))])
noncomputable def OZ63_1:Orc := fun b h => match b,h with
 | 0,[(.T 0,.t (.val false [.int .i64 y0])),(.T 3,.t (.val false [.str y1]))] => some (okO (g_LZ63_0 (y0,y1)),(.leaf (.exit 0) [(.T 3,.t (.val false [.str (valO (g_LZ63_0 (y0,y1)))]))]))
 | b,h => OZ63_0 b h
theorem bZ63_0 (y0:Int) (y1:ByteArray):Tr.bt EZ63 OZ63_0 (exec EZ63 0 cZ63_0 (St.of (hZ63_0 y0 y1)) (leafRd EZ63 0)) = (g_SZ63_0 (y0,y1)).bt (fun ((y0,y1):Int×ByteArray) => (hZ63_0 y0 y1)) (xZ63_0) := by kernel_rfl
theorem kZ63_1:OrcOk EZ63 OZ63_1 lsZ63 1 := orc_add kZ63_0 (fun n p hp h ex h' ho => by
 obtain ⟨b,c⟩ := p
 obtain ⟨xt,h1,h2⟩ := ho
 have h1:OZ63_1 b h = some (true,xt) := h1
 unfold OZ63_1 at h1
 split at h1
 ·injection h1 with h1
  injection h1 with e1 e2
  subst e2
  have hc:c = cZ63_0 := mZ63_0 _ hp rfl
  subst hc
  right
  rename_i y0 y1
  have key := LT_step kZ63_0 hp (fun q hq => loopsAll_in _ _ _ _ hp hq) (fun ((y0,y1):Int×ByteArray) => (hZ63_0 y0 y1)) (xZ63_0) (g_SZ63_0) (fun x => by first | exact bZ63_0 x.1 x.2) n (x := (y0,y1)) (okO_some e1)
  have hx:∀ r,XT.sel (.leaf (.exit 0) [(.T 3,.t (.val false [.str r]))]) = xZ63_0 r := fun r => by first | rfl | rcases r with r | r <;> rfl | rcases r with r | r | r <;> rfl | rcases r with r | r | r | r <;> rfl
  have h3 := (hx (valO (g_LZ63_0 (y0,y1)))).symm.trans h2
  have e3 := congrArg Prod.fst h3
  have e4 := congrArg Prod.snd h3
  simp only at e3 e4
  rw [← e3,← e4]
  exact key
 ·exact .inl ⟨xt,h1,h2⟩)
noncomputable def g_AZ63 (a0:Int):Bool := decide (a0 ≤ 0) || okO (g_LZ63_0 (a0,lit []))&&decide (nat_lit 1 + ByteArray.size (valO (g_LZ63_0 (a0,lit []))) ≤ nat_lit 9223372036854775807)
noncomputable def g_VZ63_0 (a0:Int):ByteArray := bif decide (a0 ≤ 0) then lit [(109:Nat),(48:Nat)] else lit [(109:Nat)] ++ valO (g_LZ63_0 (a0,lit []))
noncomputable def FZ63:FSem := fun ys => match ys with
 | [.val false [.int .i64 a0]] => some ((g_AZ63 a0),.val false [.str (g_VZ63_0 a0)],[])
 | _ => none
theorem vZ63 (a0:Int):collapseH .std EZ63 OZ63_1 (execFn EZ63 Tryz.f168 msZ63 [.val false [.int .i64 a0]]) = some ((g_AZ63 a0),.val false [.str (g_VZ63_0 a0)],[]) := by kernel_rfl
theorem sZ63:Sound Tryz.prog 168 msZ63 FZ63 := by
 refine fn_gen goodZ63 (by kernel_rfl) .std (fn := Tryz.f168) (c := (Tryz.f168.body.getD .skip)) (o := OZ63_1) (k := 1) (by kernel_rfl) (by kernel_rfl) (by kernel_rfl) (by kernel_rfl) (by decide) kZ63_1 ?_
 intro ys r outs h
 unfold FZ63 at h
 split at h
 ·exact (vZ63 _).trans h
 ·cases h
noncomputable def EZ19:Env where
 tt := mkTI Tryz.prog
 fn := fun f => match f with
  | 106 => some (msZ62,FSem.wk msZ62 FZ62)
  | 168 => some (msZ63,FSem.wk msZ63 FZ63)
  | _ => none
 bxf := fun _ => none
 mv := []
 keep := fun b => match b with
  | 0 => [(0,false),(1,false),(5,false)]
  | _ => []
 keepB := fun b => match b with
  | 0 => []
  | _ => []
 keepX := fun b => match b with
  | 0 => [(0,false),(1,false)]
  | _ => []
 keepXB := fun b => match b with
  | 0 => []
  | _ => []
 nest := [33]
theorem goodFZ19:∀ f ms F,EZ19.fn f = some (ms,F) → Sound Tryz.prog f ms F := fun f ms F h => by
 unfold EZ19 at h
 dsimp only at h
 split at h
 ·exact gF sZ62 h
 ·exact gF sZ63 h
 ·cases h
theorem goodZ19:Good Tryz.prog EZ19 := ⟨rfl,goodFZ19,fun f ms F h => by cases h⟩
noncomputable def OZ19_0:Orc := fun _ _ => none
noncomputable def msZ19:List PM := [.«mut»,.own]
noncomputable def lsZ19:List (Nat×Code) := loopsAll 0 (Tryz.f144.body.getD .skip)
noncomputable def cZ19_0:Code := (loopOf 0 (Tryz.f144.body.getD .skip)).getD .skip
theorem lseqZ19:lsZ19 = [(0,cZ19_0)] := by kernel_rfl
theorem mZ19_0:∀ p,p ∈ lsZ19 → p.1 = 0 → p.2 = cZ19_0 := by
 intro p hp
 rw [lseqZ19] at hp
 simp only [List.mem_cons,List.not_mem_nil,or_false] at hp
 subst hp; simp
theorem kZ19_0:OrcOk EZ19 OZ19_0 lsZ19 0 := orcOk_none
noncomputable def hZ19_0 (y0:tL3) (y1:Int) (y2:Int):List (Pl×LV) := [(.T 0,.t (.val false [.row 0 0 0])),(.R 0 0,.r 0 (some ⟨false,.any,true,155,(.pair .str (.pair .bool (.sl 3 (.int .i64)))),y0⟩)),(.T 1,.t (.val false [.int .i64 y1])),(.T 5,.t (.val false [.int .i64 y2]))]
noncomputable abbrev uq1210 (y0:tL3) (y1 y2:Int):tL3 := updE yT4 y0 (Int.toNat y2) fun x => (g_VZ63_0 y1,x.2.1,x.2.2)
noncomputable abbrev uq1211 (y0:tL3) (y1 y2:Int):tL3 := updE yT4 (uq1210 y0 y1 y2) (Int.toNat y2) fun x => (x.1,Int.tmod (IntKind.i64.wrap (y1 + 1)) (3:Int) == (0:Int),x.2.2)
noncomputable def g_SZ19_0:(tL3×Int×Int) → RT (tL3×Int×Int) ((tL3×Int))
 | (y0,y1,y2) => .br (true) (.br (decide (y2 < (y0.length:Int))) (.br (g_AZ63 y1) (.br (decide (0 ≤ y2 ∧ y2 < (y0.length:Int))) (.br (decide (Int.toNat y2 < List.length y0)) (.br (true) (.br (true) (.br (true) (.br (decide (0 ≤ y2 ∧ y2 < (↑(List.length (uq1210 y0 y1 y2)):Int))) (.br (decide (Int.toNat y2 < List.length (uq1210 y0 y1 y2))) (.br (true) (.br (decide (0 ≤ y2 ∧ y2 < (↑(List.length (uq1211 y0 y1 y2)):Int))) (.br (decide (Int.toNat y2 < List.length (uq1211 y0 y1 y2))) (.br (g_AZ62 (at_ yT4 (uq1211 y0 y1 y2) (Int.toNat y2)).2.2 (IntKind.i64.wrap (IntKind.i64.wrap (y1 + 1) + 1))) (.br (true) (.go ((updE yT4 (uq1211 y0 y1 y2) (Int.toNat y2) fun q => (q.1,q.2.1,g_VZ62_1 q.2.2 (IntKind.i64.wrap (IntKind.i64.wrap (y1 + 1) + 1))),g_VZ62_0 (at_ yT4 (uq1211 y0 y1 y2) (Int.toNat y2)).2.2 (IntKind.i64.wrap (IntKind.i64.wrap (y1 + 1) + 1)),IntKind.i64.wrap (y2 + 1)))) .bad) .bad) .bad) .bad) .bad) .bad) .bad) .bad) .bad) .bad) .bad) .bad) .bad) (.out ((y0,y1)))) .bad
noncomputable def g_LZ19_0 (x:tL3×Int×Int):Option ((tL3×Int)) := loopO (g_SZ19_0) x
noncomputable def xZ19_0:((tL3×Int)) → Ex×List (Pl×LV) := fun r => (.exit 0,[(.T 0,.t (.val false [.row 0 0 0])),(.R 0 0,.r 0 (some ⟨false,.any,true,155,(.pair .str (.pair .bool (.sl 3 (.int .i64)))),r.1⟩)),(.T 1,.t (.val false [.int .i64 r.2]))])
noncomputable def OZ19_1:Orc := fun b h => match b,h with
 | 0,[(.T 0,.t (.val false [.row 0 0 0])),(.R 0 0,.r 0 (some ⟨false,.any,true,155,(.pair .str (.pair .bool (.sl 3 (.int .i64)))),y0⟩)),(.T 1,.t (.val false [.int .i64 y1])),(.T 5,.t (.val false [.int .i64 y2]))] => some (okO (g_LZ19_0 (y0,y1,y2)),(.leaf (.exit 0) [(.T 0,.t (.val false [.row 0 0 0])),(.R 0 0,.r 0 (some ⟨false,.any,true,155,(.pair .str (.pair .bool (.sl 3 (.int .i64)))),(valO (g_LZ19_0 (y0,y1,y2))).1⟩)),(.T 1,.t (.val false [.int .i64 (valO (g_LZ19_0 (y0,y1,y2))).2]))]))
 | b,h => OZ19_0 b h
theorem bZ19_0 (y0:tL3) (y1:Int) (y2:Int):Tr.bt EZ19 OZ19_0 (exec EZ19 0 cZ19_0 (St.of (hZ19_0 y0 y1 y2)) (leafRd EZ19 0)) = (g_SZ19_0 (y0,y1,y2)).bt (fun ((y0,y1,y2):tL3×Int×Int) => (hZ19_0 y0 y1 y2)) (xZ19_0) := by kernel_rfl
theorem kZ19_1:OrcOk EZ19 OZ19_1 lsZ19 1 := orc_add kZ19_0 (fun n p hp h ex h' ho => by
 obtain ⟨b,c⟩ := p
 obtain ⟨xt,h1,h2⟩ := ho
 have h1:OZ19_1 b h = some (true,xt) := h1
 unfold OZ19_1 at h1
 split at h1
 ·injection h1 with h1
  injection h1 with e1 e2
  subst e2
  have hc:c = cZ19_0 := mZ19_0 _ hp rfl
  subst hc
  right
  rename_i y0 y1 y2
  have key := LT_step kZ19_0 hp (fun q hq => loopsAll_in _ _ _ _ hp hq) (fun ((y0,y1,y2):tL3×Int×Int) => (hZ19_0 y0 y1 y2)) (xZ19_0) (g_SZ19_0) (fun x => by first | exact bZ19_0 x.1 x.2.1 x.2.2) n (x := (y0,y1,y2)) (okO_some e1)
  have hx:∀ r,XT.sel (.leaf (.exit 0) [(.T 0,.t (.val false [.row 0 0 0])),(.R 0 0,.r 0 (some ⟨false,.any,true,155,(.pair .str (.pair .bool (.sl 3 (.int .i64)))),r.1⟩)),(.T 1,.t (.val false [.int .i64 r.2]))]) = xZ19_0 r := fun r => by first | rfl | rcases r with r | r <;> rfl | rcases r with r | r | r <;> rfl | rcases r with r | r | r | r <;> rfl
  have h3 := (hx (valO (g_LZ19_0 (y0,y1,y2)))).symm.trans h2
  have e3 := congrArg Prod.fst h3
  have e4 := congrArg Prod.snd h3
  simp only at e3 e4
  rw [← e3,← e4]
  exact key
 ·exact .inl ⟨xt,h1,h2⟩)
noncomputable def g_AZ19 (a0:tL3) (a1:Int):Bool := okO (g_LZ19_0 (a0,a1,(0:Int)))
noncomputable def g_VZ19_0 (a0:tL3) (a1:Int):Int := (valO (g_LZ19_0 (a0,a1,(0:Int)))).2
noncomputable def g_VZ19_1 (a0:tL3) (a1:Int):tL3 := (valO (g_LZ19_0 (a0,a1,(0:Int)))).1
noncomputable def FZ19:FSem := fun ys => match ys with
 | [.val false [.own .any true 155 (.pair .str (.pair .bool (.sl 3 (.int .i64)))) a0],.val false [.int .i64 a1]] => some ((g_AZ19 a0 a1),.val false [.int .i64 (g_VZ19_0 a0 a1)],[[.own .any true 155 (.pair .str (.pair .bool (.sl 3 (.int .i64)))) (g_VZ19_1 a0 a1)]])
 | _ => none
theorem vZ19 (a0:tL3) (a1:Int):collapseH .std EZ19 OZ19_1 (execFn EZ19 Tryz.f144 msZ19 [.val false [.own .any true 155 (.pair .str (.pair .bool (.sl 3 (.int .i64)))) a0],.val false [.int .i64 a1]]) = some ((g_AZ19 a0 a1),.val false [.int .i64 (g_VZ19_0 a0 a1)],[[.own .any true 155 (.pair .str (.pair .bool (.sl 3 (.int .i64)))) (g_VZ19_1 a0 a1)]]) := by kernel_rfl
theorem sZ19:Sound Tryz.prog 144 msZ19 FZ19 := by
 refine fn_gen goodZ19 (by kernel_rfl) .std (fn := Tryz.f144) (c := (Tryz.f144.body.getD .skip)) (o := OZ19_1) (k := 1) (by kernel_rfl) (by kernel_rfl) (by kernel_rfl) (by kernel_rfl) (by decide) kZ19_1 ?_
 intro ys r outs h
 unfold FZ19 at h
 split at h
 ·exact (vZ19 _ _).trans h
 ·cases h
noncomputable def EZ24:Env where
 tt := mkTI Tryz.prog
 fn := fun f => match f with
  | 168 => some (msZ63,FSem.wk msZ63 FZ63)
  | _ => none
 bxf := fun _ => none
 mv := []
 keep := fun b => match b with
  | 0 => [(0,false),(1,false),(5,false)]
  | _ => []
 keepB := fun b => match b with
  | 0 => []
  | _ => []
 keepX := fun b => match b with
  | 0 => [(0,false),(1,false)]
  | _ => []
 keepXB := fun b => match b with
  | 0 => []
  | _ => []
theorem goodFZ24:∀ f ms F,EZ24.fn f = some (ms,F) → Sound Tryz.prog f ms F := fun f ms F h => by
 unfold EZ24 at h
 dsimp only at h
 split at h
 ·exact gF sZ63 h
 ·cases h
theorem goodZ24:Good Tryz.prog EZ24 := ⟨rfl,goodFZ24,fun f ms F h => by cases h⟩
noncomputable def OZ24_0:Orc := fun _ _ => none
noncomputable def msZ24:List PM := [.«mut»,.own]
noncomputable def lsZ24:List (Nat×Code) := loopsAll 0 (Tryz.f143.body.getD .skip)
noncomputable def cZ24_0:Code := (loopOf 0 (Tryz.f143.body.getD .skip)).getD .skip
theorem lseqZ24:lsZ24 = [(0,cZ24_0)] := by kernel_rfl
theorem mZ24_0:∀ p,p ∈ lsZ24 → p.1 = 0 → p.2 = cZ24_0 := by
 intro p hp
 rw [lseqZ24] at hp
 simp only [List.mem_cons,List.not_mem_nil,or_false] at hp
 subst hp; simp
theorem kZ24_0:OrcOk EZ24 OZ24_0 lsZ24 0 := orcOk_none
noncomputable def hZ24_0 (y0:List ByteArray) (y1:Int) (y2:Int):List (Pl×LV) := [(.T 0,.t (.val false [.row 0 0 0])),(.R 0 0,.r 0 (some ⟨false,.any,true,9,.str,y0⟩)),(.T 1,.t (.val false [.int .i64 y1])),(.T 5,.t (.val false [.int .i64 y2]))]
noncomputable def g_SZ24_0:((List ByteArray)×Int×Int) → RT ((List ByteArray)×Int×Int) (((List ByteArray)×Int))
 | (y0,y1,y2) => .br (true) (.br (decide (y2 < (y0.length:Int))) (.br (g_AZ63 y1) (.br (decide (0 ≤ y2 ∧ y2 < (y0.length:Int))) (.br (decide (Int.toNat y2 < List.length y0)) (.br (true) (.br (true) (.go ((List.set y0 (Int.toNat y2) (g_VZ63_0 y1),IntKind.i64.wrap (y1 + 1),IntKind.i64.wrap (y2 + 1)))) .bad) .bad) .bad) .bad) .bad) (.out ((y0,y1)))) .bad
noncomputable def g_LZ24_0 (x:(List ByteArray)×Int×Int):Option (((List ByteArray)×Int)) := loopO (g_SZ24_0) x
noncomputable def xZ24_0:(((List ByteArray)×Int)) → Ex×List (Pl×LV) := fun r => (.exit 0,[(.T 0,.t (.val false [.row 0 0 0])),(.R 0 0,.r 0 (some ⟨false,.any,true,9,.str,r.1⟩)),(.T 1,.t (.val false [.int .i64 r.2]))])
noncomputable def OZ24_1:Orc := fun b h => match b,h with
 | 0,[(.T 0,.t (.val false [.row 0 0 0])),(.R 0 0,.r 0 (some ⟨false,.any,true,9,.str,y0⟩)),(.T 1,.t (.val false [.int .i64 y1])),(.T 5,.t (.val false [.int .i64 y2]))] => some (okO (g_LZ24_0 (y0,y1,y2)),(.leaf (.exit 0) [(.T 0,.t (.val false [.row 0 0 0])),(.R 0 0,.r 0 (some ⟨false,.any,true,9,.str,(valO (g_LZ24_0 (y0,y1,y2))).1⟩)),(.T 1,.t (.val false [.int .i64 (valO (g_LZ24_0 (y0,y1,y2))).2]))]))
 | b,h => OZ24_0 b h
theorem bZ24_0 (y0:List ByteArray) (y1:Int) (y2:Int):Tr.bt EZ24 OZ24_0 (exec EZ24 0 cZ24_0 (St.of (hZ24_0 y0 y1 y2)) (leafRd EZ24 0)) = (g_SZ24_0 (y0,y1,y2)).bt (fun ((y0,y1,y2):(List ByteArray)×Int×Int) => (hZ24_0 y0 y1 y2)) (xZ24_0) := by kernel_rfl
theorem kZ24_1:OrcOk EZ24 OZ24_1 lsZ24 1 := orc_add kZ24_0 (fun n p hp h ex h' ho => by
 obtain ⟨b,c⟩ := p
 obtain ⟨xt,h1,h2⟩ := ho
 have h1:OZ24_1 b h = some (true,xt) := h1
 unfold OZ24_1 at h1
 split at h1
 ·injection h1 with h1
  injection h1 with e1 e2
  subst e2
  have hc:c = cZ24_0 := mZ24_0 _ hp rfl
  subst hc
  right
  rename_i y0 y1 y2
  have key := LT_step kZ24_0 hp (fun q hq => loopsAll_in _ _ _ _ hp hq) (fun ((y0,y1,y2):(List ByteArray)×Int×Int) => (hZ24_0 y0 y1 y2)) (xZ24_0) (g_SZ24_0) (fun x => by first | exact bZ24_0 x.1 x.2.1 x.2.2) n (x := (y0,y1,y2)) (okO_some e1)
  have hx:∀ r,XT.sel (.leaf (.exit 0) [(.T 0,.t (.val false [.row 0 0 0])),(.R 0 0,.r 0 (some ⟨false,.any,true,9,.str,r.1⟩)),(.T 1,.t (.val false [.int .i64 r.2]))]) = xZ24_0 r := fun r => by first | rfl | rcases r with r | r <;> rfl | rcases r with r | r | r <;> rfl | rcases r with r | r | r | r <;> rfl
  have h3 := (hx (valO (g_LZ24_0 (y0,y1,y2)))).symm.trans h2
  have e3 := congrArg Prod.fst h3
  have e4 := congrArg Prod.snd h3
  simp only at e3 e4
  rw [← e3,← e4]
  exact key
 ·exact .inl ⟨xt,h1,h2⟩)
noncomputable def g_AZ24 (a0:List ByteArray) (a1:Int):Bool := okO (g_LZ24_0 (a0,a1,(0:Int)))
noncomputable def g_VZ24_0 (a0:List ByteArray) (a1:Int):Int := (valO (g_LZ24_0 (a0,a1,(0:Int)))).2
noncomputable def g_VZ24_1 (a0:List ByteArray) (a1:Int):List ByteArray := (valO (g_LZ24_0 (a0,a1,(0:Int)))).1
noncomputable def FZ24:FSem := fun ys => match ys with
 | [.val false [.own .any true 9 .str a0],.val false [.int .i64 a1]] => some ((g_AZ24 a0 a1),.val false [.int .i64 (g_VZ24_0 a0 a1)],[[.own .any true 9 .str (g_VZ24_1 a0 a1)]])
 | _ => none
theorem vZ24 (a0:List ByteArray) (a1:Int):collapseH .std EZ24 OZ24_1 (execFn EZ24 Tryz.f143 msZ24 [.val false [.own .any true 9 .str a0],.val false [.int .i64 a1]]) = some ((g_AZ24 a0 a1),.val false [.int .i64 (g_VZ24_0 a0 a1)],[[.own .any true 9 .str (g_VZ24_1 a0 a1)]]) := by kernel_rfl
theorem sZ24:Sound Tryz.prog 143 msZ24 FZ24 := by
 refine fn_gen goodZ24 (by kernel_rfl) .std (fn := Tryz.f143) (c := (Tryz.f143.body.getD .skip)) (o := OZ24_1) (k := 1) (by kernel_rfl) (by kernel_rfl) (by kernel_rfl) (by kernel_rfl) (by decide) kZ24_1 ?_
 intro ys r outs h
 unfold FZ24 at h
 split at h
 ·exact (vZ24 _ _).trans h
 ·cases h
noncomputable def EZ20:Env where
 tt := mkTI Tryz.prog
 fn := fun f => match f with
  | 143 => some (msZ24,FSem.wk msZ24 FZ24)
  | 144 => some (msZ19,FSem.wk msZ19 FZ19)
  | _ => none
 bxf := fun _ => none
 mv := []
 keep := fun b => match b with
  | 0 => [(0,false),(1,false),(5,false)]
  | _ => []
 keepB := fun b => match b with
  | 0 => []
  | _ => []
 keepX := fun b => match b with
  | 0 => [(0,false),(1,false)]
  | _ => []
 keepXB := fun b => match b with
  | 0 => []
  | _ => []
 nest := [30,37]
theorem goodFZ20:∀ f ms F,EZ20.fn f = some (ms,F) → Sound Tryz.prog f ms F := fun f ms F h => by
 unfold EZ20 at h
 dsimp only at h
 split at h
 ·exact gF sZ24 h
 ·exact gF sZ19 h
 ·cases h
theorem goodZ20:Good Tryz.prog EZ20 := ⟨rfl,goodFZ20,fun f ms F h => by cases h⟩
noncomputable def OZ20_0:Orc := fun _ _ => none
noncomputable def msZ20:List PM := [.«mut»,.own]
noncomputable def lsZ20:List (Nat×Code) := loopsAll 0 (Tryz.f105.body.getD .skip)
noncomputable def cZ20_0:Code := (loopOf 0 (Tryz.f105.body.getD .skip)).getD .skip
theorem lseqZ20:lsZ20 = [(0,cZ20_0)] := by kernel_rfl
theorem mZ20_0:∀ p,p ∈ lsZ20 → p.1 = 0 → p.2 = cZ20_0 := by
 intro p hp
 rw [lseqZ20] at hp
 simp only [List.mem_cons,List.not_mem_nil,or_false] at hp
 subst hp; simp
theorem kZ20_0:OrcOk EZ20 OZ20_0 lsZ20 0 := orcOk_none
noncomputable def hZ20_0 (y0:tL1) (y1:Int) (y2:Int):List (Pl×LV) := [(.T 0,.t (.val false [.row 0 0 0])),(.R 0 0,.r 0 (some ⟨false,.any,true,92,(.pair (.int .i64) (.pair (.int .i64) (.pair (.sl 9 .str) (.sl 155 (.pair .str (.pair .bool (.sl 3 (.int .i64)))))))),y0⟩)),(.T 1,.t (.val false [.int .i64 y1])),(.T 5,.t (.val false [.int .i64 y2]))]
noncomputable abbrev uq1230 (y0:tL1) (y1 y2:Int):tL1 := updE yT2 y0 (Int.toNat y2) fun x => (y1,x.2.1,x.2.2.1,x.2.2.2)
noncomputable abbrev uq1231 (y0:tL1) (y1 y2:Int):tL1 := updE yT2 (uq1230 y0 y1 y2) (Int.toNat y2) fun x => (x.1,IntKind.i64.wrap (y1 + 1),x.2.2.1,x.2.2.2)
noncomputable abbrev uq1232 (y0:tL1) (y1 y2:Int):tL1 := updE yT2 (uq1231 y0 y1 y2) (Int.toNat y2) fun q => (q.1,q.2.1,g_VZ24_1 q.2.2.1 (IntKind.i64.wrap (IntKind.i64.wrap (y1 + 1) + 1)),q.2.2.2)
noncomputable def g_SZ20_0:(tL1×Int×Int) → RT (tL1×Int×Int) ((tL1×Int))
 | (y0,y1,y2) => .br (true) (.br (decide (y2 < (y0.length:Int))) (.br (decide (0 ≤ y2 ∧ y2 < (y0.length:Int))) (.br (decide (Int.toNat y2 < List.length y0)) (.br (true) (.br (decide (0 ≤ y2 ∧ y2 < (↑(List.length (uq1230 y0 y1 y2)):Int))) (.br (decide (Int.toNat y2 < List.length (uq1230 y0 y1 y2))) (.br (true) (.br (decide (0 ≤ y2 ∧ y2 < (↑(List.length (uq1231 y0 y1 y2)):Int))) (.br (decide (Int.toNat y2 < List.length (uq1231 y0 y1 y2))) (.br (g_AZ24 (at_ yT2 (uq1231 y0 y1 y2) (Int.toNat y2)).2.2.1 (IntKind.i64.wrap (IntKind.i64.wrap (y1 + 1) + 1))) (.br (decide (0 ≤ y2 ∧ y2 < (↑(List.length (uq1232 y0 y1 y2)):Int))) (.br (decide (Int.toNat y2 < List.length (uq1232 y0 y1 y2))) (.br (g_AZ19 (at_ yT2 (uq1232 y0 y1 y2) (Int.toNat y2)).2.2.2 (g_VZ24_0 (at_ yT2 (uq1231 y0 y1 y2) (Int.toNat y2)).2.2.1 (IntKind.i64.wrap (IntKind.i64.wrap (y1 + 1) + 1)))) (.br (true) (.go ((updE yT2 (uq1232 y0 y1 y2) (Int.toNat y2) fun q => (q.1,q.2.1,q.2.2.1,g_VZ19_1 q.2.2.2 (g_VZ24_0 (at_ yT2 (uq1231 y0 y1 y2) (Int.toNat y2)).2.2.1 (IntKind.i64.wrap (IntKind.i64.wrap (y1 + 1) + 1)))),g_VZ19_0 (at_ yT2 (uq1232 y0 y1 y2) (Int.toNat y2)).2.2.2 (g_VZ24_0 (at_ yT2 (uq1231 y0 y1 y2) (Int.toNat y2)).2.2.1 (IntKind.i64.wrap (IntKind.i64.wrap (y1 + 1) + 1))),IntKind.i64.wrap (y2 + 1)))) .bad) .bad) .bad) .bad) .bad) .bad) .bad) .bad) .bad) .bad) .bad) .bad) .bad) (.out ((y0,y1)))) .bad
noncomputable def g_LZ20_0 (x:tL1×Int×Int):Option ((tL1×Int)) := loopO (g_SZ20_0) x
noncomputable def xZ20_0:((tL1×Int)) → Ex×List (Pl×LV) := fun r => (.exit 0,[(.T 0,.t (.val false [.row 0 0 0])),(.R 0 0,.r 0 (some ⟨false,.any,true,92,(.pair (.int .i64) (.pair (.int .i64) (.pair (.sl 9 .str) (.sl 155 (.pair .str (.pair .bool (.sl 3 (.int .i64)))))))),r.1⟩)),(.T 1,.t (.val false [.int .i64 r.2]))])
noncomputable def OZ20_1:Orc := fun b h => match b,h with
 | 0,[(.T 0,.t (.val false [.row 0 0 0])),(.R 0 0,.r 0 (some ⟨false,.any,true,92,(.pair (.int .i64) (.pair (.int .i64) (.pair (.sl 9 .str) (.sl 155 (.pair .str (.pair .bool (.sl 3 (.int .i64)))))))),y0⟩)),(.T 1,.t (.val false [.int .i64 y1])),(.T 5,.t (.val false [.int .i64 y2]))] => some (okO (g_LZ20_0 (y0,y1,y2)),(.leaf (.exit 0) [(.T 0,.t (.val false [.row 0 0 0])),(.R 0 0,.r 0 (some ⟨false,.any,true,92,(.pair (.int .i64) (.pair (.int .i64) (.pair (.sl 9 .str) (.sl 155 (.pair .str (.pair .bool (.sl 3 (.int .i64)))))))),(valO (g_LZ20_0 (y0,y1,y2))).1⟩)),(.T 1,.t (.val false [.int .i64 (valO (g_LZ20_0 (y0,y1,y2))).2]))]))
 | b,h => OZ20_0 b h
theorem bZ20_0 (y0:tL1) (y1:Int) (y2:Int):Tr.bt EZ20 OZ20_0 (exec EZ20 0 cZ20_0 (St.of (hZ20_0 y0 y1 y2)) (leafRd EZ20 0)) = (g_SZ20_0 (y0,y1,y2)).bt (fun ((y0,y1,y2):tL1×Int×Int) => (hZ20_0 y0 y1 y2)) (xZ20_0) := by kernel_rfl
theorem kZ20_1:OrcOk EZ20 OZ20_1 lsZ20 1 := orc_add kZ20_0 (fun n p hp h ex h' ho => by
 obtain ⟨b,c⟩ := p
 obtain ⟨xt,h1,h2⟩ := ho
 have h1:OZ20_1 b h = some (true,xt) := h1
 unfold OZ20_1 at h1
 split at h1
 ·injection h1 with h1
  injection h1 with e1 e2
  subst e2
  have hc:c = cZ20_0 := mZ20_0 _ hp rfl
  subst hc
  right
  rename_i y0 y1 y2
  have key := LT_step kZ20_0 hp (fun q hq => loopsAll_in _ _ _ _ hp hq) (fun ((y0,y1,y2):tL1×Int×Int) => (hZ20_0 y0 y1 y2)) (xZ20_0) (g_SZ20_0) (fun x => by first | exact bZ20_0 x.1 x.2.1 x.2.2) n (x := (y0,y1,y2)) (okO_some e1)
  have hx:∀ r,XT.sel (.leaf (.exit 0) [(.T 0,.t (.val false [.row 0 0 0])),(.R 0 0,.r 0 (some ⟨false,.any,true,92,(.pair (.int .i64) (.pair (.int .i64) (.pair (.sl 9 .str) (.sl 155 (.pair .str (.pair .bool (.sl 3 (.int .i64)))))))),r.1⟩)),(.T 1,.t (.val false [.int .i64 r.2]))]) = xZ20_0 r := fun r => by first | rfl | rcases r with r | r <;> rfl | rcases r with r | r | r <;> rfl | rcases r with r | r | r | r <;> rfl
  have h3 := (hx (valO (g_LZ20_0 (y0,y1,y2)))).symm.trans h2
  have e3 := congrArg Prod.fst h3
  have e4 := congrArg Prod.snd h3
  simp only at e3 e4
  rw [← e3,← e4]
  exact key
 ·exact .inl ⟨xt,h1,h2⟩)
noncomputable def g_AZ20 (a0:tL1) (a1:Int):Bool := okO (g_LZ20_0 (a0,a1,(0:Int)))
noncomputable def g_VZ20_0 (a0:tL1) (a1:Int):Int := (valO (g_LZ20_0 (a0,a1,(0:Int)))).2
noncomputable def g_VZ20_1 (a0:tL1) (a1:Int):tL1 := (valO (g_LZ20_0 (a0,a1,(0:Int)))).1
noncomputable def FZ20:FSem := fun ys => match ys with
 | [.val false [.own .any true 92 (.pair (.int .i64) (.pair (.int .i64) (.pair (.sl 9 .str) (.sl 155 (.pair .str (.pair .bool (.sl 3 (.int .i64)))))))) a0],.val false [.int .i64 a1]] => some ((g_AZ20 a0 a1),.val false [.int .i64 (g_VZ20_0 a0 a1)],[[.own .any true 92 (.pair (.int .i64) (.pair (.int .i64) (.pair (.sl 9 .str) (.sl 155 (.pair .str (.pair .bool (.sl 3 (.int .i64)))))))) (g_VZ20_1 a0 a1)]])
 | _ => none
theorem vZ20 (a0:tL1) (a1:Int):collapseH .std EZ20 OZ20_1 (execFn EZ20 Tryz.f105 msZ20 [.val false [.own .any true 92 (.pair (.int .i64) (.pair (.int .i64) (.pair (.sl 9 .str) (.sl 155 (.pair .str (.pair .bool (.sl 3 (.int .i64)))))))) a0],.val false [.int .i64 a1]]) = some ((g_AZ20 a0 a1),.val false [.int .i64 (g_VZ20_0 a0 a1)],[[.own .any true 92 (.pair (.int .i64) (.pair (.int .i64) (.pair (.sl 9 .str) (.sl 155 (.pair .str (.pair .bool (.sl 3 (.int .i64)))))))) (g_VZ20_1 a0 a1)]]) := by kernel_rfl
theorem sZ20:Sound Tryz.prog 105 msZ20 FZ20 := by
 refine fn_gen goodZ20 (by kernel_rfl) .std (fn := Tryz.f105) (c := (Tryz.f105.body.getD .skip)) (o := OZ20_1) (k := 1) (by kernel_rfl) (by kernel_rfl) (by kernel_rfl) (by kernel_rfl) (by decide) kZ20_1 ?_
 intro ys r outs h
 unfold FZ20 at h
 split at h
 ·exact (vZ20 _ _).trans h
 ·cases h
noncomputable def EZ25:Env where
 tt := mkTI Tryz.prog
 fn := fun f => match f with
  | 105 => some (msZ20,FSem.wk msZ20 FZ20)
  | _ => none
 bxf := fun _ => none
 mv := []
 keep := fun _ => []
 keepB := fun _ => []
 keepX := fun _ => []
 keepXB := fun _ => []
theorem goodFZ25:∀ f ms F,EZ25.fn f = some (ms,F) → Sound Tryz.prog f ms F := fun f ms F h => by
 unfold EZ25 at h
 dsimp only at h
 split at h
 ·exact gF sZ20 h
 ·cases h
theorem goodZ25:Good Tryz.prog EZ25 := ⟨rfl,goodFZ25,fun f ms F h => by cases h⟩
noncomputable def OZ25_0:Orc := fun _ _ => none
noncomputable def msZ25:List PM := [.«mut»,.own]
noncomputable def lsZ25:List (Nat×Code) := loopsAll 0 (Tryz.f44.body.getD .skip)
theorem kZ25_0:OrcOk EZ25 OZ25_0 lsZ25 0 := orcOk_none
noncomputable def g_AZ25 (a0:tL1) (a1:Int) (a2:Int):Bool := g_AZ20 a0 a2
noncomputable def FZ25:FSem := fun ys => match ys with
 | [.val true [.own .any true 92 (.pair (.int .i64) (.pair (.int .i64) (.pair (.sl 9 .str) (.sl 155 (.pair .str (.pair .bool (.sl 3 (.int .i64)))))))) a0,.int .i64 a1],.val false [.int .i64 a2]] => some ((g_AZ25 a0 a1 a2),.val false [.int .i64 (g_VZ20_0 a0 a2)],[[.own .any true 92 (.pair (.int .i64) (.pair (.int .i64) (.pair (.sl 9 .str) (.sl 155 (.pair .str (.pair .bool (.sl 3 (.int .i64)))))))) (g_VZ20_1 a0 a2),.int .i64 a1]])
 | _ => none
theorem vZ25 (a0:tL1) (a1:Int) (a2:Int):collapseH .std EZ25 OZ25_0 (execFn EZ25 Tryz.f44 msZ25 [.val true [.own .any true 92 (.pair (.int .i64) (.pair (.int .i64) (.pair (.sl 9 .str) (.sl 155 (.pair .str (.pair .bool (.sl 3 (.int .i64)))))))) a0,.int .i64 a1],.val false [.int .i64 a2]]) = some ((g_AZ25 a0 a1 a2),.val false [.int .i64 (g_VZ20_0 a0 a2)],[[.own .any true 92 (.pair (.int .i64) (.pair (.int .i64) (.pair (.sl 9 .str) (.sl 155 (.pair .str (.pair .bool (.sl 3 (.int .i64)))))))) (g_VZ20_1 a0 a2),.int .i64 a1]]) := by kernel_rfl
theorem sZ25:Sound Tryz.prog 44 msZ25 FZ25 := by
 refine fn_gen goodZ25 (by kernel_rfl) .std (fn := Tryz.f44) (c := (Tryz.f44.body.getD .skip)) (o := OZ25_0) (k := 0) (by kernel_rfl) (by kernel_rfl) (by kernel_rfl) (by kernel_rfl) (by decide) kZ25_0 ?_
 intro ys r outs h
 unfold FZ25 at h
 split at h
 ·exact (vZ25 _ _ _).trans h
 ·cases h
noncomputable def EZ21:Env where
 tt := mkTI Tryz.prog
 fn := fun f => match f with
  | 44 => some (msZ25,FSem.wk msZ25 FZ25)
  | 45 => some (msZ34,FSem.wk msZ34 FZ34)
  | _ => none
 bxf := fun _ => none
 mv := []
 keep := fun _ => []
 keepB := fun _ => []
 keepX := fun _ => []
 keepXB := fun _ => []
theorem goodFZ21:∀ f ms F,EZ21.fn f = some (ms,F) → Sound Tryz.prog f ms F := fun f ms F h => by
 unfold EZ21 at h
 dsimp only at h
 split at h
 ·exact gF sZ25 h
 ·exact gF sZ34 h
 ·cases h
theorem goodZ21:Good Tryz.prog EZ21 := ⟨rfl,goodFZ21,fun f ms F h => by cases h⟩
noncomputable def OZ21_0:Orc := fun _ _ => none
noncomputable def msZ21:List PM := [.«mut»,.own]
noncomputable def lsZ21:List (Nat×Code) := loopsAll 0 (Tryz.f13.body.getD .skip)
theorem kZ21_0:OrcOk EZ21 OZ21_0 lsZ21 0 := orcOk_none
noncomputable def g_AZ21 (a0:tL1) (a1:Int) (a2:tL0) (a3:Int):Bool := g_AZ25 a0 a1 a3&&g_AZ34 a2 (g_VZ20_0 a0 a3)
noncomputable def FZ21:FSem := fun ys => match ys with
 | [.val true [.own .any true 92 (.pair (.int .i64) (.pair (.int .i64) (.pair (.sl 9 .str) (.sl 155 (.pair .str (.pair .bool (.sl 3 (.int .i64)))))))) a0,.int .i64 a1,.own .any true 73 (.pair (.int .i64) (.pair (.pair (.int .i64) (.pair (.int .i64) (.pair (.int .i64) (.pair (.int .i64) (.pair (.int .i64) (.pair (.int .i64) (.int .i64))))))) (.pair .bool (.pair (.sl 3 (.int .i64)) (.sl 3 (.int .i64)))))) a2],.val false [.int .i64 a3]] => some ((g_AZ21 a0 a1 a2 a3),.val false [.int .i64 (g_VZ34_0 a2 (g_VZ20_0 a0 a3))],[[.own .any true 92 (.pair (.int .i64) (.pair (.int .i64) (.pair (.sl 9 .str) (.sl 155 (.pair .str (.pair .bool (.sl 3 (.int .i64)))))))) (g_VZ20_1 a0 a3),.int .i64 a1,.own .any true 73 (.pair (.int .i64) (.pair (.pair (.int .i64) (.pair (.int .i64) (.pair (.int .i64) (.pair (.int .i64) (.pair (.int .i64) (.pair (.int .i64) (.int .i64))))))) (.pair .bool (.pair (.sl 3 (.int .i64)) (.sl 3 (.int .i64)))))) (g_VZ34_1 a2 (g_VZ20_0 a0 a3))]])
 | _ => none
theorem vZ21 (a0:tL1) (a1:Int) (a2:tL0) (a3:Int):collapseH .std EZ21 OZ21_0 (execFn EZ21 Tryz.f13 msZ21 [.val true [.own .any true 92 (.pair (.int .i64) (.pair (.int .i64) (.pair (.sl 9 .str) (.sl 155 (.pair .str (.pair .bool (.sl 3 (.int .i64)))))))) a0,.int .i64 a1,.own .any true 73 (.pair (.int .i64) (.pair (.pair (.int .i64) (.pair (.int .i64) (.pair (.int .i64) (.pair (.int .i64) (.pair (.int .i64) (.pair (.int .i64) (.int .i64))))))) (.pair .bool (.pair (.sl 3 (.int .i64)) (.sl 3 (.int .i64)))))) a2],.val false [.int .i64 a3]]) = some ((g_AZ21 a0 a1 a2 a3),.val false [.int .i64 (g_VZ34_0 a2 (g_VZ20_0 a0 a3))],[[.own .any true 92 (.pair (.int .i64) (.pair (.int .i64) (.pair (.sl 9 .str) (.sl 155 (.pair .str (.pair .bool (.sl 3 (.int .i64)))))))) (g_VZ20_1 a0 a3),.int .i64 a1,.own .any true 73 (.pair (.int .i64) (.pair (.pair (.int .i64) (.pair (.int .i64) (.pair (.int .i64) (.pair (.int .i64) (.pair (.int .i64) (.pair (.int .i64) (.int .i64))))))) (.pair .bool (.pair (.sl 3 (.int .i64)) (.sl 3 (.int .i64)))))) (g_VZ34_1 a2 (g_VZ20_0 a0 a3))]]) := by kernel_rfl
theorem sZ21:Sound Tryz.prog 13 msZ21 FZ21 := by
 refine fn_gen goodZ21 (by kernel_rfl) .std (fn := Tryz.f13) (c := (Tryz.f13.body.getD .skip)) (o := OZ21_0) (k := 0) (by kernel_rfl) (by kernel_rfl) (by kernel_rfl) (by kernel_rfl) (by decide) kZ21_0 ?_
 intro ys r outs h
 unfold FZ21 at h
 split at h
 ·exact (vZ21 _ _ _ _).trans h
 ·cases h
noncomputable def EZ26:Env where
 tt := mkTI Tryz.prog
 fn := fun _ => none
 bxf := fun _ => none
 mv := []
 keep := fun b => match b with
  | 0 => [(0,false),(1,false),(5,false)]
  | _ => []
 keepB := fun b => match b with
  | 0 => []
  | _ => []
 keepX := fun b => match b with
  | 0 => [(0,false),(1,false)]
  | _ => []
 keepXB := fun b => match b with
  | 0 => []
  | _ => []
theorem goodFZ26:∀ f ms F,EZ26.fn f = some (ms,F) → Sound Tryz.prog f ms F := fun f ms F h => by cases h
theorem goodZ26:Good Tryz.prog EZ26 := ⟨rfl,goodFZ26,fun f ms F h => by cases h⟩
noncomputable def OZ26_0:Orc := fun _ _ => none
noncomputable def msZ26:List PM := [.«mut»,.own]
noncomputable def lsZ26:List (Nat×Code) := loopsAll 0 (Tryz.f14.body.getD .skip)
noncomputable def cZ26_0:Code := (loopOf 0 (Tryz.f14.body.getD .skip)).getD .skip
theorem lseqZ26:lsZ26 = [(0,cZ26_0)] := by kernel_rfl
theorem mZ26_0:∀ p,p ∈ lsZ26 → p.1 = 0 → p.2 = cZ26_0 := by
 intro p hp
 rw [lseqZ26] at hp
 simp only [List.mem_cons,List.not_mem_nil,or_false] at hp
 subst hp; simp
theorem kZ26_0:OrcOk EZ26 OZ26_0 lsZ26 0 := orcOk_none
noncomputable def hZ26_0 (y0:tL2) (y1:Int) (y2:Int):List (Pl×LV) := [(.T 0,.t (.val false [.row 0 0 0])),(.R 0 0,.r 0 (some ⟨false,.any,true,83,(.pair (.int .i64) (.pair (.int .i64) (.pair (.int .i64) (.pair (.int .i64) (.pair (.int .i64) (.pair (.int .i64) (.pair (.int .i64) (.pair (.int .i64) (.pair (.int .i64) (.pair (.int .i64) (.int .i64))))))))))),y0⟩)),(.T 1,.t (.val false [.int .i64 y1])),(.T 5,.t (.val false [.int .i64 y2]))]
noncomputable abbrev uq1260 (y0:tL2) (y1 y2:Int):tL2 := updE yT1 y0 (Int.toNat y2) fun x => (y1,x.2.1,x.2.2.1,x.2.2.2.1,x.2.2.2.2.1,x.2.2.2.2.2.1,x.2.2.2.2.2.2.1,x.2.2.2.2.2.2.2.1,x.2.2.2.2.2.2.2.2.1,x.2.2.2.2.2.2.2.2.2.1,x.2.2.2.2.2.2.2.2.2.2)
noncomputable abbrev uq1261 (y0:tL2) (y1 y2:Int):tL2 := updE yT1 (uq1260 y0 y1 y2) (Int.toNat y2) fun x => (x.1,IntKind.i64.wrap (y1 + 1),x.2.2.1,x.2.2.2.1,x.2.2.2.2.1,x.2.2.2.2.2.1,x.2.2.2.2.2.2.1,x.2.2.2.2.2.2.2.1,x.2.2.2.2.2.2.2.2.1,x.2.2.2.2.2.2.2.2.2.1,x.2.2.2.2.2.2.2.2.2.2)
noncomputable abbrev uq1262 (y0:tL2) (y1 y2:Int):tL2 := updE yT1 (uq1261 y0 y1 y2) (Int.toNat y2) fun x => (x.1,x.2.1,IntKind.i64.wrap (IntKind.i64.wrap (y1 + 1) + 1),x.2.2.2.1,x.2.2.2.2.1,x.2.2.2.2.2.1,x.2.2.2.2.2.2.1,x.2.2.2.2.2.2.2.1,x.2.2.2.2.2.2.2.2.1,x.2.2.2.2.2.2.2.2.2.1,x.2.2.2.2.2.2.2.2.2.2)
noncomputable abbrev uq1263 (y0:tL2) (y1 y2:Int):tL2 := updE yT1 (uq1262 y0 y1 y2) (Int.toNat y2) fun x => (x.1,x.2.1,x.2.2.1,IntKind.i64.wrap (IntKind.i64.wrap (IntKind.i64.wrap (y1 + 1) + 1) + 1),x.2.2.2.2.1,x.2.2.2.2.2.1,x.2.2.2.2.2.2.1,x.2.2.2.2.2.2.2.1,x.2.2.2.2.2.2.2.2.1,x.2.2.2.2.2.2.2.2.2.1,x.2.2.2.2.2.2.2.2.2.2)
noncomputable abbrev uq1264 (y0:tL2) (y1 y2:Int):tL2 := updE yT1 (uq1263 y0 y1 y2) (Int.toNat y2) fun x => (x.1,x.2.1,x.2.2.1,x.2.2.2.1,IntKind.i64.wrap (IntKind.i64.wrap (IntKind.i64.wrap (IntKind.i64.wrap (y1 + 1) + 1) + 1) + 1),x.2.2.2.2.2.1,x.2.2.2.2.2.2.1,x.2.2.2.2.2.2.2.1,x.2.2.2.2.2.2.2.2.1,x.2.2.2.2.2.2.2.2.2.1,x.2.2.2.2.2.2.2.2.2.2)
noncomputable abbrev uq1265 (y0:tL2) (y1 y2:Int):tL2 := updE yT1 (uq1264 y0 y1 y2) (Int.toNat y2) fun x => (x.1,x.2.1,x.2.2.1,x.2.2.2.1,x.2.2.2.2.1,IntKind.i64.wrap (IntKind.i64.wrap (IntKind.i64.wrap (IntKind.i64.wrap (IntKind.i64.wrap (y1 + 1) + 1) + 1) + 1) + 1),x.2.2.2.2.2.2.1,x.2.2.2.2.2.2.2.1,x.2.2.2.2.2.2.2.2.1,x.2.2.2.2.2.2.2.2.2.1,x.2.2.2.2.2.2.2.2.2.2)
noncomputable abbrev uq1266 (y0:tL2) (y1 y2:Int):tL2 := updE yT1 (uq1265 y0 y1 y2) (Int.toNat y2) fun x => (x.1,x.2.1,x.2.2.1,x.2.2.2.1,x.2.2.2.2.1,x.2.2.2.2.2.1,IntKind.i64.wrap (IntKind.i64.wrap (IntKind.i64.wrap (IntKind.i64.wrap (IntKind.i64.wrap (IntKind.i64.wrap (y1 + 1) + 1) + 1) + 1) + 1) + 1),x.2.2.2.2.2.2.2.1,x.2.2.2.2.2.2.2.2.1,x.2.2.2.2.2.2.2.2.2.1,x.2.2.2.2.2.2.2.2.2.2)
noncomputable abbrev uq1267 (y0:tL2) (y1 y2:Int):tL2 := updE yT1 (uq1266 y0 y1 y2) (Int.toNat y2) fun x => (x.1,x.2.1,x.2.2.1,x.2.2.2.1,x.2.2.2.2.1,x.2.2.2.2.2.1,x.2.2.2.2.2.2.1,IntKind.i64.wrap (IntKind.i64.wrap (IntKind.i64.wrap (IntKind.i64.wrap (IntKind.i64.wrap (IntKind.i64.wrap (IntKind.i64.wrap (y1 + 1) + 1) + 1) + 1) + 1) + 1) + 1),x.2.2.2.2.2.2.2.2.1,x.2.2.2.2.2.2.2.2.2.1,x.2.2.2.2.2.2.2.2.2.2)
noncomputable abbrev uq1268 (y0:tL2) (y1 y2:Int):tL2 := updE yT1 (uq1267 y0 y1 y2) (Int.toNat y2) fun x => (x.1,x.2.1,x.2.2.1,x.2.2.2.1,x.2.2.2.2.1,x.2.2.2.2.2.1,x.2.2.2.2.2.2.1,x.2.2.2.2.2.2.2.1,IntKind.i64.wrap (IntKind.i64.wrap (IntKind.i64.wrap (IntKind.i64.wrap (IntKind.i64.wrap (IntKind.i64.wrap (IntKind.i64.wrap (IntKind.i64.wrap (y1 + 1) + 1) + 1) + 1) + 1) + 1) + 1) + 1),x.2.2.2.2.2.2.2.2.2.1,x.2.2.2.2.2.2.2.2.2.2)
noncomputable abbrev uq1269 (y0:tL2) (y1 y2:Int):tL2 := updE yT1 (uq1268 y0 y1 y2) (Int.toNat y2) fun x => (x.1,x.2.1,x.2.2.1,x.2.2.2.1,x.2.2.2.2.1,x.2.2.2.2.2.1,x.2.2.2.2.2.2.1,x.2.2.2.2.2.2.2.1,x.2.2.2.2.2.2.2.2.1,IntKind.i64.wrap (IntKind.i64.wrap (IntKind.i64.wrap (IntKind.i64.wrap (IntKind.i64.wrap (IntKind.i64.wrap (IntKind.i64.wrap (IntKind.i64.wrap (IntKind.i64.wrap (y1 + 1) + 1) + 1) + 1) + 1) + 1) + 1) + 1) + 1),x.2.2.2.2.2.2.2.2.2.2)
noncomputable def g_SZ26_0:(tL2×Int×Int) → RT (tL2×Int×Int) ((tL2×Int))
 | (y0,y1,y2) => .br (true) (.br (decide (y2 < (y0.length:Int))) (.br (decide (0 ≤ y2 ∧ y2 < (y0.length:Int))) (.br (decide (Int.toNat y2 < List.length y0)) (.br (true) (.br (decide (0 ≤ y2 ∧ y2 < (↑(List.length (uq1260 y0 y1 y2)):Int))) (.br (decide (Int.toNat y2 < List.length (uq1260 y0 y1 y2))) (.br (true) (.br (decide (0 ≤ y2 ∧ y2 < (↑(List.length (uq1261 y0 y1 y2)):Int))) (.br (decide (Int.toNat y2 < List.length (uq1261 y0 y1 y2))) (.br (true) (.br (decide (0 ≤ y2 ∧ y2 < (↑(List.length (uq1262 y0 y1 y2)):Int))) (.br (decide (Int.toNat y2 < List.length (uq1262 y0 y1 y2))) (.br (true) (.br (decide (0 ≤ y2 ∧ y2 < (↑(List.length (uq1263 y0 y1 y2)):Int))) (.br (decide (Int.toNat y2 < List.length (uq1263 y0 y1 y2))) (.br (true) (.br (decide (0 ≤ y2 ∧ y2 < (↑(List.length (uq1264 y0 y1 y2)):Int))) (.br (decide (Int.toNat y2 < List.length (uq1264 y0 y1 y2))) (.br (true) (.br (decide (0 ≤ y2 ∧ y2 < (↑(List.length (uq1265 y0 y1 y2)):Int))) (.br (decide (Int.toNat y2 < List.length (uq1265 y0 y1 y2))) (.br (true) (.br (decide (0 ≤ y2 ∧ y2 < (↑(List.length (uq1266 y0 y1 y2)):Int))) (.br (decide (Int.toNat y2 < List.length (uq1266 y0 y1 y2))) (.br (true) (.br (decide (0 ≤ y2 ∧ y2 < (↑(List.length (uq1267 y0 y1 y2)):Int))) (.br (decide (Int.toNat y2 < List.length (uq1267 y0 y1 y2))) (.br (true) (.br (decide (0 ≤ y2 ∧ y2 < (↑(List.length (uq1268 y0 y1 y2)):Int))) (.br (decide (Int.toNat y2 < List.length (uq1268 y0 y1 y2))) (.br (true) (.br (decide (0 ≤ y2 ∧ y2 < (↑(List.length (uq1269 y0 y1 y2)):Int))) (.br (decide (Int.toNat y2 < List.length (uq1269 y0 y1 y2))) (.br (true) (.br (true) (.go ((updE yT1 (uq1269 y0 y1 y2) (Int.toNat y2) fun x => (x.1,x.2.1,x.2.2.1,x.2.2.2.1,x.2.2.2.2.1,x.2.2.2.2.2.1,x.2.2.2.2.2.2.1,x.2.2.2.2.2.2.2.1,x.2.2.2.2.2.2.2.2.1,x.2.2.2.2.2.2.2.2.2.1,IntKind.i64.wrap (IntKind.i64.wrap (IntKind.i64.wrap (IntKind.i64.wrap (IntKind.i64.wrap (IntKind.i64.wrap (IntKind.i64.wrap (IntKind.i64.wrap (IntKind.i64.wrap (IntKind.i64.wrap (y1 + 1) + 1) + 1) + 1) + 1) + 1) + 1) + 1) + 1) + 1)),IntKind.i64.wrap (IntKind.i64.wrap (IntKind.i64.wrap (IntKind.i64.wrap (IntKind.i64.wrap (IntKind.i64.wrap (IntKind.i64.wrap (IntKind.i64.wrap (IntKind.i64.wrap (IntKind.i64.wrap (IntKind.i64.wrap (y1 + 1) + 1) + 1) + 1) + 1) + 1) + 1) + 1) + 1) + 1) + 1),IntKind.i64.wrap (y2 + 1)))) .bad) .bad) .bad) .bad) .bad) .bad) .bad) .bad) .bad) .bad) .bad) .bad) .bad) .bad) .bad) .bad) .bad) .bad) .bad) .bad) .bad) .bad) .bad) .bad) .bad) .bad) .bad) .bad) .bad) .bad) .bad) .bad) .bad) .bad) (.out ((y0,y1)))) .bad
noncomputable def g_LZ26_0 (x:tL2×Int×Int):Option ((tL2×Int)) := loopO (g_SZ26_0) x
noncomputable def xZ26_0:((tL2×Int)) → Ex×List (Pl×LV) := fun r => (.exit 0,[(.T 0,.t (.val false [.row 0 0 0])),(.R 0 0,.r 0 (some ⟨false,.any,true,83,(.pair (.int .i64) (.pair (.int .i64) (.pair (.int .i64) (.pair (.int .i64) (.pair (.int .i64) (.pair (.int .i64) (.pair (.int .i64) (.pair (.int .i64) (.pair (.int .i64) (.pair (.int .i64) (.int .i64))))))))))),r.1⟩)),(.T 1,.t (.val false [.int .i64 r.2]))])
noncomputable def OZ26_1:Orc := fun b h => match b,h with
 | 0,[(.T 0,.t (.val false [.row 0 0 0])),(.R 0 0,.r 0 (some ⟨false,.any,true,83,(.pair (.int .i64) (.pair (.int .i64) (.pair (.int .i64) (.pair (.int .i64) (.pair (.int .i64) (.pair (.int .i64) (.pair (.int .i64) (.pair (.int .i64) (.pair (.int .i64) (.pair (.int .i64) (.int .i64))))))))))),y0⟩)),(.T 1,.t (.val false [.int .i64 y1])),(.T 5,.t (.val false [.int .i64 y2]))] => some (okO (g_LZ26_0 (y0,y1,y2)),(.leaf (.exit 0) [(.T 0,.t (.val false [.row 0 0 0])),(.R 0 0,.r 0 (some ⟨false,.any,true,83,(.pair (.int .i64) (.pair (.int .i64) (.pair (.int .i64) (.pair (.int .i64) (.pair (.int .i64) (.pair (.int .i64) (.pair (.int .i64) (.pair (.int .i64) (.pair (.int .i64) (.pair (.int .i64) (.int .i64))))))))))),(valO (g_LZ26_0 (y0,y1,y2))).1⟩)),(.T 1,.t (.val false [.int .i64 (valO (g_LZ26_0 (y0,y1,y2))).2]))]))
 | b,h => OZ26_0 b h
theorem bZ26_0 (y0:tL2) (y1:Int) (y2:Int):Tr.bt EZ26 OZ26_0 (exec EZ26 0 cZ26_0 (St.of (hZ26_0 y0 y1 y2)) (leafRd EZ26 0)) = (g_SZ26_0 (y0,y1,y2)).bt (fun ((y0,y1,y2):tL2×Int×Int) => (hZ26_0 y0 y1 y2)) (xZ26_0) := by kernel_rfl
theorem kZ26_1:OrcOk EZ26 OZ26_1 lsZ26 1 := orc_add kZ26_0 (fun n p hp h ex h' ho => by
 obtain ⟨b,c⟩ := p
 obtain ⟨xt,h1,h2⟩ := ho
 have h1:OZ26_1 b h = some (true,xt) := h1
 unfold OZ26_1 at h1
 split at h1
 ·injection h1 with h1
  injection h1 with e1 e2
  subst e2
  have hc:c = cZ26_0 := mZ26_0 _ hp rfl
  subst hc
  right
  rename_i y0 y1 y2
  have key := LT_step kZ26_0 hp (fun q hq => loopsAll_in _ _ _ _ hp hq) (fun ((y0,y1,y2):tL2×Int×Int) => (hZ26_0 y0 y1 y2)) (xZ26_0) (g_SZ26_0) (fun x => by first | exact bZ26_0 x.1 x.2.1 x.2.2) n (x := (y0,y1,y2)) (okO_some e1)
  have hx:∀ r,XT.sel (.leaf (.exit 0) [(.T 0,.t (.val false [.row 0 0 0])),(.R 0 0,.r 0 (some ⟨false,.any,true,83,(.pair (.int .i64) (.pair (.int .i64) (.pair (.int .i64) (.pair (.int .i64) (.pair (.int .i64) (.pair (.int .i64) (.pair (.int .i64) (.pair (.int .i64) (.pair (.int .i64) (.pair (.int .i64) (.int .i64))))))))))),r.1⟩)),(.T 1,.t (.val false [.int .i64 r.2]))]) = xZ26_0 r := fun r => by first | rfl | rcases r with r | r <;> rfl | rcases r with r | r | r <;> rfl | rcases r with r | r | r | r <;> rfl
  have h3 := (hx (valO (g_LZ26_0 (y0,y1,y2)))).symm.trans h2
  have e3 := congrArg Prod.fst h3
  have e4 := congrArg Prod.snd h3
  simp only at e3 e4
  rw [← e3,← e4]
  exact key
 ·exact .inl ⟨xt,h1,h2⟩)
noncomputable def g_AZ26 (a0:tL2) (a1:Int):Bool := okO (g_LZ26_0 (a0,a1,(0:Int)))
noncomputable def g_VZ26_0 (a0:tL2) (a1:Int):Int := (valO (g_LZ26_0 (a0,a1,(0:Int)))).2
noncomputable def g_VZ26_1 (a0:tL2) (a1:Int):tL2 := (valO (g_LZ26_0 (a0,a1,(0:Int)))).1
noncomputable def FZ26:FSem := fun ys => match ys with
 | [.val false [.own .any true 83 (.pair (.int .i64) (.pair (.int .i64) (.pair (.int .i64) (.pair (.int .i64) (.pair (.int .i64) (.pair (.int .i64) (.pair (.int .i64) (.pair (.int .i64) (.pair (.int .i64) (.pair (.int .i64) (.int .i64))))))))))) a0],.val false [.int .i64 a1]] => some ((g_AZ26 a0 a1),.val false [.int .i64 (g_VZ26_0 a0 a1)],[[.own .any true 83 (.pair (.int .i64) (.pair (.int .i64) (.pair (.int .i64) (.pair (.int .i64) (.pair (.int .i64) (.pair (.int .i64) (.pair (.int .i64) (.pair (.int .i64) (.pair (.int .i64) (.pair (.int .i64) (.int .i64))))))))))) (g_VZ26_1 a0 a1)]])
 | _ => none
theorem vZ26 (a0:tL2) (a1:Int):collapseH .std EZ26 OZ26_1 (execFn EZ26 Tryz.f14 msZ26 [.val false [.own .any true 83 (.pair (.int .i64) (.pair (.int .i64) (.pair (.int .i64) (.pair (.int .i64) (.pair (.int .i64) (.pair (.int .i64) (.pair (.int .i64) (.pair (.int .i64) (.pair (.int .i64) (.pair (.int .i64) (.int .i64))))))))))) a0],.val false [.int .i64 a1]]) = some ((g_AZ26 a0 a1),.val false [.int .i64 (g_VZ26_0 a0 a1)],[[.own .any true 83 (.pair (.int .i64) (.pair (.int .i64) (.pair (.int .i64) (.pair (.int .i64) (.pair (.int .i64) (.pair (.int .i64) (.pair (.int .i64) (.pair (.int .i64) (.pair (.int .i64) (.pair (.int .i64) (.int .i64))))))))))) (g_VZ26_1 a0 a1)]]) := by kernel_rfl
theorem sZ26:Sound Tryz.prog 14 msZ26 FZ26 := by
 refine fn_gen goodZ26 (by kernel_rfl) .std (fn := Tryz.f14) (c := (Tryz.f14.body.getD .skip)) (o := OZ26_1) (k := 1) (by kernel_rfl) (by kernel_rfl) (by kernel_rfl) (by kernel_rfl) (by decide) kZ26_1 ?_
 intro ys r outs h
 unfold FZ26 at h
 split at h
 ·exact (vZ26 _ _).trans h
 ·cases h
noncomputable def Ew_szIntS:Env where
 tt := mkTI Tryz.prog
 fn := fun _ => none
 bxf := fun _ => none
 mv := []
 keep := fun _ => []
 keepB := fun _ => []
 keepX := fun _ => []
 keepXB := fun _ => []
theorem goodFw_szIntS:∀ f ms F,Ew_szIntS.fn f = some (ms,F) → Sound Tryz.prog f ms F := fun f ms F h => by cases h
theorem goodw_szIntS:Good Tryz.prog Ew_szIntS := ⟨rfl,goodFw_szIntS,fun f ms F h => by cases h⟩
noncomputable def Ow_szIntS_0:Orc := fun _ _ => none
noncomputable def msw_szIntS:List PM := [.rd,.own]
noncomputable def lsw_szIntS:List (Nat×Code) := loopsAll 0 (Tryz.f133.body.getD .skip)
theorem kw_szIntS_0:OrcOk Ew_szIntS Ow_szIntS_0 lsw_szIntS 0 := orcOk_none
noncomputable def g_Vw_szIntS_0 (a0:List Int) (a1:Int):Int := bif decide (IntKind.i64.wrap (a1 - (a0.length:Int)) < 0) then (-1:Int) else IntKind.i64.wrap (a1 - (a0.length:Int))
noncomputable def Fw_szIntS:FSem := fun ys => match ys with
 | [.val false [.sl .any 3 (.int .i64) a0],.val false [.int .i64 a1]] => some (true,.val false [.int .i64 (g_Vw_szIntS_0 a0 a1)],[])
 | _ => none
theorem vw_szIntS (a0:List Int) (a1:Int):collapseH .std Ew_szIntS Ow_szIntS_0 (execFn Ew_szIntS Tryz.f133 msw_szIntS [.val false [.sl .any 3 (.int .i64) a0],.val false [.int .i64 a1]]) = some (true,.val false [.int .i64 (g_Vw_szIntS_0 a0 a1)],[]) := by kernel_rfl
theorem sw_szIntS:Sound Tryz.prog 133 msw_szIntS Fw_szIntS := by
 refine fn_gen goodw_szIntS (by kernel_rfl) .std (fn := Tryz.f133) (c := (Tryz.f133.body.getD .skip)) (o := Ow_szIntS_0) (k := 0) (by kernel_rfl) (by kernel_rfl) (by kernel_rfl) (by kernel_rfl) (by decide) kw_szIntS_0 ?_
 intro ys r outs h
 unfold Fw_szIntS at h
 split at h
 ·exact (vw_szIntS _ _).trans h
 ·cases h
noncomputable def Ew_szFroTx:Env where
 tt := mkTI Tryz.prog
 fn := fun f => match f with
  | 133 => some (msw_szIntS,FSem.wk msw_szIntS Fw_szIntS)
  | _ => none
 bxf := fun _ => none
 mv := []
 keep := fun _ => []
 keepB := fun _ => []
 keepX := fun _ => []
 keepXB := fun _ => []
theorem goodFw_szFroTx:∀ f ms F,Ew_szFroTx.fn f = some (ms,F) → Sound Tryz.prog f ms F := fun f ms F h => by
 unfold Ew_szFroTx at h
 dsimp only at h
 split at h
 ·exact gF sw_szIntS h
 ·cases h
theorem goodw_szFroTx:Good Tryz.prog Ew_szFroTx := ⟨rfl,goodFw_szFroTx,fun f ms F h => by cases h⟩
noncomputable def Ow_szFroTx_0:Orc := fun _ _ => none
noncomputable def msw_szFroTx:List PM := [.rd,.own]
noncomputable def lsw_szFroTx:List (Nat×Code) := loopsAll 0 (Tryz.f89.body.getD .skip)
theorem kw_szFroTx_0:OrcOk Ew_szFroTx Ow_szFroTx_0 lsw_szFroTx 0 := orcOk_none
noncomputable def g_Aw_szFroTx (a0:Int) (a1:Int) (a2:Int) (a3:Int) (a4:Int) (a5:Int) (a6:Int) (a7:Int) (a8:Bool) (a9:List Int) (a10:List Int) (a11:Int):Bool := decide (g_Vw_szIntS_0 a9 a11 < 0) || true
noncomputable def g_Vw_szFroTx_0 (a0:Int) (a1:Int) (a2:Int) (a3:Int) (a4:Int) (a5:Int) (a6:Int) (a7:Int) (a8:Bool) (a9:List Int) (a10:List Int) (a11:Int):Int := bif decide (g_Vw_szIntS_0 a9 a11 < 0) then (-1:Int) else bif decide (g_Vw_szIntS_0 a10 (g_Vw_szIntS_0 a9 a11) < 0) then (-1:Int) else g_Vw_szIntS_0 a10 (g_Vw_szIntS_0 a9 a11)
noncomputable def Fw_szFroTx:FSem := fun ys => match ys with
 | [.val true [.int .i64 a0,.int .i64 a1,.int .i64 a2,.int .i64 a3,.int .i64 a4,.int .i64 a5,.int .i64 a6,.int .i64 a7,.bool a8,.sl .any 3 (.int .i64) a9,.sl .any 3 (.int .i64) a10],.val false [.int .i64 a11]] => some ((g_Aw_szFroTx a0 a1 a2 a3 a4 a5 a6 a7 a8 a9 a10 a11),.val false [.int .i64 (g_Vw_szFroTx_0 a0 a1 a2 a3 a4 a5 a6 a7 a8 a9 a10 a11)],[])
 | _ => none
theorem vw_szFroTx (a0:Int) (a1:Int) (a2:Int) (a3:Int) (a4:Int) (a5:Int) (a6:Int) (a7:Int) (a8:Bool) (a9:List Int) (a10:List Int) (a11:Int):collapseH .std Ew_szFroTx Ow_szFroTx_0 (execFn Ew_szFroTx Tryz.f89 msw_szFroTx [.val true [.int .i64 a0,.int .i64 a1,.int .i64 a2,.int .i64 a3,.int .i64 a4,.int .i64 a5,.int .i64 a6,.int .i64 a7,.bool a8,.sl .any 3 (.int .i64) a9,.sl .any 3 (.int .i64) a10],.val false [.int .i64 a11]]) = some ((g_Aw_szFroTx a0 a1 a2 a3 a4 a5 a6 a7 a8 a9 a10 a11),.val false [.int .i64 (g_Vw_szFroTx_0 a0 a1 a2 a3 a4 a5 a6 a7 a8 a9 a10 a11)],[]) := by kernel_rfl
theorem sw_szFroTx:Sound Tryz.prog 89 msw_szFroTx Fw_szFroTx := by
 refine fn_gen goodw_szFroTx (by kernel_rfl) .std (fn := Tryz.f89) (c := (Tryz.f89.body.getD .skip)) (o := Ow_szFroTx_0) (k := 0) (by kernel_rfl) (by kernel_rfl) (by kernel_rfl) (by kernel_rfl) (by decide) kw_szFroTx_0 ?_
 intro ys r outs h
 unfold Fw_szFroTx at h
 split at h
 ·exact (vw_szFroTx _ _ _ _ _ _ _ _ _ _ _ _).trans h
 ·cases h
noncomputable def EZ64:Env where
 tt := mkTI Tryz.prog
 fn := fun f => match f with
  | 89 => some (msw_szFroTx,FSem.wk msw_szFroTx Fw_szFroTx)
  | _ => none
 bxf := fun _ => none
 mv := []
 keep := fun b => match b with
  | 0 => [(0,false),(1,false),(5,false)]
  | _ => []
 keepB := fun b => match b with
  | 0 => []
  | _ => []
 keepX := fun b => match b with
  | 0 => [(1,false),(4,false)]
  | _ => []
 keepXB := fun b => match b with
  | 0 => []
  | _ => []
theorem goodFZ64:∀ f ms F,EZ64.fn f = some (ms,F) → Sound Tryz.prog f ms F := fun f ms F h => by
 unfold EZ64 at h
 dsimp only at h
 split at h
 ·exact gF sw_szFroTx h
 ·cases h
theorem goodZ64:Good Tryz.prog EZ64 := ⟨rfl,goodFZ64,fun f ms F h => by cases h⟩
noncomputable def OZ64_0:Orc := fun _ _ => none
noncomputable def msZ64:List PM := [.rd,.own]
noncomputable def lsZ64:List (Nat×Code) := loopsAll 0 (Tryz.f28.body.getD .skip)
noncomputable def cZ64_0:Code := (loopOf 0 (Tryz.f28.body.getD .skip)).getD .skip
theorem lseqZ64:lsZ64 = [(0,cZ64_0)] := by kernel_rfl
theorem mZ64_0:∀ p,p ∈ lsZ64 → p.1 = 0 → p.2 = cZ64_0 := by
 intro p hp
 rw [lseqZ64] at hp
 simp only [List.mem_cons,List.not_mem_nil,or_false] at hp
 subst hp; simp
theorem kZ64_0:OrcOk EZ64 OZ64_0 lsZ64 0 := orcOk_none
noncomputable def hZ64_0 (y0:tL0) (y1:Int) (y2:Int):List (Pl×LV) := [(.T 0,.t (.val false [.sl .any 129 (.pair (.int .i64) (.pair (.pair (.int .i64) (.pair (.int .i64) (.pair (.int .i64) (.pair (.int .i64) (.pair (.int .i64) (.pair (.int .i64) (.int .i64))))))) (.pair .bool (.pair (.sl 3 (.int .i64)) (.sl 3 (.int .i64)))))) y0])),(.T 1,.t (.val false [.int .i64 y1])),(.T 5,.t (.val false [.int .i64 y2]))]
noncomputable def g_SZ64_0 (y0:tL0):(Int×Int) → RT (Int×Int) ((Int×Int) ⊕ (Int))
 | (y1,y2) => .br (true) (.br (decide (y2 < (y0.length:Int))) (.br (decide (0 ≤ y2 ∧ y2 < (y0.length:Int))) (.br (g_Aw_szFroTx (at_ yT0 y0 (Int.toNat y2)).1 (at_ yT0 y0 (Int.toNat y2)).2.1.1 (at_ yT0 y0 (Int.toNat y2)).2.1.2.1 (at_ yT0 y0 (Int.toNat y2)).2.1.2.2.1 (at_ yT0 y0 (Int.toNat y2)).2.1.2.2.2.1 (at_ yT0 y0 (Int.toNat y2)).2.1.2.2.2.2.1 (at_ yT0 y0 (Int.toNat y2)).2.1.2.2.2.2.2.1 (at_ yT0 y0 (Int.toNat y2)).2.1.2.2.2.2.2.2 (at_ yT0 y0 (Int.toNat y2)).2.2.1 (at_ yT0 y0 (Int.toNat y2)).2.2.2.1 (at_ yT0 y0 (Int.toNat y2)).2.2.2.2 y1) (.br (true) (.br (decide (g_Vw_szFroTx_0 (at_ yT0 y0 (Int.toNat y2)).1 (at_ yT0 y0 (Int.toNat y2)).2.1.1 (at_ yT0 y0 (Int.toNat y2)).2.1.2.1 (at_ yT0 y0 (Int.toNat y2)).2.1.2.2.1 (at_ yT0 y0 (Int.toNat y2)).2.1.2.2.2.1 (at_ yT0 y0 (Int.toNat y2)).2.1.2.2.2.2.1 (at_ yT0 y0 (Int.toNat y2)).2.1.2.2.2.2.2.1 (at_ yT0 y0 (Int.toNat y2)).2.1.2.2.2.2.2.2 (at_ yT0 y0 (Int.toNat y2)).2.2.1 (at_ yT0 y0 (Int.toNat y2)).2.2.2.1 (at_ yT0 y0 (Int.toNat y2)).2.2.2.2 y1 < 0)) (.out (.inl ((g_Vw_szFroTx_0 (at_ yT0 y0 (Int.toNat y2)).1 (at_ yT0 y0 (Int.toNat y2)).2.1.1 (at_ yT0 y0 (Int.toNat y2)).2.1.2.1 (at_ yT0 y0 (Int.toNat y2)).2.1.2.2.1 (at_ yT0 y0 (Int.toNat y2)).2.1.2.2.2.1 (at_ yT0 y0 (Int.toNat y2)).2.1.2.2.2.2.1 (at_ yT0 y0 (Int.toNat y2)).2.1.2.2.2.2.2.1 (at_ yT0 y0 (Int.toNat y2)).2.1.2.2.2.2.2.2 (at_ yT0 y0 (Int.toNat y2)).2.2.1 (at_ yT0 y0 (Int.toNat y2)).2.2.2.1 (at_ yT0 y0 (Int.toNat y2)).2.2.2.2 y1,(-1:Int))))) (.br (true) (.go ((g_Vw_szFroTx_0 (at_ yT0 y0 (Int.toNat y2)).1 (at_ yT0 y0 (Int.toNat y2)).2.1.1 (at_ yT0 y0 (Int.toNat y2)).2.1.2.1 (at_ yT0 y0 (Int.toNat y2)).2.1.2.2.1 (at_ yT0 y0 (Int.toNat y2)).2.1.2.2.2.1 (at_ yT0 y0 (Int.toNat y2)).2.1.2.2.2.2.1 (at_ yT0 y0 (Int.toNat y2)).2.1.2.2.2.2.2.1 (at_ yT0 y0 (Int.toNat y2)).2.1.2.2.2.2.2.2 (at_ yT0 y0 (Int.toNat y2)).2.2.1 (at_ yT0 y0 (Int.toNat y2)).2.2.2.1 (at_ yT0 y0 (Int.toNat y2)).2.2.2.2 y1,IntKind.i64.wrap (y2 + 1)))) .bad)) .bad) .bad) .bad) (.out (.inr (y1)))) .bad
noncomputable def g_LZ64_0 (y0:tL0) (x:Int×Int):Option ((Int×Int) ⊕ (Int)) := loopO (g_SZ64_0 y0) x
noncomputable def xZ64_0 (y0:tL0):((Int×Int) ⊕ (Int)) → Ex×List (Pl×LV) := fun
 | .inl r => (.ret,[(.T 1,.t (.val false [.int .i64 r.1])),(.T 4,.t (.val false [.int .i64 r.2]))])
 | .inr (r) => (.exit 0,[(.T 1,.t (.val false [.int .i64 r])),(.T 4,.t (.val false [.undef]))])
noncomputable def OZ64_1:Orc := fun b h => match b,h with
 | 0,[(.T 0,.t (.val false [.sl .any 129 (.pair (.int .i64) (.pair (.pair (.int .i64) (.pair (.int .i64) (.pair (.int .i64) (.pair (.int .i64) (.pair (.int .i64) (.pair (.int .i64) (.int .i64))))))) (.pair .bool (.pair (.sl 3 (.int .i64)) (.sl 3 (.int .i64)))))) y0])),(.T 1,.t (.val false [.int .i64 y1])),(.T 5,.t (.val false [.int .i64 y2]))] => some (okO (g_LZ64_0 y0 (y1,y2)),(.br (isL (valO (g_LZ64_0 y0 (y1,y2)))) (.leaf .ret [(.T 1,.t (.val false [.int .i64 (getL (valO (g_LZ64_0 y0 (y1,y2)))).1])),(.T 4,.t (.val false [.int .i64 (getL (valO (g_LZ64_0 y0 (y1,y2)))).2]))]) (.leaf (.exit 0) [(.T 1,.t (.val false [.int .i64 (getR (valO (g_LZ64_0 y0 (y1,y2))))])),(.T 4,.t (.val false [.undef]))])))
 | b,h => OZ64_0 b h
theorem bZ64_0 (y0:tL0) (y1:Int) (y2:Int):Tr.bt EZ64 OZ64_0 (exec EZ64 0 cZ64_0 (St.of (hZ64_0 y0 y1 y2)) (leafRd EZ64 0)) = (g_SZ64_0 y0 (y1,y2)).bt (fun ((y1,y2):Int×Int) => (hZ64_0 y0 y1 y2)) (xZ64_0 y0) := by kernel_rfl
theorem kZ64_1:OrcOk EZ64 OZ64_1 lsZ64 1 := orc_add kZ64_0 (fun n p hp h ex h' ho => by
 obtain ⟨b,c⟩ := p
 obtain ⟨xt,h1,h2⟩ := ho
 have h1:OZ64_1 b h = some (true,xt) := h1
 unfold OZ64_1 at h1
 split at h1
 ·injection h1 with h1
  injection h1 with e1 e2
  subst e2
  have hc:c = cZ64_0 := mZ64_0 _ hp rfl
  subst hc
  right
  rename_i y0 y1 y2
  have key := LT_step kZ64_0 hp (fun q hq => loopsAll_in _ _ _ _ hp hq) (fun ((y1,y2):Int×Int) => (hZ64_0 y0 y1 y2)) (xZ64_0 y0) (g_SZ64_0 y0) (fun x => by first | exact bZ64_0 y0 x.1 x.2) n (x := (y1,y2)) (okO_some e1)
  have hx:∀ r,XT.sel (.br (isL r) (.leaf .ret [(.T 1,.t (.val false [.int .i64 (getL r).1])),(.T 4,.t (.val false [.int .i64 (getL r).2]))]) (.leaf (.exit 0) [(.T 1,.t (.val false [.int .i64 (getR r)])),(.T 4,.t (.val false [.undef]))])) = xZ64_0 y0 r := fun r => by first | rfl | rcases r with r | r <;> rfl | rcases r with r | r | r <;> rfl | rcases r with r | r | r | r <;> rfl
  have h3 := (hx (valO (g_LZ64_0 y0 (y1,y2)))).symm.trans h2
  have e3 := congrArg Prod.fst h3
  have e4 := congrArg Prod.snd h3
  simp only at e3 e4
  rw [← e3,← e4]
  exact key
 ·exact .inl ⟨xt,h1,h2⟩)
noncomputable def g_AZ64 (a0:tL0) (a1:Int):Bool := decide (IntKind.i64.wrap (a1 - (a0.length:Int)) < 0) || okO (g_LZ64_0 a0 (IntKind.i64.wrap (a1 - (a0.length:Int)),(0:Int)))
noncomputable def g_VZ64_0 (a0:tL0) (a1:Int):Int := bif decide (IntKind.i64.wrap (a1 - (a0.length:Int)) < 0) then (-1:Int) else bif isL (valO (g_LZ64_0 a0 (IntKind.i64.wrap (a1 - (a0.length:Int)),(0:Int)))) then (getL (valO (g_LZ64_0 a0 (IntKind.i64.wrap (a1 - (a0.length:Int)),(0:Int))))).2 else getR (valO (g_LZ64_0 a0 (IntKind.i64.wrap (a1 - (a0.length:Int)),(0:Int))))
noncomputable def FZ64:FSem := fun ys => match ys with
 | [.val false [.sl .any 129 (.pair (.int .i64) (.pair (.pair (.int .i64) (.pair (.int .i64) (.pair (.int .i64) (.pair (.int .i64) (.pair (.int .i64) (.pair (.int .i64) (.int .i64))))))) (.pair .bool (.pair (.sl 3 (.int .i64)) (.sl 3 (.int .i64)))))) a0],.val false [.int .i64 a1]] => some ((g_AZ64 a0 a1),.val false [.int .i64 (g_VZ64_0 a0 a1)],[])
 | _ => none
theorem vZ64 (a0:tL0) (a1:Int):collapseH .std EZ64 OZ64_1 (execFn EZ64 Tryz.f28 msZ64 [.val false [.sl .any 129 (.pair (.int .i64) (.pair (.pair (.int .i64) (.pair (.int .i64) (.pair (.int .i64) (.pair (.int .i64) (.pair (.int .i64) (.pair (.int .i64) (.int .i64))))))) (.pair .bool (.pair (.sl 3 (.int .i64)) (.sl 3 (.int .i64)))))) a0],.val false [.int .i64 a1]]) = some ((g_AZ64 a0 a1),.val false [.int .i64 (g_VZ64_0 a0 a1)],[]) := by kernel_rfl
theorem sZ64:Sound Tryz.prog 28 msZ64 FZ64 := by
 refine fn_gen goodZ64 (by kernel_rfl) .std (fn := Tryz.f28) (c := (Tryz.f28.body.getD .skip)) (o := OZ64_1) (k := 1) (by kernel_rfl) (by kernel_rfl) (by kernel_rfl) (by kernel_rfl) (by decide) kZ64_1 ?_
 intro ys r outs h
 unfold FZ64 at h
 split at h
 ·exact (vZ64 _ _).trans h
 ·cases h
noncomputable def EZ35:Env where
 tt := mkTI Tryz.prog
 fn := fun f => match f with
  | 133 => some (msw_szIntS,FSem.wk msw_szIntS Fw_szIntS)
  | _ => none
 bxf := fun _ => none
 mv := []
 keep := fun _ => []
 keepB := fun _ => []
 keepX := fun _ => []
 keepXB := fun _ => []
theorem goodFZ35:∀ f ms F,EZ35.fn f = some (ms,F) → Sound Tryz.prog f ms F := fun f ms F h => by
 unfold EZ35 at h
 dsimp only at h
 split at h
 ·exact gF sw_szIntS h
 ·cases h
theorem goodZ35:Good Tryz.prog EZ35 := ⟨rfl,goodFZ35,fun f ms F h => by cases h⟩
noncomputable def OZ35_0:Orc := fun _ _ => none
noncomputable def msZ35:List PM := [.rd,.own]
noncomputable def lsZ35:List (Nat×Code) := loopsAll 0 (Tryz.f173.body.getD .skip)
theorem kZ35_0:OrcOk EZ35 OZ35_0 lsZ35 0 := orcOk_none
noncomputable def g_AZ35 (a0:ByteArray) (a1:Bool) (a2:List Int) (a3:Int):Bool := decide (IntKind.i64.wrap (a3 - (↑(ByteArray.size a0):Int)) < 0) || true
noncomputable def g_VZ35_0 (a0:ByteArray) (a1:Bool) (a2:List Int) (a3:Int):Int := bif decide (IntKind.i64.wrap (a3 - (↑(ByteArray.size a0):Int)) < 0) then (-1:Int) else bif decide (g_Vw_szIntS_0 a2 (IntKind.i64.wrap (a3 - (↑(ByteArray.size a0):Int))) < 0) then (-1:Int) else g_Vw_szIntS_0 a2 (IntKind.i64.wrap (a3 - (↑(ByteArray.size a0):Int)))
noncomputable def FZ35:FSem := fun ys => match ys with
 | [.val true [.str a0,.bool a1,.sl .any 3 (.int .i64) a2],.val false [.int .i64 a3]] => some ((g_AZ35 a0 a1 a2 a3),.val false [.int .i64 (g_VZ35_0 a0 a1 a2 a3)],[])
 | _ => none
theorem vZ35 (a0:ByteArray) (a1:Bool) (a2:List Int) (a3:Int):collapseH .std EZ35 OZ35_0 (execFn EZ35 Tryz.f173 msZ35 [.val true [.str a0,.bool a1,.sl .any 3 (.int .i64) a2],.val false [.int .i64 a3]]) = some ((g_AZ35 a0 a1 a2 a3),.val false [.int .i64 (g_VZ35_0 a0 a1 a2 a3)],[]) := by kernel_rfl
theorem sZ35:Sound Tryz.prog 173 msZ35 FZ35 := by
 refine fn_gen goodZ35 (by kernel_rfl) .std (fn := Tryz.f173) (c := (Tryz.f173.body.getD .skip)) (o := OZ35_0) (k := 0) (by kernel_rfl) (by kernel_rfl) (by kernel_rfl) (by kernel_rfl) (by decide) kZ35_0 ?_
 intro ys r outs h
 unfold FZ35 at h
 split at h
 ·exact (vZ35 _ _ _ _).trans h
 ·cases h
noncomputable def EZ27:Env where
 tt := mkTI Tryz.prog
 fn := fun f => match f with
  | 173 => some (msZ35,FSem.wk msZ35 FZ35)
  | _ => none
 bxf := fun _ => none
 mv := []
 keep := fun b => match b with
  | 0 => [(0,false),(1,false),(5,false)]
  | _ => []
 keepB := fun b => match b with
  | 0 => []
  | _ => []
 keepX := fun b => match b with
  | 0 => [(1,false),(4,false)]
  | _ => []
 keepXB := fun b => match b with
  | 0 => []
  | _ => []
theorem goodFZ27:∀ f ms F,EZ27.fn f = some (ms,F) → Sound Tryz.prog f ms F := fun f ms F h => by
 unfold EZ27 at h
 dsimp only at h
 split at h
 ·exact gF sZ35 h
 ·cases h
theorem goodZ27:Good Tryz.prog EZ27 := ⟨rfl,goodFZ27,fun f ms F h => by cases h⟩
noncomputable def OZ27_0:Orc := fun _ _ => none
noncomputable def msZ27:List PM := [.rd,.own]
noncomputable def lsZ27:List (Nat×Code) := loopsAll 0 (Tryz.f154.body.getD .skip)
noncomputable def cZ27_0:Code := (loopOf 0 (Tryz.f154.body.getD .skip)).getD .skip
theorem lseqZ27:lsZ27 = [(0,cZ27_0)] := by kernel_rfl
theorem mZ27_0:∀ p,p ∈ lsZ27 → p.1 = 0 → p.2 = cZ27_0 := by
 intro p hp
 rw [lseqZ27] at hp
 simp only [List.mem_cons,List.not_mem_nil,or_false] at hp
 subst hp; simp
theorem kZ27_0:OrcOk EZ27 OZ27_0 lsZ27 0 := orcOk_none
noncomputable def hZ27_0 (y0:tL3) (y1:Int) (y2:Int):List (Pl×LV) := [(.T 0,.t (.val false [.sl .any 196 (.pair .str (.pair .bool (.sl 3 (.int .i64)))) y0])),(.T 1,.t (.val false [.int .i64 y1])),(.T 5,.t (.val false [.int .i64 y2]))]
noncomputable def g_SZ27_0 (y0:tL3):(Int×Int) → RT (Int×Int) ((Int×Int) ⊕ (Int))
 | (y1,y2) => .br (true) (.br (decide (y2 < (y0.length:Int))) (.br (decide (0 ≤ y2 ∧ y2 < (y0.length:Int))) (.br (g_AZ35 (at_ yT4 y0 (Int.toNat y2)).1 (at_ yT4 y0 (Int.toNat y2)).2.1 (at_ yT4 y0 (Int.toNat y2)).2.2 y1) (.br (true) (.br (decide (g_VZ35_0 (at_ yT4 y0 (Int.toNat y2)).1 (at_ yT4 y0 (Int.toNat y2)).2.1 (at_ yT4 y0 (Int.toNat y2)).2.2 y1 < 0)) (.out (.inl ((g_VZ35_0 (at_ yT4 y0 (Int.toNat y2)).1 (at_ yT4 y0 (Int.toNat y2)).2.1 (at_ yT4 y0 (Int.toNat y2)).2.2 y1,(-1:Int))))) (.br (true) (.go ((g_VZ35_0 (at_ yT4 y0 (Int.toNat y2)).1 (at_ yT4 y0 (Int.toNat y2)).2.1 (at_ yT4 y0 (Int.toNat y2)).2.2 y1,IntKind.i64.wrap (y2 + 1)))) .bad)) .bad) .bad) .bad) (.out (.inr (y1)))) .bad
noncomputable def g_LZ27_0 (y0:tL3) (x:Int×Int):Option ((Int×Int) ⊕ (Int)) := loopO (g_SZ27_0 y0) x
noncomputable def xZ27_0 (y0:tL3):((Int×Int) ⊕ (Int)) → Ex×List (Pl×LV) := fun
 | .inl r => (.ret,[(.T 1,.t (.val false [.int .i64 r.1])),(.T 4,.t (.val false [.int .i64 r.2]))])
 | .inr (r) => (.exit 0,[(.T 1,.t (.val false [.int .i64 r])),(.T 4,.t (.val false [.undef]))])
noncomputable def OZ27_1:Orc := fun b h => match b,h with
 | 0,[(.T 0,.t (.val false [.sl .any 196 (.pair .str (.pair .bool (.sl 3 (.int .i64)))) y0])),(.T 1,.t (.val false [.int .i64 y1])),(.T 5,.t (.val false [.int .i64 y2]))] => some (okO (g_LZ27_0 y0 (y1,y2)),(.br (isL (valO (g_LZ27_0 y0 (y1,y2)))) (.leaf .ret [(.T 1,.t (.val false [.int .i64 (getL (valO (g_LZ27_0 y0 (y1,y2)))).1])),(.T 4,.t (.val false [.int .i64 (getL (valO (g_LZ27_0 y0 (y1,y2)))).2]))]) (.leaf (.exit 0) [(.T 1,.t (.val false [.int .i64 (getR (valO (g_LZ27_0 y0 (y1,y2))))])),(.T 4,.t (.val false [.undef]))])))
 | b,h => OZ27_0 b h
theorem bZ27_0 (y0:tL3) (y1:Int) (y2:Int):Tr.bt EZ27 OZ27_0 (exec EZ27 0 cZ27_0 (St.of (hZ27_0 y0 y1 y2)) (leafRd EZ27 0)) = (g_SZ27_0 y0 (y1,y2)).bt (fun ((y1,y2):Int×Int) => (hZ27_0 y0 y1 y2)) (xZ27_0 y0) := by kernel_rfl
theorem kZ27_1:OrcOk EZ27 OZ27_1 lsZ27 1 := orc_add kZ27_0 (fun n p hp h ex h' ho => by
 obtain ⟨b,c⟩ := p
 obtain ⟨xt,h1,h2⟩ := ho
 have h1:OZ27_1 b h = some (true,xt) := h1
 unfold OZ27_1 at h1
 split at h1
 ·injection h1 with h1
  injection h1 with e1 e2
  subst e2
  have hc:c = cZ27_0 := mZ27_0 _ hp rfl
  subst hc
  right
  rename_i y0 y1 y2
  have key := LT_step kZ27_0 hp (fun q hq => loopsAll_in _ _ _ _ hp hq) (fun ((y1,y2):Int×Int) => (hZ27_0 y0 y1 y2)) (xZ27_0 y0) (g_SZ27_0 y0) (fun x => by first | exact bZ27_0 y0 x.1 x.2) n (x := (y1,y2)) (okO_some e1)
  have hx:∀ r,XT.sel (.br (isL r) (.leaf .ret [(.T 1,.t (.val false [.int .i64 (getL r).1])),(.T 4,.t (.val false [.int .i64 (getL r).2]))]) (.leaf (.exit 0) [(.T 1,.t (.val false [.int .i64 (getR r)])),(.T 4,.t (.val false [.undef]))])) = xZ27_0 y0 r := fun r => by first | rfl | rcases r with r | r <;> rfl | rcases r with r | r | r <;> rfl | rcases r with r | r | r | r <;> rfl
  have h3 := (hx (valO (g_LZ27_0 y0 (y1,y2)))).symm.trans h2
  have e3 := congrArg Prod.fst h3
  have e4 := congrArg Prod.snd h3
  simp only at e3 e4
  rw [← e3,← e4]
  exact key
 ·exact .inl ⟨xt,h1,h2⟩)
noncomputable def g_AZ27 (a0:tL3) (a1:Int):Bool := decide (IntKind.i64.wrap (a1 - (a0.length:Int)) < 0) || okO (g_LZ27_0 a0 (IntKind.i64.wrap (a1 - (a0.length:Int)),(0:Int)))
noncomputable def g_VZ27_0 (a0:tL3) (a1:Int):Int := bif decide (IntKind.i64.wrap (a1 - (a0.length:Int)) < 0) then (-1:Int) else bif isL (valO (g_LZ27_0 a0 (IntKind.i64.wrap (a1 - (a0.length:Int)),(0:Int)))) then (getL (valO (g_LZ27_0 a0 (IntKind.i64.wrap (a1 - (a0.length:Int)),(0:Int))))).2 else getR (valO (g_LZ27_0 a0 (IntKind.i64.wrap (a1 - (a0.length:Int)),(0:Int))))
noncomputable def FZ27:FSem := fun ys => match ys with
 | [.val false [.sl .any 196 (.pair .str (.pair .bool (.sl 3 (.int .i64)))) a0],.val false [.int .i64 a1]] => some ((g_AZ27 a0 a1),.val false [.int .i64 (g_VZ27_0 a0 a1)],[])
 | _ => none
theorem vZ27 (a0:tL3) (a1:Int):collapseH .std EZ27 OZ27_1 (execFn EZ27 Tryz.f154 msZ27 [.val false [.sl .any 196 (.pair .str (.pair .bool (.sl 3 (.int .i64)))) a0],.val false [.int .i64 a1]]) = some ((g_AZ27 a0 a1),.val false [.int .i64 (g_VZ27_0 a0 a1)],[]) := by kernel_rfl
theorem sZ27:Sound Tryz.prog 154 msZ27 FZ27 := by
 refine fn_gen goodZ27 (by kernel_rfl) .std (fn := Tryz.f154) (c := (Tryz.f154.body.getD .skip)) (o := OZ27_1) (k := 1) (by kernel_rfl) (by kernel_rfl) (by kernel_rfl) (by kernel_rfl) (by decide) kZ27_1 ?_
 intro ys r outs h
 unfold FZ27 at h
 split at h
 ·exact (vZ27 _ _).trans h
 ·cases h
noncomputable def EZ47:Env where
 tt := mkTI Tryz.prog
 fn := fun _ => none
 bxf := fun _ => none
 mv := []
 keep := fun b => match b with
  | 0 => [(0,false),(1,false),(5,false)]
  | _ => []
 keepB := fun b => match b with
  | 0 => []
  | _ => []
 keepX := fun b => match b with
  | 0 => [(1,false),(4,false)]
  | _ => []
 keepXB := fun b => match b with
  | 0 => []
  | _ => []
theorem goodFZ47:∀ f ms F,EZ47.fn f = some (ms,F) → Sound Tryz.prog f ms F := fun f ms F h => by cases h
theorem goodZ47:Good Tryz.prog EZ47 := ⟨rfl,goodFZ47,fun f ms F h => by cases h⟩
noncomputable def OZ47_0:Orc := fun _ _ => none
noncomputable def msZ47:List PM := [.rd,.own]
noncomputable def lsZ47:List (Nat×Code) := loopsAll 0 (Tryz.f153.body.getD .skip)
noncomputable def cZ47_0:Code := (loopOf 0 (Tryz.f153.body.getD .skip)).getD .skip
theorem lseqZ47:lsZ47 = [(0,cZ47_0)] := by kernel_rfl
theorem mZ47_0:∀ p,p ∈ lsZ47 → p.1 = 0 → p.2 = cZ47_0 := by
 intro p hp
 rw [lseqZ47] at hp
 simp only [List.mem_cons,List.not_mem_nil,or_false] at hp
 subst hp; simp
theorem kZ47_0:OrcOk EZ47 OZ47_0 lsZ47 0 := orcOk_none
noncomputable def hZ47_0 (y0:List ByteArray) (y1:Int) (y2:Int):List (Pl×LV) := [(.T 0,.t (.val false [.sl .any 9 .str y0])),(.T 1,.t (.val false [.int .i64 y1])),(.T 5,.t (.val false [.int .i64 y2]))]
noncomputable def g_SZ47_0 (y0:List ByteArray):(Int×Int) → RT (Int×Int) ((Int×Int) ⊕ (Int))
 | (y1,y2) => .br (true) (.br (decide (y2 < (y0.length:Int))) (.br (decide (0 ≤ y2 ∧ y2 < (y0.length:Int))) (.br (true) (.br (true) (.br (decide (IntKind.i64.wrap (y1 - (↑(ByteArray.size (at_ Ty.str y0 (Int.toNat y2))):Int)) < 0)) (.out (.inl ((IntKind.i64.wrap (y1 - (↑(ByteArray.size (at_ Ty.str y0 (Int.toNat y2))):Int)),(-1:Int))))) (.br (true) (.go ((IntKind.i64.wrap (y1 - (↑(ByteArray.size (at_ Ty.str y0 (Int.toNat y2))):Int)),IntKind.i64.wrap (y2 + 1)))) .bad)) .bad) .bad) .bad) (.out (.inr (y1)))) .bad
noncomputable def g_LZ47_0 (y0:List ByteArray) (x:Int×Int):Option ((Int×Int) ⊕ (Int)) := loopO (g_SZ47_0 y0) x
noncomputable def xZ47_0 (y0:List ByteArray):((Int×Int) ⊕ (Int)) → Ex×List (Pl×LV) := fun
 | .inl r => (.ret,[(.T 1,.t (.val false [.int .i64 r.1])),(.T 4,.t (.val false [.int .i64 r.2]))])
 | .inr (r) => (.exit 0,[(.T 1,.t (.val false [.int .i64 r])),(.T 4,.t (.val false [.undef]))])
noncomputable def OZ47_1:Orc := fun b h => match b,h with
 | 0,[(.T 0,.t (.val false [.sl .any 9 .str y0])),(.T 1,.t (.val false [.int .i64 y1])),(.T 5,.t (.val false [.int .i64 y2]))] => some (okO (g_LZ47_0 y0 (y1,y2)),(.br (isL (valO (g_LZ47_0 y0 (y1,y2)))) (.leaf .ret [(.T 1,.t (.val false [.int .i64 (getL (valO (g_LZ47_0 y0 (y1,y2)))).1])),(.T 4,.t (.val false [.int .i64 (getL (valO (g_LZ47_0 y0 (y1,y2)))).2]))]) (.leaf (.exit 0) [(.T 1,.t (.val false [.int .i64 (getR (valO (g_LZ47_0 y0 (y1,y2))))])),(.T 4,.t (.val false [.undef]))])))
 | b,h => OZ47_0 b h
theorem bZ47_0 (y0:List ByteArray) (y1:Int) (y2:Int):Tr.bt EZ47 OZ47_0 (exec EZ47 0 cZ47_0 (St.of (hZ47_0 y0 y1 y2)) (leafRd EZ47 0)) = (g_SZ47_0 y0 (y1,y2)).bt (fun ((y1,y2):Int×Int) => (hZ47_0 y0 y1 y2)) (xZ47_0 y0) := by kernel_rfl
theorem kZ47_1:OrcOk EZ47 OZ47_1 lsZ47 1 := orc_add kZ47_0 (fun n p hp h ex h' ho => by
 obtain ⟨b,c⟩ := p
 obtain ⟨xt,h1,h2⟩ := ho
 have h1:OZ47_1 b h = some (true,xt) := h1
 unfold OZ47_1 at h1
 split at h1
 ·injection h1 with h1
  injection h1 with e1 e2
  subst e2
  have hc:c = cZ47_0 := mZ47_0 _ hp rfl
  subst hc
  right
  rename_i y0 y1 y2
  have key := LT_step kZ47_0 hp (fun q hq => loopsAll_in _ _ _ _ hp hq) (fun ((y1,y2):Int×Int) => (hZ47_0 y0 y1 y2)) (xZ47_0 y0) (g_SZ47_0 y0) (fun x => by first | exact bZ47_0 y0 x.1 x.2) n (x := (y1,y2)) (okO_some e1)
  have hx:∀ r,XT.sel (.br (isL r) (.leaf .ret [(.T 1,.t (.val false [.int .i64 (getL r).1])),(.T 4,.t (.val false [.int .i64 (getL r).2]))]) (.leaf (.exit 0) [(.T 1,.t (.val false [.int .i64 (getR r)])),(.T 4,.t (.val false [.undef]))])) = xZ47_0 y0 r := fun r => by first | rfl | rcases r with r | r <;> rfl | rcases r with r | r | r <;> rfl | rcases r with r | r | r | r <;> rfl
  have h3 := (hx (valO (g_LZ47_0 y0 (y1,y2)))).symm.trans h2
  have e3 := congrArg Prod.fst h3
  have e4 := congrArg Prod.snd h3
  simp only at e3 e4
  rw [← e3,← e4]
  exact key
 ·exact .inl ⟨xt,h1,h2⟩)
noncomputable def g_AZ47 (a0:List ByteArray) (a1:Int):Bool := decide (IntKind.i64.wrap (a1 - (a0.length:Int)) < 0) || okO (g_LZ47_0 a0 (IntKind.i64.wrap (a1 - (a0.length:Int)),(0:Int)))
noncomputable def g_VZ47_0 (a0:List ByteArray) (a1:Int):Int := bif decide (IntKind.i64.wrap (a1 - (a0.length:Int)) < 0) then (-1:Int) else bif isL (valO (g_LZ47_0 a0 (IntKind.i64.wrap (a1 - (a0.length:Int)),(0:Int)))) then (getL (valO (g_LZ47_0 a0 (IntKind.i64.wrap (a1 - (a0.length:Int)),(0:Int))))).2 else getR (valO (g_LZ47_0 a0 (IntKind.i64.wrap (a1 - (a0.length:Int)),(0:Int))))
noncomputable def FZ47:FSem := fun ys => match ys with
 | [.val false [.sl .any 9 .str a0],.val false [.int .i64 a1]] => some ((g_AZ47 a0 a1),.val false [.int .i64 (g_VZ47_0 a0 a1)],[])
 | _ => none
theorem vZ47 (a0:List ByteArray) (a1:Int):collapseH .std EZ47 OZ47_1 (execFn EZ47 Tryz.f153 msZ47 [.val false [.sl .any 9 .str a0],.val false [.int .i64 a1]]) = some ((g_AZ47 a0 a1),.val false [.int .i64 (g_VZ47_0 a0 a1)],[]) := by kernel_rfl
theorem sZ47:Sound Tryz.prog 153 msZ47 FZ47 := by
 refine fn_gen goodZ47 (by kernel_rfl) .std (fn := Tryz.f153) (c := (Tryz.f153.body.getD .skip)) (o := OZ47_1) (k := 1) (by kernel_rfl) (by kernel_rfl) (by kernel_rfl) (by kernel_rfl) (by decide) kZ47_1 ?_
 intro ys r outs h
 unfold FZ47 at h
 split at h
 ·exact (vZ47 _ _).trans h
 ·cases h
noncomputable def EZ48:Env where
 tt := mkTI Tryz.prog
 fn := fun f => match f with
  | 153 => some (msZ47,FSem.wk msZ47 FZ47)
  | 154 => some (msZ27,FSem.wk msZ27 FZ27)
  | _ => none
 bxf := fun _ => none
 mv := []
 keep := fun _ => []
 keepB := fun _ => []
 keepX := fun _ => []
 keepXB := fun _ => []
theorem goodFZ48:∀ f ms F,EZ48.fn f = some (ms,F) → Sound Tryz.prog f ms F := fun f ms F h => by
 unfold EZ48 at h
 dsimp only at h
 split at h
 ·exact gF sZ47 h
 ·exact gF sZ27 h
 ·cases h
theorem goodZ48:Good Tryz.prog EZ48 := ⟨rfl,goodFZ48,fun f ms F h => by cases h⟩
noncomputable def OZ48_0:Orc := fun _ _ => none
noncomputable def msZ48:List PM := [.rd,.own]
noncomputable def lsZ48:List (Nat×Code) := loopsAll 0 (Tryz.f132.body.getD .skip)
theorem kZ48_0:OrcOk EZ48 OZ48_0 lsZ48 0 := orcOk_none
noncomputable def g_AZ48 (a0:Int) (a1:Int) (a2:List ByteArray) (a3:tL3) (a4:Int):Bool := g_AZ47 a2 a4&&(decide (g_VZ47_0 a2 a4 < 0) || g_AZ27 a3 (g_VZ47_0 a2 a4)&&true)
noncomputable def g_VZ48_0 (a0:Int) (a1:Int) (a2:List ByteArray) (a3:tL3) (a4:Int):Int := bif decide (g_VZ47_0 a2 a4 < 0) then (-1:Int) else bif decide (g_VZ27_0 a3 (g_VZ47_0 a2 a4) < 0) then (-1:Int) else g_VZ27_0 a3 (g_VZ47_0 a2 a4)
noncomputable def FZ48:FSem := fun ys => match ys with
 | [.val true [.int .i64 a0,.int .i64 a1,.sl .any 9 .str a2,.sl .any 196 (.pair .str (.pair .bool (.sl 3 (.int .i64)))) a3],.val false [.int .i64 a4]] => some ((g_AZ48 a0 a1 a2 a3 a4),.val false [.int .i64 (g_VZ48_0 a0 a1 a2 a3 a4)],[])
 | _ => none
theorem vZ48 (a0:Int) (a1:Int) (a2:List ByteArray) (a3:tL3) (a4:Int):collapseH .std EZ48 OZ48_0 (execFn EZ48 Tryz.f132 msZ48 [.val true [.int .i64 a0,.int .i64 a1,.sl .any 9 .str a2,.sl .any 196 (.pair .str (.pair .bool (.sl 3 (.int .i64)))) a3],.val false [.int .i64 a4]]) = some ((g_AZ48 a0 a1 a2 a3 a4),.val false [.int .i64 (g_VZ48_0 a0 a1 a2 a3 a4)],[]) := by kernel_rfl
theorem sZ48:Sound Tryz.prog 132 msZ48 FZ48 := by
 refine fn_gen goodZ48 (by kernel_rfl) .std (fn := Tryz.f132) (c := (Tryz.f132.body.getD .skip)) (o := OZ48_0) (k := 0) (by kernel_rfl) (by kernel_rfl) (by kernel_rfl) (by kernel_rfl) (by decide) kZ48_0 ?_
 intro ys r outs h
 unfold FZ48 at h
 split at h
 ·exact (vZ48 _ _ _ _ _).trans h
 ·cases h
noncomputable def EZ36:Env where
 tt := mkTI Tryz.prog
 fn := fun f => match f with
  | 132 => some (msZ48,FSem.wk msZ48 FZ48)
  | _ => none
 bxf := fun _ => none
 mv := []
 keep := fun b => match b with
  | 0 => [(0,false),(1,false),(5,false)]
  | _ => []
 keepB := fun b => match b with
  | 0 => []
  | _ => []
 keepX := fun b => match b with
  | 0 => [(1,false),(4,false)]
  | _ => []
 keepXB := fun b => match b with
  | 0 => []
  | _ => []
theorem goodFZ36:∀ f ms F,EZ36.fn f = some (ms,F) → Sound Tryz.prog f ms F := fun f ms F h => by
 unfold EZ36 at h
 dsimp only at h
 split at h
 ·exact gF sZ48 h
 ·cases h
theorem goodZ36:Good Tryz.prog EZ36 := ⟨rfl,goodFZ36,fun f ms F h => by cases h⟩
noncomputable def OZ36_0:Orc := fun _ _ => none
noncomputable def msZ36:List PM := [.rd,.own]
noncomputable def lsZ36:List (Nat×Code) := loopsAll 0 (Tryz.f88.body.getD .skip)
noncomputable def cZ36_0:Code := (loopOf 0 (Tryz.f88.body.getD .skip)).getD .skip
theorem lseqZ36:lsZ36 = [(0,cZ36_0)] := by kernel_rfl
theorem mZ36_0:∀ p,p ∈ lsZ36 → p.1 = 0 → p.2 = cZ36_0 := by
 intro p hp
 rw [lseqZ36] at hp
 simp only [List.mem_cons,List.not_mem_nil,or_false] at hp
 subst hp; simp
theorem kZ36_0:OrcOk EZ36 OZ36_0 lsZ36 0 := orcOk_none
noncomputable def hZ36_0 (y0:tL1) (y1:Int) (y2:Int):List (Pl×LV) := [(.T 0,.t (.val false [.sl .any 169 (.pair (.int .i64) (.pair (.int .i64) (.pair (.sl 9 .str) (.sl 196 (.pair .str (.pair .bool (.sl 3 (.int .i64)))))))) y0])),(.T 1,.t (.val false [.int .i64 y1])),(.T 5,.t (.val false [.int .i64 y2]))]
noncomputable def g_SZ36_0 (y0:tL1):(Int×Int) → RT (Int×Int) ((Int×Int) ⊕ (Int))
 | (y1,y2) => .br (true) (.br (decide (y2 < (y0.length:Int))) (.br (decide (0 ≤ y2 ∧ y2 < (y0.length:Int))) (.br (g_AZ48 (at_ yT3 y0 (Int.toNat y2)).1 (at_ yT3 y0 (Int.toNat y2)).2.1 (at_ yT3 y0 (Int.toNat y2)).2.2.1 (at_ yT3 y0 (Int.toNat y2)).2.2.2 y1) (.br (true) (.br (decide (g_VZ48_0 (at_ yT3 y0 (Int.toNat y2)).1 (at_ yT3 y0 (Int.toNat y2)).2.1 (at_ yT3 y0 (Int.toNat y2)).2.2.1 (at_ yT3 y0 (Int.toNat y2)).2.2.2 y1 < 0)) (.out (.inl ((g_VZ48_0 (at_ yT3 y0 (Int.toNat y2)).1 (at_ yT3 y0 (Int.toNat y2)).2.1 (at_ yT3 y0 (Int.toNat y2)).2.2.1 (at_ yT3 y0 (Int.toNat y2)).2.2.2 y1,(-1:Int))))) (.br (true) (.go ((g_VZ48_0 (at_ yT3 y0 (Int.toNat y2)).1 (at_ yT3 y0 (Int.toNat y2)).2.1 (at_ yT3 y0 (Int.toNat y2)).2.2.1 (at_ yT3 y0 (Int.toNat y2)).2.2.2 y1,IntKind.i64.wrap (y2 + 1)))) .bad)) .bad) .bad) .bad) (.out (.inr (y1)))) .bad
noncomputable def g_LZ36_0 (y0:tL1) (x:Int×Int):Option ((Int×Int) ⊕ (Int)) := loopO (g_SZ36_0 y0) x
noncomputable def xZ36_0 (y0:tL1):((Int×Int) ⊕ (Int)) → Ex×List (Pl×LV) := fun
 | .inl r => (.ret,[(.T 1,.t (.val false [.int .i64 r.1])),(.T 4,.t (.val false [.int .i64 r.2]))])
 | .inr (r) => (.exit 0,[(.T 1,.t (.val false [.int .i64 r])),(.T 4,.t (.val false [.undef]))])
noncomputable def OZ36_1:Orc := fun b h => match b,h with
 | 0,[(.T 0,.t (.val false [.sl .any 169 (.pair (.int .i64) (.pair (.int .i64) (.pair (.sl 9 .str) (.sl 196 (.pair .str (.pair .bool (.sl 3 (.int .i64)))))))) y0])),(.T 1,.t (.val false [.int .i64 y1])),(.T 5,.t (.val false [.int .i64 y2]))] => some (okO (g_LZ36_0 y0 (y1,y2)),(.br (isL (valO (g_LZ36_0 y0 (y1,y2)))) (.leaf .ret [(.T 1,.t (.val false [.int .i64 (getL (valO (g_LZ36_0 y0 (y1,y2)))).1])),(.T 4,.t (.val false [.int .i64 (getL (valO (g_LZ36_0 y0 (y1,y2)))).2]))]) (.leaf (.exit 0) [(.T 1,.t (.val false [.int .i64 (getR (valO (g_LZ36_0 y0 (y1,y2))))])),(.T 4,.t (.val false [.undef]))])))
 | b,h => OZ36_0 b h
theorem bZ36_0 (y0:tL1) (y1:Int) (y2:Int):Tr.bt EZ36 OZ36_0 (exec EZ36 0 cZ36_0 (St.of (hZ36_0 y0 y1 y2)) (leafRd EZ36 0)) = (g_SZ36_0 y0 (y1,y2)).bt (fun ((y1,y2):Int×Int) => (hZ36_0 y0 y1 y2)) (xZ36_0 y0) := by kernel_rfl
theorem kZ36_1:OrcOk EZ36 OZ36_1 lsZ36 1 := orc_add kZ36_0 (fun n p hp h ex h' ho => by
 obtain ⟨b,c⟩ := p
 obtain ⟨xt,h1,h2⟩ := ho
 have h1:OZ36_1 b h = some (true,xt) := h1
 unfold OZ36_1 at h1
 split at h1
 ·injection h1 with h1
  injection h1 with e1 e2
  subst e2
  have hc:c = cZ36_0 := mZ36_0 _ hp rfl
  subst hc
  right
  rename_i y0 y1 y2
  have key := LT_step kZ36_0 hp (fun q hq => loopsAll_in _ _ _ _ hp hq) (fun ((y1,y2):Int×Int) => (hZ36_0 y0 y1 y2)) (xZ36_0 y0) (g_SZ36_0 y0) (fun x => by first | exact bZ36_0 y0 x.1 x.2) n (x := (y1,y2)) (okO_some e1)
  have hx:∀ r,XT.sel (.br (isL r) (.leaf .ret [(.T 1,.t (.val false [.int .i64 (getL r).1])),(.T 4,.t (.val false [.int .i64 (getL r).2]))]) (.leaf (.exit 0) [(.T 1,.t (.val false [.int .i64 (getR r)])),(.T 4,.t (.val false [.undef]))])) = xZ36_0 y0 r := fun r => by first | rfl | rcases r with r | r <;> rfl | rcases r with r | r | r <;> rfl | rcases r with r | r | r | r <;> rfl
  have h3 := (hx (valO (g_LZ36_0 y0 (y1,y2)))).symm.trans h2
  have e3 := congrArg Prod.fst h3
  have e4 := congrArg Prod.snd h3
  simp only at e3 e4
  rw [← e3,← e4]
  exact key
 ·exact .inl ⟨xt,h1,h2⟩)
noncomputable def g_AZ36 (a0:tL1) (a1:Int):Bool := decide (IntKind.i64.wrap (a1 - (a0.length:Int)) < 0) || okO (g_LZ36_0 a0 (IntKind.i64.wrap (a1 - (a0.length:Int)),(0:Int)))
noncomputable def g_VZ36_0 (a0:tL1) (a1:Int):Int := bif decide (IntKind.i64.wrap (a1 - (a0.length:Int)) < 0) then (-1:Int) else bif isL (valO (g_LZ36_0 a0 (IntKind.i64.wrap (a1 - (a0.length:Int)),(0:Int)))) then (getL (valO (g_LZ36_0 a0 (IntKind.i64.wrap (a1 - (a0.length:Int)),(0:Int))))).2 else getR (valO (g_LZ36_0 a0 (IntKind.i64.wrap (a1 - (a0.length:Int)),(0:Int))))
noncomputable def FZ36:FSem := fun ys => match ys with
 | [.val false [.sl .any 169 (.pair (.int .i64) (.pair (.int .i64) (.pair (.sl 9 .str) (.sl 196 (.pair .str (.pair .bool (.sl 3 (.int .i64)))))))) a0],.val false [.int .i64 a1]] => some ((g_AZ36 a0 a1),.val false [.int .i64 (g_VZ36_0 a0 a1)],[])
 | _ => none
theorem vZ36 (a0:tL1) (a1:Int):collapseH .std EZ36 OZ36_1 (execFn EZ36 Tryz.f88 msZ36 [.val false [.sl .any 169 (.pair (.int .i64) (.pair (.int .i64) (.pair (.sl 9 .str) (.sl 196 (.pair .str (.pair .bool (.sl 3 (.int .i64)))))))) a0],.val false [.int .i64 a1]]) = some ((g_AZ36 a0 a1),.val false [.int .i64 (g_VZ36_0 a0 a1)],[]) := by kernel_rfl
theorem sZ36:Sound Tryz.prog 88 msZ36 FZ36 := by
 refine fn_gen goodZ36 (by kernel_rfl) .std (fn := Tryz.f88) (c := (Tryz.f88.body.getD .skip)) (o := OZ36_1) (k := 1) (by kernel_rfl) (by kernel_rfl) (by kernel_rfl) (by kernel_rfl) (by decide) kZ36_1 ?_
 intro ys r outs h
 unfold FZ36 at h
 split at h
 ·exact (vZ36 _ _).trans h
 ·cases h
noncomputable def EZ49:Env where
 tt := mkTI Tryz.prog
 fn := fun f => match f with
  | 88 => some (msZ36,FSem.wk msZ36 FZ36)
  | _ => none
 bxf := fun _ => none
 mv := []
 keep := fun _ => []
 keepB := fun _ => []
 keepX := fun _ => []
 keepXB := fun _ => []
theorem goodFZ49:∀ f ms F,EZ49.fn f = some (ms,F) → Sound Tryz.prog f ms F := fun f ms F h => by
 unfold EZ49 at h
 dsimp only at h
 split at h
 ·exact gF sZ36 h
 ·cases h
theorem goodZ49:Good Tryz.prog EZ49 := ⟨rfl,goodFZ49,fun f ms F h => by cases h⟩
noncomputable def OZ49_0:Orc := fun _ _ => none
noncomputable def msZ49:List PM := [.rd,.own]
noncomputable def lsZ49:List (Nat×Code) := loopsAll 0 (Tryz.f27.body.getD .skip)
theorem kZ49_0:OrcOk EZ49 OZ49_0 lsZ49 0 := orcOk_none
noncomputable def g_AZ49 (a0:tL1) (a1:Int) (a2:Int):Bool := g_AZ36 a0 a2&&true
noncomputable def g_VZ49_0 (a0:tL1) (a1:Int) (a2:Int):Int := bif decide (g_VZ36_0 a0 a2 < 0) then (-1:Int) else g_VZ36_0 a0 a2
noncomputable def FZ49:FSem := fun ys => match ys with
 | [.val true [.sl .any 169 (.pair (.int .i64) (.pair (.int .i64) (.pair (.sl 9 .str) (.sl 196 (.pair .str (.pair .bool (.sl 3 (.int .i64)))))))) a0,.int .i64 a1],.val false [.int .i64 a2]] => some ((g_AZ49 a0 a1 a2),.val false [.int .i64 (g_VZ49_0 a0 a1 a2)],[])
 | _ => none
theorem vZ49 (a0:tL1) (a1:Int) (a2:Int):collapseH .std EZ49 OZ49_0 (execFn EZ49 Tryz.f27 msZ49 [.val true [.sl .any 169 (.pair (.int .i64) (.pair (.int .i64) (.pair (.sl 9 .str) (.sl 196 (.pair .str (.pair .bool (.sl 3 (.int .i64)))))))) a0,.int .i64 a1],.val false [.int .i64 a2]]) = some ((g_AZ49 a0 a1 a2),.val false [.int .i64 (g_VZ49_0 a0 a1 a2)],[]) := by kernel_rfl
theorem sZ49:Sound Tryz.prog 27 msZ49 FZ49 := by
 refine fn_gen goodZ49 (by kernel_rfl) .std (fn := Tryz.f27) (c := (Tryz.f27.body.getD .skip)) (o := OZ49_0) (k := 0) (by kernel_rfl) (by kernel_rfl) (by kernel_rfl) (by kernel_rfl) (by decide) kZ49_0 ?_
 intro ys r outs h
 unfold FZ49 at h
 split at h
 ·exact (vZ49 _ _ _).trans h
 ·cases h
noncomputable def EZ37:Env where
 tt := mkTI Tryz.prog
 fn := fun f => match f with
  | 27 => some (msZ49,FSem.wk msZ49 FZ49)
  | 28 => some (msZ64,FSem.wk msZ64 FZ64)
  | _ => none
 bxf := fun _ => none
 mv := []
 keep := fun _ => []
 keepB := fun _ => []
 keepX := fun _ => []
 keepXB := fun _ => []
theorem goodFZ37:∀ f ms F,EZ37.fn f = some (ms,F) → Sound Tryz.prog f ms F := fun f ms F h => by
 unfold EZ37 at h
 dsimp only at h
 split at h
 ·exact gF sZ49 h
 ·exact gF sZ64 h
 ·cases h
theorem goodZ37:Good Tryz.prog EZ37 := ⟨rfl,goodFZ37,fun f ms F h => by cases h⟩
noncomputable def OZ37_0:Orc := fun _ _ => none
noncomputable def msZ37:List PM := [.rd,.own]
noncomputable def lsZ37:List (Nat×Code) := loopsAll 0 (Tryz.f7.body.getD .skip)
theorem kZ37_0:OrcOk EZ37 OZ37_0 lsZ37 0 := orcOk_none
noncomputable def g_AZ37 (a0:tL1) (a1:Int) (a2:tL0) (a3:Int):Bool := g_AZ49 a0 a1 a3&&(decide (g_VZ49_0 a0 a1 a3 < 0) || g_AZ64 a2 (g_VZ49_0 a0 a1 a3)&&true)
noncomputable def g_VZ37_0 (a0:tL1) (a1:Int) (a2:tL0) (a3:Int):Int := bif decide (g_VZ49_0 a0 a1 a3 < 0) then (-1:Int) else bif decide (g_VZ64_0 a2 (g_VZ49_0 a0 a1 a3) < 0) then (-1:Int) else g_VZ64_0 a2 (g_VZ49_0 a0 a1 a3)
noncomputable def FZ37:FSem := fun ys => match ys with
 | [.val true [.sl .any 169 (.pair (.int .i64) (.pair (.int .i64) (.pair (.sl 9 .str) (.sl 196 (.pair .str (.pair .bool (.sl 3 (.int .i64)))))))) a0,.int .i64 a1,.sl .any 129 (.pair (.int .i64) (.pair (.pair (.int .i64) (.pair (.int .i64) (.pair (.int .i64) (.pair (.int .i64) (.pair (.int .i64) (.pair (.int .i64) (.int .i64))))))) (.pair .bool (.pair (.sl 3 (.int .i64)) (.sl 3 (.int .i64)))))) a2],.val false [.int .i64 a3]] => some ((g_AZ37 a0 a1 a2 a3),.val false [.int .i64 (g_VZ37_0 a0 a1 a2 a3)],[])
 | _ => none
theorem vZ37 (a0:tL1) (a1:Int) (a2:tL0) (a3:Int):collapseH .std EZ37 OZ37_0 (execFn EZ37 Tryz.f7 msZ37 [.val true [.sl .any 169 (.pair (.int .i64) (.pair (.int .i64) (.pair (.sl 9 .str) (.sl 196 (.pair .str (.pair .bool (.sl 3 (.int .i64)))))))) a0,.int .i64 a1,.sl .any 129 (.pair (.int .i64) (.pair (.pair (.int .i64) (.pair (.int .i64) (.pair (.int .i64) (.pair (.int .i64) (.pair (.int .i64) (.pair (.int .i64) (.int .i64))))))) (.pair .bool (.pair (.sl 3 (.int .i64)) (.sl 3 (.int .i64)))))) a2],.val false [.int .i64 a3]]) = some ((g_AZ37 a0 a1 a2 a3),.val false [.int .i64 (g_VZ37_0 a0 a1 a2 a3)],[]) := by kernel_rfl
theorem sZ37:Sound Tryz.prog 7 msZ37 FZ37 := by
 refine fn_gen goodZ37 (by kernel_rfl) .std (fn := Tryz.f7) (c := (Tryz.f7.body.getD .skip)) (o := OZ37_0) (k := 0) (by kernel_rfl) (by kernel_rfl) (by kernel_rfl) (by kernel_rfl) (by decide) kZ37_0 ?_
 intro ys r outs h
 unfold FZ37 at h
 split at h
 ·exact (vZ37 _ _ _ _).trans h
 ·cases h
noncomputable def Ew_toIntS:Env where
 tt := mkTI Tryz.prog
 fn := fun _ => none
 bxf := fun _ => none
 mv := []
 keep := fun b => match b with
  | 0 => [(0,false),(3,false),(4,false)]
  | _ => []
 keepB := fun b => match b with
  | 0 => []
  | _ => []
 keepX := fun b => match b with
  | 0 => [(3,false)]
  | _ => []
 keepXB := fun b => match b with
  | 0 => []
  | _ => []
theorem goodFw_toIntS:∀ f ms F,Ew_toIntS.fn f = some (ms,F) → Sound Tryz.prog f ms F := fun f ms F h => by cases h
theorem goodw_toIntS:Good Tryz.prog Ew_toIntS := ⟨rfl,goodFw_toIntS,fun f ms F h => by cases h⟩
noncomputable def Ow_toIntS_0:Orc := fun _ _ => none
noncomputable def msw_toIntS:List PM := [.rd]
noncomputable def lsw_toIntS:List (Nat×Code) := loopsAll 0 (Tryz.f136.body.getD .skip)
noncomputable def cw_toIntS_0:Code := (loopOf 0 (Tryz.f136.body.getD .skip)).getD .skip
theorem lseqw_toIntS:lsw_toIntS = [(0,cw_toIntS_0)] := by kernel_rfl
theorem mw_toIntS_0:∀ p,p ∈ lsw_toIntS → p.1 = 0 → p.2 = cw_toIntS_0 := by
 intro p hp
 rw [lseqw_toIntS] at hp
 simp only [List.mem_cons,List.not_mem_nil,or_false] at hp
 subst hp; simp
theorem kw_toIntS_0:OrcOk Ew_toIntS Ow_toIntS_0 lsw_toIntS 0 := orcOk_none
noncomputable def hw_toIntS_0 (y0:List Int) (y1:List Int) (y2:Int):List (Pl×LV) := [(.T 0,.t (.val false [.sl .any 3 (.int .i64) y0])),(.T 3,.t (.val false [.row 3 0 0])),(.R 3 0,.r 0 (some ⟨false,.non,true,3,(.int .i64),y1⟩)),(.T 4,.t (.val false [.int .i64 y2]))]
noncomputable def g_Sw_toIntS_0 (y0:List Int):((List Int)×Int) → RT ((List Int)×Int) (((List Int)))
 | (y1,y2) => .br (true) (.br (decide (y2 < (y0.length:Int))) (.br (decide (0 ≤ y2 ∧ y2 < (y0.length:Int))) (.br (decide (0 ≤ y2 ∧ y2 < (y1.length:Int))) (.br (decide (Int.toNat y2 < List.length y1)) (.br (true) (.go ((List.set y1 (Int.toNat y2) (at_ (.int .i64) y0 (Int.toNat y2)),IntKind.i64.wrap (y2 + 1)))) .bad) .bad) .bad) .bad) (.out (y1))) .bad
noncomputable def g_Lw_toIntS_0 (y0:List Int) (x:(List Int)×Int):Option (((List Int))) := loopO (g_Sw_toIntS_0 y0) x
noncomputable def xw_toIntS_0 (y0:List Int):(((List Int))) → Ex×List (Pl×LV) := fun r => (.exit 0,[(.T 3,.t (.val false [.row 3 0 0])),(.R 3 0,.r 0 (some ⟨false,.non,true,3,(.int .i64),r⟩))])
noncomputable def Ow_toIntS_1:Orc := fun b h => match b,h with
 | 0,[(.T 0,.t (.val false [.sl .any 3 (.int .i64) y0])),(.T 3,.t (.val false [.row 3 0 0])),(.R 3 0,.r 0 (some ⟨false,.non,true,3,(.int .i64),y1⟩)),(.T 4,.t (.val false [.int .i64 y2]))] => some (okO (g_Lw_toIntS_0 y0 (y1,y2)),(.leaf (.exit 0) [(.T 3,.t (.val false [.row 3 0 0])),(.R 3 0,.r 0 (some ⟨false,.non,true,3,(.int .i64),(valO (g_Lw_toIntS_0 y0 (y1,y2)))⟩))]))
 | b,h => Ow_toIntS_0 b h
theorem bw_toIntS_0 (y0:List Int) (y1:List Int) (y2:Int):Tr.bt Ew_toIntS Ow_toIntS_0 (exec Ew_toIntS 0 cw_toIntS_0 (St.of (hw_toIntS_0 y0 y1 y2)) (leafRd Ew_toIntS 0)) = (g_Sw_toIntS_0 y0 (y1,y2)).bt (fun ((y1,y2):(List Int)×Int) => (hw_toIntS_0 y0 y1 y2)) (xw_toIntS_0 y0) := by kernel_rfl
theorem kw_toIntS_1:OrcOk Ew_toIntS Ow_toIntS_1 lsw_toIntS 1 := orc_add kw_toIntS_0 (fun n p hp h ex h' ho => by
 obtain ⟨b,c⟩ := p
 obtain ⟨xt,h1,h2⟩ := ho
 have h1:Ow_toIntS_1 b h = some (true,xt) := h1
 unfold Ow_toIntS_1 at h1
 split at h1
 ·injection h1 with h1
  injection h1 with e1 e2
  subst e2
  have hc:c = cw_toIntS_0 := mw_toIntS_0 _ hp rfl
  subst hc
  right
  rename_i y0 y1 y2
  have key := LT_step kw_toIntS_0 hp (fun q hq => loopsAll_in _ _ _ _ hp hq) (fun ((y1,y2):(List Int)×Int) => (hw_toIntS_0 y0 y1 y2)) (xw_toIntS_0 y0) (g_Sw_toIntS_0 y0) (fun x => by first | exact bw_toIntS_0 y0 x.1 x.2) n (x := (y1,y2)) (okO_some e1)
  have hx:∀ r,XT.sel (.leaf (.exit 0) [(.T 3,.t (.val false [.row 3 0 0])),(.R 3 0,.r 0 (some ⟨false,.non,true,3,(.int .i64),r⟩))]) = xw_toIntS_0 y0 r := fun r => by first | rfl | rcases r with r | r <;> rfl | rcases r with r | r | r <;> rfl | rcases r with r | r | r | r <;> rfl
  have h3 := (hx (valO (g_Lw_toIntS_0 y0 (y1,y2)))).symm.trans h2
  have e3 := congrArg Prod.fst h3
  have e4 := congrArg Prod.snd h3
  simp only at e3 e4
  rw [← e3,← e4]
  exact key
 ·exact .inl ⟨xt,h1,h2⟩)
noncomputable def g_Aw_toIntS (a0:List Int):Bool := decide ((a0.length:Int) = (a0.length:Int) ∧ 0 ≤ (a0.length:Int) ∧ (a0.length:Int) ≤ 9223372036854775807 ∧ 8 * (a0.length:Int) ≤ 281474976710656)&&okO (g_Lw_toIntS_0 a0 (List.replicate (Int.toNat (a0.length:Int)) (0:Int),(0:Int)))
noncomputable def g_Vw_toIntS_0 (a0:List Int):List Int := valO (g_Lw_toIntS_0 a0 (List.replicate (Int.toNat (a0.length:Int)) (0:Int),(0:Int)))
noncomputable def Fw_toIntS:FSem := fun ys => match ys with
 | [.val false [.sl .any 3 (.int .i64) a0]] => some ((g_Aw_toIntS a0),.val false [.own .any true 3 (.int .i64) (g_Vw_toIntS_0 a0)],[])
 | _ => none
theorem vw_toIntS (a0:List Int):collapseH .std Ew_toIntS Ow_toIntS_1 (execFn Ew_toIntS Tryz.f136 msw_toIntS [.val false [.sl .any 3 (.int .i64) a0]]) = some ((g_Aw_toIntS a0),.val false [.own .any true 3 (.int .i64) (g_Vw_toIntS_0 a0)],[]) := by kernel_rfl
theorem sw_toIntS:Sound Tryz.prog 136 msw_toIntS Fw_toIntS := by
 refine fn_gen goodw_toIntS (by kernel_rfl) .std (fn := Tryz.f136) (c := (Tryz.f136.body.getD .skip)) (o := Ow_toIntS_1) (k := 1) (by kernel_rfl) (by kernel_rfl) (by kernel_rfl) (by kernel_rfl) (by decide) kw_toIntS_1 ?_
 intro ys r outs h
 unfold Fw_toIntS at h
 split at h
 ·exact (vw_toIntS _).trans h
 ·cases h
noncomputable def Ew_toOpOp:Env where
 tt := mkTI Tryz.prog
 fn := fun _ => none
 bxf := fun _ => none
 mv := []
 keep := fun _ => []
 keepB := fun _ => []
 keepX := fun _ => []
 keepXB := fun _ => []
theorem goodFw_toOpOp:∀ f ms F,Ew_toOpOp.fn f = some (ms,F) → Sound Tryz.prog f ms F := fun f ms F h => by cases h
theorem goodw_toOpOp:Good Tryz.prog Ew_toOpOp := ⟨rfl,goodFw_toOpOp,fun f ms F h => by cases h⟩
noncomputable def Ow_toOpOp_0:Orc := fun _ _ => none
noncomputable def msw_toOpOp:List PM := [.own]
noncomputable def lsw_toOpOp:List (Nat×Code) := loopsAll 0 (Tryz.f20.body.getD .skip)
theorem kw_toOpOp_0:OrcOk Ew_toOpOp Ow_toOpOp_0 lsw_toOpOp 0 := orcOk_none
noncomputable def Fw_toOpOp:FSem := fun ys => match ys with
 | [.val true [.int .i64 a0,.int .i64 a1,.int .i64 a2,.int .i64 a3,.int .i64 a4,.int .i64 a5,.int .i64 a6]] => some (true,.val true [.int .i64 a0,.int .i64 a1,.int .i64 a2,.int .i64 a3,.int .i64 a4,.int .i64 a5,.int .i64 a6],[])
 | _ => none
theorem vw_toOpOp (a0:Int) (a1:Int) (a2:Int) (a3:Int) (a4:Int) (a5:Int) (a6:Int):collapseH .std Ew_toOpOp Ow_toOpOp_0 (execFn Ew_toOpOp Tryz.f20 msw_toOpOp [.val true [.int .i64 a0,.int .i64 a1,.int .i64 a2,.int .i64 a3,.int .i64 a4,.int .i64 a5,.int .i64 a6]]) = some (true,.val true [.int .i64 a0,.int .i64 a1,.int .i64 a2,.int .i64 a3,.int .i64 a4,.int .i64 a5,.int .i64 a6],[]) := by kernel_rfl
theorem sw_toOpOp:Sound Tryz.prog 20 msw_toOpOp Fw_toOpOp := by
 refine fn_gen goodw_toOpOp (by kernel_rfl) .std (fn := Tryz.f20) (c := (Tryz.f20.body.getD .skip)) (o := Ow_toOpOp_0) (k := 0) (by kernel_rfl) (by kernel_rfl) (by kernel_rfl) (by kernel_rfl) (by decide) kw_toOpOp_0 ?_
 intro ys r outs h
 unfold Fw_toOpOp at h
 split at h
 ·exact (vw_toOpOp _ _ _ _ _ _ _).trans h
 ·cases h
noncomputable def Ew_toFroTx:Env where
 tt := mkTI Tryz.prog
 fn := fun f => match f with
  | 20 => some (msw_toOpOp,FSem.wk msw_toOpOp Fw_toOpOp)
  | 136 => some (msw_toIntS,FSem.wk msw_toIntS Fw_toIntS)
  | _ => none
 bxf := fun _ => none
 mv := []
 keep := fun _ => []
 keepB := fun _ => []
 keepX := fun _ => []
 keepXB := fun _ => []
theorem goodFw_toFroTx:∀ f ms F,Ew_toFroTx.fn f = some (ms,F) → Sound Tryz.prog f ms F := fun f ms F h => by
 unfold Ew_toFroTx at h
 dsimp only at h
 split at h
 ·exact gF sw_toOpOp h
 ·exact gF sw_toIntS h
 ·cases h
theorem goodw_toFroTx:Good Tryz.prog Ew_toFroTx := ⟨rfl,goodFw_toFroTx,fun f ms F h => by cases h⟩
noncomputable def Ow_toFroTx_0:Orc := fun _ _ => none
noncomputable def msw_toFroTx:List PM := [.rd]
noncomputable def lsw_toFroTx:List (Nat×Code) := loopsAll 0 (Tryz.f94.body.getD .skip)
theorem kw_toFroTx_0:OrcOk Ew_toFroTx Ow_toFroTx_0 lsw_toFroTx 0 := orcOk_none
noncomputable def g_Aw_toFroTx (a0:Int) (a1:Int) (a2:Int) (a3:Int) (a4:Int) (a5:Int) (a6:Int) (a7:Int) (a8:Bool) (a9:List Int) (a10:List Int):Bool := g_Aw_toIntS a9&&g_Aw_toIntS a10
noncomputable def Fw_toFroTx:FSem := fun ys => match ys with
 | [.val true [.int .i64 a0,.int .i64 a1,.int .i64 a2,.int .i64 a3,.int .i64 a4,.int .i64 a5,.int .i64 a6,.int .i64 a7,.bool a8,.sl .any 3 (.int .i64) a9,.sl .any 3 (.int .i64) a10]] => some ((g_Aw_toFroTx a0 a1 a2 a3 a4 a5 a6 a7 a8 a9 a10),.val true [.int .i64 a0,.int .i64 a1,.int .i64 a2,.int .i64 a3,.int .i64 a4,.int .i64 a5,.int .i64 a6,.int .i64 a7,.bool a8,.own .any true 3 (.int .i64) (g_Vw_toIntS_0 a9),.own .any true 3 (.int .i64) (g_Vw_toIntS_0 a10)],[])
 | _ => none
theorem vw_toFroTx (a0:Int) (a1:Int) (a2:Int) (a3:Int) (a4:Int) (a5:Int) (a6:Int) (a7:Int) (a8:Bool) (a9:List Int) (a10:List Int):collapseH .std Ew_toFroTx Ow_toFroTx_0 (execFn Ew_toFroTx Tryz.f94 msw_toFroTx [.val true [.int .i64 a0,.int .i64 a1,.int .i64 a2,.int .i64 a3,.int .i64 a4,.int .i64 a5,.int .i64 a6,.int .i64 a7,.bool a8,.sl .any 3 (.int .i64) a9,.sl .any 3 (.int .i64) a10]]) = some ((g_Aw_toFroTx a0 a1 a2 a3 a4 a5 a6 a7 a8 a9 a10),.val true [.int .i64 a0,.int .i64 a1,.int .i64 a2,.int .i64 a3,.int .i64 a4,.int .i64 a5,.int .i64 a6,.int .i64 a7,.bool a8,.own .any true 3 (.int .i64) (g_Vw_toIntS_0 a9),.own .any true 3 (.int .i64) (g_Vw_toIntS_0 a10)],[]) := by kernel_rfl
theorem sw_toFroTx:Sound Tryz.prog 94 msw_toFroTx Fw_toFroTx := by
 refine fn_gen goodw_toFroTx (by kernel_rfl) .std (fn := Tryz.f94) (c := (Tryz.f94.body.getD .skip)) (o := Ow_toFroTx_0) (k := 0) (by kernel_rfl) (by kernel_rfl) (by kernel_rfl) (by kernel_rfl) (by decide) kw_toFroTx_0 ?_
 intro ys r outs h
 unfold Fw_toFroTx at h
 split at h
 ·exact (vw_toFroTx _ _ _ _ _ _ _ _ _ _ _).trans h
 ·cases h
noncomputable def EZ65:Env where
 tt := mkTI Tryz.prog
 fn := fun f => match f with
  | 94 => some (msw_toFroTx,FSem.wk msw_toFroTx Fw_toFroTx)
  | _ => none
 bxf := fun _ => none
 mv := []
 keep := fun b => match b with
  | 0 => [(0,false),(3,false),(4,false)]
  | _ => []
 keepB := fun b => match b with
  | 0 => []
  | _ => []
 keepX := fun b => match b with
  | 0 => [(3,false)]
  | _ => []
 keepXB := fun b => match b with
  | 0 => []
  | _ => []
theorem goodFZ65:∀ f ms F,EZ65.fn f = some (ms,F) → Sound Tryz.prog f ms F := fun f ms F h => by
 unfold EZ65 at h
 dsimp only at h
 split at h
 ·exact gF sw_toFroTx h
 ·cases h
theorem goodZ65:Good Tryz.prog EZ65 := ⟨rfl,goodFZ65,fun f ms F h => by cases h⟩
noncomputable def OZ65_0:Orc := fun _ _ => none
noncomputable def msZ65:List PM := [.rd]
noncomputable def lsZ65:List (Nat×Code) := loopsAll 0 (Tryz.f35.body.getD .skip)
noncomputable def cZ65_0:Code := (loopOf 0 (Tryz.f35.body.getD .skip)).getD .skip
theorem lseqZ65:lsZ65 = [(0,cZ65_0)] := by kernel_rfl
theorem mZ65_0:∀ p,p ∈ lsZ65 → p.1 = 0 → p.2 = cZ65_0 := by
 intro p hp
 rw [lseqZ65] at hp
 simp only [List.mem_cons,List.not_mem_nil,or_false] at hp
 subst hp; simp
theorem kZ65_0:OrcOk EZ65 OZ65_0 lsZ65 0 := orcOk_none
noncomputable def hZ65_0 (y0:tL0) (y1:tL0) (y2:Int):List (Pl×LV) := [(.T 0,.t (.val false [.sl .any 129 (.pair (.int .i64) (.pair (.pair (.int .i64) (.pair (.int .i64) (.pair (.int .i64) (.pair (.int .i64) (.pair (.int .i64) (.pair (.int .i64) (.int .i64))))))) (.pair .bool (.pair (.sl 3 (.int .i64)) (.sl 3 (.int .i64)))))) y0])),(.T 3,.t (.val false [.row 3 0 0])),(.R 3 0,.r 0 (some ⟨false,.non,true,73,(.pair (.int .i64) (.pair (.pair (.int .i64) (.pair (.int .i64) (.pair (.int .i64) (.pair (.int .i64) (.pair (.int .i64) (.pair (.int .i64) (.int .i64))))))) (.pair .bool (.pair (.sl 3 (.int .i64)) (.sl 3 (.int .i64)))))),y1⟩)),(.T 4,.t (.val false [.int .i64 y2]))]
noncomputable def g_SZ65_0 (y0:tL0):(tL0×Int) → RT (tL0×Int) ((tL0))
 | (y1,y2) => .br (true) (.br (decide (y2 < (y0.length:Int))) (.br (decide (0 ≤ y2 ∧ y2 < (y0.length:Int))) (.br (g_Aw_toFroTx (at_ yT0 y0 (Int.toNat y2)).1 (at_ yT0 y0 (Int.toNat y2)).2.1.1 (at_ yT0 y0 (Int.toNat y2)).2.1.2.1 (at_ yT0 y0 (Int.toNat y2)).2.1.2.2.1 (at_ yT0 y0 (Int.toNat y2)).2.1.2.2.2.1 (at_ yT0 y0 (Int.toNat y2)).2.1.2.2.2.2.1 (at_ yT0 y0 (Int.toNat y2)).2.1.2.2.2.2.2.1 (at_ yT0 y0 (Int.toNat y2)).2.1.2.2.2.2.2.2 (at_ yT0 y0 (Int.toNat y2)).2.2.1 (at_ yT0 y0 (Int.toNat y2)).2.2.2.1 (at_ yT0 y0 (Int.toNat y2)).2.2.2.2) (.br (decide (0 ≤ y2 ∧ y2 < (y1.length:Int))) (.br (decide (Int.toNat y2 < List.length y1)) (.br (true) (.go ((List.set y1 (Int.toNat y2) ((at_ yT0 y0 (Int.toNat y2)).1,((at_ yT0 y0 (Int.toNat y2)).2.1.1,(at_ yT0 y0 (Int.toNat y2)).2.1.2.1,(at_ yT0 y0 (Int.toNat y2)).2.1.2.2.1,(at_ yT0 y0 (Int.toNat y2)).2.1.2.2.2.1,(at_ yT0 y0 (Int.toNat y2)).2.1.2.2.2.2.1,(at_ yT0 y0 (Int.toNat y2)).2.1.2.2.2.2.2.1,(at_ yT0 y0 (Int.toNat y2)).2.1.2.2.2.2.2.2),(at_ yT0 y0 (Int.toNat y2)).2.2.1,g_Vw_toIntS_0 (at_ yT0 y0 (Int.toNat y2)).2.2.2.1,g_Vw_toIntS_0 (at_ yT0 y0 (Int.toNat y2)).2.2.2.2),IntKind.i64.wrap (y2 + 1)))) .bad) .bad) .bad) .bad) .bad) (.out (y1))) .bad
noncomputable def g_LZ65_0 (y0:tL0) (x:tL0×Int):Option ((tL0)) := loopO (g_SZ65_0 y0) x
noncomputable def xZ65_0 (y0:tL0):((tL0)) → Ex×List (Pl×LV) := fun r => (.exit 0,[(.T 3,.t (.val false [.row 3 0 0])),(.R 3 0,.r 0 (some ⟨false,.non,true,73,(.pair (.int .i64) (.pair (.pair (.int .i64) (.pair (.int .i64) (.pair (.int .i64) (.pair (.int .i64) (.pair (.int .i64) (.pair (.int .i64) (.int .i64))))))) (.pair .bool (.pair (.sl 3 (.int .i64)) (.sl 3 (.int .i64)))))),r⟩))])
noncomputable def OZ65_1:Orc := fun b h => match b,h with
 | 0,[(.T 0,.t (.val false [.sl .any 129 (.pair (.int .i64) (.pair (.pair (.int .i64) (.pair (.int .i64) (.pair (.int .i64) (.pair (.int .i64) (.pair (.int .i64) (.pair (.int .i64) (.int .i64))))))) (.pair .bool (.pair (.sl 3 (.int .i64)) (.sl 3 (.int .i64)))))) y0])),(.T 3,.t (.val false [.row 3 0 0])),(.R 3 0,.r 0 (some ⟨false,.non,true,73,(.pair (.int .i64) (.pair (.pair (.int .i64) (.pair (.int .i64) (.pair (.int .i64) (.pair (.int .i64) (.pair (.int .i64) (.pair (.int .i64) (.int .i64))))))) (.pair .bool (.pair (.sl 3 (.int .i64)) (.sl 3 (.int .i64)))))),y1⟩)),(.T 4,.t (.val false [.int .i64 y2]))] => some (okO (g_LZ65_0 y0 (y1,y2)),(.leaf (.exit 0) [(.T 3,.t (.val false [.row 3 0 0])),(.R 3 0,.r 0 (some ⟨false,.non,true,73,(.pair (.int .i64) (.pair (.pair (.int .i64) (.pair (.int .i64) (.pair (.int .i64) (.pair (.int .i64) (.pair (.int .i64) (.pair (.int .i64) (.int .i64))))))) (.pair .bool (.pair (.sl 3 (.int .i64)) (.sl 3 (.int .i64)))))),(valO (g_LZ65_0 y0 (y1,y2)))⟩))]))
 | b,h => OZ65_0 b h
theorem bZ65_0 (y0:tL0) (y1:tL0) (y2:Int):Tr.bt EZ65 OZ65_0 (exec EZ65 0 cZ65_0 (St.of (hZ65_0 y0 y1 y2)) (leafRd EZ65 0)) = (g_SZ65_0 y0 (y1,y2)).bt (fun ((y1,y2):tL0×Int) => (hZ65_0 y0 y1 y2)) (xZ65_0 y0) := by kernel_rfl
theorem kZ65_1:OrcOk EZ65 OZ65_1 lsZ65 1 := orc_add kZ65_0 (fun n p hp h ex h' ho => by
 obtain ⟨b,c⟩ := p
 obtain ⟨xt,h1,h2⟩ := ho
 have h1:OZ65_1 b h = some (true,xt) := h1
 unfold OZ65_1 at h1
 split at h1
 ·injection h1 with h1
  injection h1 with e1 e2
  subst e2
  have hc:c = cZ65_0 := mZ65_0 _ hp rfl
  subst hc
  right
  rename_i y0 y1 y2
  have key := LT_step kZ65_0 hp (fun q hq => loopsAll_in _ _ _ _ hp hq) (fun ((y1,y2):tL0×Int) => (hZ65_0 y0 y1 y2)) (xZ65_0 y0) (g_SZ65_0 y0) (fun x => by first | exact bZ65_0 y0 x.1 x.2) n (x := (y1,y2)) (okO_some e1)
  have hx:∀ r,XT.sel (.leaf (.exit 0) [(.T 3,.t (.val false [.row 3 0 0])),(.R 3 0,.r 0 (some ⟨false,.non,true,73,(.pair (.int .i64) (.pair (.pair (.int .i64) (.pair (.int .i64) (.pair (.int .i64) (.pair (.int .i64) (.pair (.int .i64) (.pair (.int .i64) (.int .i64))))))) (.pair .bool (.pair (.sl 3 (.int .i64)) (.sl 3 (.int .i64)))))),r⟩))]) = xZ65_0 y0 r := fun r => by first | rfl | rcases r with r | r <;> rfl | rcases r with r | r | r <;> rfl | rcases r with r | r | r | r <;> rfl
  have h3 := (hx (valO (g_LZ65_0 y0 (y1,y2)))).symm.trans h2
  have e3 := congrArg Prod.fst h3
  have e4 := congrArg Prod.snd h3
  simp only at e3 e4
  rw [← e3,← e4]
  exact key
 ·exact .inl ⟨xt,h1,h2⟩)
noncomputable def g_AZ65 (a0:tL0):Bool := decide ((a0.length:Int) = (a0.length:Int) ∧ 0 ≤ (a0.length:Int) ∧ (a0.length:Int) ≤ 9223372036854775807 ∧ 120 * (a0.length:Int) ≤ 281474976710656)&&okO (g_LZ65_0 a0 (List.replicate (Int.toNat (a0.length:Int)) ((0:Int),((0:Int),(0:Int),(0:Int),(0:Int),(0:Int),(0:Int),(0:Int)),false,([]:List Int),([]:List Int)),(0:Int)))
noncomputable def g_VZ65_0 (a0:tL0):tL0 := valO (g_LZ65_0 a0 (List.replicate (Int.toNat (a0.length:Int)) ((0:Int),((0:Int),(0:Int),(0:Int),(0:Int),(0:Int),(0:Int),(0:Int)),false,([]:List Int),([]:List Int)),(0:Int)))
noncomputable def FZ65:FSem := fun ys => match ys with
 | [.val false [.sl .any 129 (.pair (.int .i64) (.pair (.pair (.int .i64) (.pair (.int .i64) (.pair (.int .i64) (.pair (.int .i64) (.pair (.int .i64) (.pair (.int .i64) (.int .i64))))))) (.pair .bool (.pair (.sl 3 (.int .i64)) (.sl 3 (.int .i64)))))) a0]] => some ((g_AZ65 a0),.val false [.own .any true 73 (.pair (.int .i64) (.pair (.pair (.int .i64) (.pair (.int .i64) (.pair (.int .i64) (.pair (.int .i64) (.pair (.int .i64) (.pair (.int .i64) (.int .i64))))))) (.pair .bool (.pair (.sl 3 (.int .i64)) (.sl 3 (.int .i64)))))) (g_VZ65_0 a0)],[])
 | _ => none
theorem vZ65 (a0:tL0):collapseH .std EZ65 OZ65_1 (execFn EZ65 Tryz.f35 msZ65 [.val false [.sl .any 129 (.pair (.int .i64) (.pair (.pair (.int .i64) (.pair (.int .i64) (.pair (.int .i64) (.pair (.int .i64) (.pair (.int .i64) (.pair (.int .i64) (.int .i64))))))) (.pair .bool (.pair (.sl 3 (.int .i64)) (.sl 3 (.int .i64)))))) a0]]) = some ((g_AZ65 a0),.val false [.own .any true 73 (.pair (.int .i64) (.pair (.pair (.int .i64) (.pair (.int .i64) (.pair (.int .i64) (.pair (.int .i64) (.pair (.int .i64) (.pair (.int .i64) (.int .i64))))))) (.pair .bool (.pair (.sl 3 (.int .i64)) (.sl 3 (.int .i64)))))) (g_VZ65_0 a0)],[]) := by kernel_rfl
theorem sZ65:Sound Tryz.prog 35 msZ65 FZ65 := by
 refine fn_gen goodZ65 (by kernel_rfl) .std (fn := Tryz.f35) (c := (Tryz.f35.body.getD .skip)) (o := OZ65_1) (k := 1) (by kernel_rfl) (by kernel_rfl) (by kernel_rfl) (by kernel_rfl) (by decide) kZ65_1 ?_
 intro ys r outs h
 unfold FZ65 at h
 split at h
 ·exact (vZ65 _).trans h
 ·cases h
noncomputable def EZ38:Env where
 tt := mkTI Tryz.prog
 fn := fun f => match f with
  | 136 => some (msw_toIntS,FSem.wk msw_toIntS Fw_toIntS)
  | _ => none
 bxf := fun _ => none
 mv := []
 keep := fun _ => []
 keepB := fun _ => []
 keepX := fun _ => []
 keepXB := fun _ => []
theorem goodFZ38:∀ f ms F,EZ38.fn f = some (ms,F) → Sound Tryz.prog f ms F := fun f ms F h => by
 unfold EZ38 at h
 dsimp only at h
 split at h
 ·exact gF sw_toIntS h
 ·cases h
theorem goodZ38:Good Tryz.prog EZ38 := ⟨rfl,goodFZ38,fun f ms F h => by cases h⟩
noncomputable def OZ38_0:Orc := fun _ _ => none
noncomputable def msZ38:List PM := [.rd]
noncomputable def lsZ38:List (Nat×Code) := loopsAll 0 (Tryz.f175.body.getD .skip)
theorem kZ38_0:OrcOk EZ38 OZ38_0 lsZ38 0 := orcOk_none
noncomputable def g_AZ38 (a0:ByteArray) (a1:Bool) (a2:List Int):Bool := g_Aw_toIntS a2
noncomputable def FZ38:FSem := fun ys => match ys with
 | [.val true [.str a0,.bool a1,.sl .any 3 (.int .i64) a2]] => some ((g_AZ38 a0 a1 a2),.val true [.str a0,.bool a1,.own .any true 3 (.int .i64) (g_Vw_toIntS_0 a2)],[])
 | _ => none
theorem vZ38 (a0:ByteArray) (a1:Bool) (a2:List Int):collapseH .std EZ38 OZ38_0 (execFn EZ38 Tryz.f175 msZ38 [.val true [.str a0,.bool a1,.sl .any 3 (.int .i64) a2]]) = some ((g_AZ38 a0 a1 a2),.val true [.str a0,.bool a1,.own .any true 3 (.int .i64) (g_Vw_toIntS_0 a2)],[]) := by kernel_rfl
theorem sZ38:Sound Tryz.prog 175 msZ38 FZ38 := by
 refine fn_gen goodZ38 (by kernel_rfl) .std (fn := Tryz.f175) (c := (Tryz.f175.body.getD .skip)) (o := OZ38_0) (k := 0) (by kernel_rfl) (by kernel_rfl) (by kernel_rfl) (by kernel_rfl) (by decide) kZ38_0 ?_
 intro ys r outs h
 unfold FZ38 at h
 split at h
 ·exact (vZ38 _ _ _).trans h
 ·cases h
noncomputable def EZ28:Env where
 tt := mkTI Tryz.prog
 fn := fun f => match f with
  | 175 => some (msZ38,FSem.wk msZ38 FZ38)
  | _ => none
 bxf := fun _ => none
 mv := []
 keep := fun b => match b with
  | 0 => [(0,false),(3,false),(4,false)]
  | _ => []
 keepB := fun b => match b with
  | 0 => []
  | _ => []
 keepX := fun b => match b with
  | 0 => [(3,false)]
  | _ => []
 keepXB := fun b => match b with
  | 0 => []
  | _ => []
theorem goodFZ28:∀ f ms F,EZ28.fn f = some (ms,F) → Sound Tryz.prog f ms F := fun f ms F h => by
 unfold EZ28 at h
 dsimp only at h
 split at h
 ·exact gF sZ38 h
 ·cases h
theorem goodZ28:Good Tryz.prog EZ28 := ⟨rfl,goodFZ28,fun f ms F h => by cases h⟩
noncomputable def OZ28_0:Orc := fun _ _ => none
noncomputable def msZ28:List PM := [.rd]
noncomputable def lsZ28:List (Nat×Code) := loopsAll 0 (Tryz.f159.body.getD .skip)
noncomputable def cZ28_0:Code := (loopOf 0 (Tryz.f159.body.getD .skip)).getD .skip
theorem lseqZ28:lsZ28 = [(0,cZ28_0)] := by kernel_rfl
theorem mZ28_0:∀ p,p ∈ lsZ28 → p.1 = 0 → p.2 = cZ28_0 := by
 intro p hp
 rw [lseqZ28] at hp
 simp only [List.mem_cons,List.not_mem_nil,or_false] at hp
 subst hp; simp
theorem kZ28_0:OrcOk EZ28 OZ28_0 lsZ28 0 := orcOk_none
noncomputable def hZ28_0 (y0:tL3) (y1:tL3) (y2:Int):List (Pl×LV) := [(.T 0,.t (.val false [.sl .any 196 (.pair .str (.pair .bool (.sl 3 (.int .i64)))) y0])),(.T 3,.t (.val false [.row 3 0 0])),(.R 3 0,.r 0 (some ⟨false,.non,true,155,(.pair .str (.pair .bool (.sl 3 (.int .i64)))),y1⟩)),(.T 4,.t (.val false [.int .i64 y2]))]
noncomputable def g_SZ28_0 (y0:tL3):(tL3×Int) → RT (tL3×Int) ((tL3))
 | (y1,y2) => .br (true) (.br (decide (y2 < (y0.length:Int))) (.br (decide (0 ≤ y2 ∧ y2 < (y0.length:Int))) (.br (g_AZ38 (at_ yT4 y0 (Int.toNat y2)).1 (at_ yT4 y0 (Int.toNat y2)).2.1 (at_ yT4 y0 (Int.toNat y2)).2.2) (.br (decide (0 ≤ y2 ∧ y2 < (y1.length:Int))) (.br (decide (Int.toNat y2 < List.length y1)) (.br (true) (.go ((List.set y1 (Int.toNat y2) ((at_ yT4 y0 (Int.toNat y2)).1,(at_ yT4 y0 (Int.toNat y2)).2.1,g_Vw_toIntS_0 (at_ yT4 y0 (Int.toNat y2)).2.2),IntKind.i64.wrap (y2 + 1)))) .bad) .bad) .bad) .bad) .bad) (.out (y1))) .bad
noncomputable def g_LZ28_0 (y0:tL3) (x:tL3×Int):Option ((tL3)) := loopO (g_SZ28_0 y0) x
noncomputable def xZ28_0 (y0:tL3):((tL3)) → Ex×List (Pl×LV) := fun r => (.exit 0,[(.T 3,.t (.val false [.row 3 0 0])),(.R 3 0,.r 0 (some ⟨false,.non,true,155,(.pair .str (.pair .bool (.sl 3 (.int .i64)))),r⟩))])
noncomputable def OZ28_1:Orc := fun b h => match b,h with
 | 0,[(.T 0,.t (.val false [.sl .any 196 (.pair .str (.pair .bool (.sl 3 (.int .i64)))) y0])),(.T 3,.t (.val false [.row 3 0 0])),(.R 3 0,.r 0 (some ⟨false,.non,true,155,(.pair .str (.pair .bool (.sl 3 (.int .i64)))),y1⟩)),(.T 4,.t (.val false [.int .i64 y2]))] => some (okO (g_LZ28_0 y0 (y1,y2)),(.leaf (.exit 0) [(.T 3,.t (.val false [.row 3 0 0])),(.R 3 0,.r 0 (some ⟨false,.non,true,155,(.pair .str (.pair .bool (.sl 3 (.int .i64)))),(valO (g_LZ28_0 y0 (y1,y2)))⟩))]))
 | b,h => OZ28_0 b h
theorem bZ28_0 (y0:tL3) (y1:tL3) (y2:Int):Tr.bt EZ28 OZ28_0 (exec EZ28 0 cZ28_0 (St.of (hZ28_0 y0 y1 y2)) (leafRd EZ28 0)) = (g_SZ28_0 y0 (y1,y2)).bt (fun ((y1,y2):tL3×Int) => (hZ28_0 y0 y1 y2)) (xZ28_0 y0) := by kernel_rfl
theorem kZ28_1:OrcOk EZ28 OZ28_1 lsZ28 1 := orc_add kZ28_0 (fun n p hp h ex h' ho => by
 obtain ⟨b,c⟩ := p
 obtain ⟨xt,h1,h2⟩ := ho
 have h1:OZ28_1 b h = some (true,xt) := h1
 unfold OZ28_1 at h1
 split at h1
 ·injection h1 with h1
  injection h1 with e1 e2
  subst e2
  have hc:c = cZ28_0 := mZ28_0 _ hp rfl
  subst hc
  right
  rename_i y0 y1 y2
  have key := LT_step kZ28_0 hp (fun q hq => loopsAll_in _ _ _ _ hp hq) (fun ((y1,y2):tL3×Int) => (hZ28_0 y0 y1 y2)) (xZ28_0 y0) (g_SZ28_0 y0) (fun x => by first | exact bZ28_0 y0 x.1 x.2) n (x := (y1,y2)) (okO_some e1)
  have hx:∀ r,XT.sel (.leaf (.exit 0) [(.T 3,.t (.val false [.row 3 0 0])),(.R 3 0,.r 0 (some ⟨false,.non,true,155,(.pair .str (.pair .bool (.sl 3 (.int .i64)))),r⟩))]) = xZ28_0 y0 r := fun r => by first | rfl | rcases r with r | r <;> rfl | rcases r with r | r | r <;> rfl | rcases r with r | r | r | r <;> rfl
  have h3 := (hx (valO (g_LZ28_0 y0 (y1,y2)))).symm.trans h2
  have e3 := congrArg Prod.fst h3
  have e4 := congrArg Prod.snd h3
  simp only at e3 e4
  rw [← e3,← e4]
  exact key
 ·exact .inl ⟨xt,h1,h2⟩)
noncomputable def g_AZ28 (a0:tL3):Bool := decide ((a0.length:Int) = (a0.length:Int) ∧ 0 ≤ (a0.length:Int) ∧ (a0.length:Int) ≤ 9223372036854775807 ∧ 48 * (a0.length:Int) ≤ 281474976710656)&&okO (g_LZ28_0 a0 (List.replicate (Int.toNat (a0.length:Int)) (lit [],false,[]),(0:Int)))
noncomputable def g_VZ28_0 (a0:tL3):tL3 := valO (g_LZ28_0 a0 (List.replicate (Int.toNat (a0.length:Int)) (lit [],false,[]),(0:Int)))
noncomputable def FZ28:FSem := fun ys => match ys with
 | [.val false [.sl .any 196 (.pair .str (.pair .bool (.sl 3 (.int .i64)))) a0]] => some ((g_AZ28 a0),.val false [.own .any true 155 (.pair .str (.pair .bool (.sl 3 (.int .i64)))) (g_VZ28_0 a0)],[])
 | _ => none
theorem vZ28 (a0:tL3):collapseH .std EZ28 OZ28_1 (execFn EZ28 Tryz.f159 msZ28 [.val false [.sl .any 196 (.pair .str (.pair .bool (.sl 3 (.int .i64)))) a0]]) = some ((g_AZ28 a0),.val false [.own .any true 155 (.pair .str (.pair .bool (.sl 3 (.int .i64)))) (g_VZ28_0 a0)],[]) := by kernel_rfl
theorem sZ28:Sound Tryz.prog 159 msZ28 FZ28 := by
 refine fn_gen goodZ28 (by kernel_rfl) .std (fn := Tryz.f159) (c := (Tryz.f159.body.getD .skip)) (o := OZ28_1) (k := 1) (by kernel_rfl) (by kernel_rfl) (by kernel_rfl) (by kernel_rfl) (by decide) kZ28_1 ?_
 intro ys r outs h
 unfold FZ28 at h
 split at h
 ·exact (vZ28 _).trans h
 ·cases h
noncomputable def EZ50:Env where
 tt := mkTI Tryz.prog
 fn := fun _ => none
 bxf := fun _ => none
 mv := []
 keep := fun b => match b with
  | 0 => [(0,false),(3,false),(4,false)]
  | _ => []
 keepB := fun b => match b with
  | 0 => []
  | _ => []
 keepX := fun b => match b with
  | 0 => [(3,false)]
  | _ => []
 keepXB := fun b => match b with
  | 0 => []
  | _ => []
theorem goodFZ50:∀ f ms F,EZ50.fn f = some (ms,F) → Sound Tryz.prog f ms F := fun f ms F h => by cases h
theorem goodZ50:Good Tryz.prog EZ50 := ⟨rfl,goodFZ50,fun f ms F h => by cases h⟩
noncomputable def OZ50_0:Orc := fun _ _ => none
noncomputable def msZ50:List PM := [.rd]
noncomputable def lsZ50:List (Nat×Code) := loopsAll 0 (Tryz.f158.body.getD .skip)
noncomputable def cZ50_0:Code := (loopOf 0 (Tryz.f158.body.getD .skip)).getD .skip
theorem lseqZ50:lsZ50 = [(0,cZ50_0)] := by kernel_rfl
theorem mZ50_0:∀ p,p ∈ lsZ50 → p.1 = 0 → p.2 = cZ50_0 := by
 intro p hp
 rw [lseqZ50] at hp
 simp only [List.mem_cons,List.not_mem_nil,or_false] at hp
 subst hp; simp
theorem kZ50_0:OrcOk EZ50 OZ50_0 lsZ50 0 := orcOk_none
noncomputable def hZ50_0 (y0:List ByteArray) (y1:List ByteArray) (y2:Int):List (Pl×LV) := [(.T 0,.t (.val false [.sl .any 9 .str y0])),(.T 3,.t (.val false [.row 3 0 0])),(.R 3 0,.r 0 (some ⟨false,.non,true,9,.str,y1⟩)),(.T 4,.t (.val false [.int .i64 y2]))]
noncomputable def g_SZ50_0 (y0:List ByteArray):((List ByteArray)×Int) → RT ((List ByteArray)×Int) (((List ByteArray)))
 | (y1,y2) => .br (true) (.br (decide (y2 < (y0.length:Int))) (.br (decide (0 ≤ y2 ∧ y2 < (y0.length:Int))) (.br (decide (0 ≤ y2 ∧ y2 < (y1.length:Int))) (.br (decide (Int.toNat y2 < List.length y1)) (.br (true) (.go ((List.set y1 (Int.toNat y2) (at_ Ty.str y0 (Int.toNat y2)),IntKind.i64.wrap (y2 + 1)))) .bad) .bad) .bad) .bad) (.out (y1))) .bad
noncomputable def g_LZ50_0 (y0:List ByteArray) (x:(List ByteArray)×Int):Option (((List ByteArray))) := loopO (g_SZ50_0 y0) x
noncomputable def xZ50_0 (y0:List ByteArray):(((List ByteArray))) → Ex×List (Pl×LV) := fun r => (.exit 0,[(.T 3,.t (.val false [.row 3 0 0])),(.R 3 0,.r 0 (some ⟨false,.non,true,9,.str,r⟩))])
noncomputable def OZ50_1:Orc := fun b h => match b,h with
 | 0,[(.T 0,.t (.val false [.sl .any 9 .str y0])),(.T 3,.t (.val false [.row 3 0 0])),(.R 3 0,.r 0 (some ⟨false,.non,true,9,.str,y1⟩)),(.T 4,.t (.val false [.int .i64 y2]))] => some (okO (g_LZ50_0 y0 (y1,y2)),(.leaf (.exit 0) [(.T 3,.t (.val false [.row 3 0 0])),(.R 3 0,.r 0 (some ⟨false,.non,true,9,.str,(valO (g_LZ50_0 y0 (y1,y2)))⟩))]))
 | b,h => OZ50_0 b h
theorem bZ50_0 (y0:List ByteArray) (y1:List ByteArray) (y2:Int):Tr.bt EZ50 OZ50_0 (exec EZ50 0 cZ50_0 (St.of (hZ50_0 y0 y1 y2)) (leafRd EZ50 0)) = (g_SZ50_0 y0 (y1,y2)).bt (fun ((y1,y2):(List ByteArray)×Int) => (hZ50_0 y0 y1 y2)) (xZ50_0 y0) := by kernel_rfl
theorem kZ50_1:OrcOk EZ50 OZ50_1 lsZ50 1 := orc_add kZ50_0 (fun n p hp h ex h' ho => by
 obtain ⟨b,c⟩ := p
 obtain ⟨xt,h1,h2⟩ := ho
 have h1:OZ50_1 b h = some (true,xt) := h1
 unfold OZ50_1 at h1
 split at h1
 ·injection h1 with h1
  injection h1 with e1 e2
  subst e2
  have hc:c = cZ50_0 := mZ50_0 _ hp rfl
  subst hc
  right
  rename_i y0 y1 y2
  have key := LT_step kZ50_0 hp (fun q hq => loopsAll_in _ _ _ _ hp hq) (fun ((y1,y2):(List ByteArray)×Int) => (hZ50_0 y0 y1 y2)) (xZ50_0 y0) (g_SZ50_0 y0) (fun x => by first | exact bZ50_0 y0 x.1 x.2) n (x := (y1,y2)) (okO_some e1)
  have hx:∀ r,XT.sel (.leaf (.exit 0) [(.T 3,.t (.val false [.row 3 0 0])),(.R 3 0,.r 0 (some ⟨false,.non,true,9,.str,r⟩))]) = xZ50_0 y0 r := fun r => by first | rfl | rcases r with r | r <;> rfl | rcases r with r | r | r <;> rfl | rcases r with r | r | r | r <;> rfl
  have h3 := (hx (valO (g_LZ50_0 y0 (y1,y2)))).symm.trans h2
  have e3 := congrArg Prod.fst h3
  have e4 := congrArg Prod.snd h3
  simp only at e3 e4
  rw [← e3,← e4]
  exact key
 ·exact .inl ⟨xt,h1,h2⟩)
noncomputable def g_AZ50 (a0:List ByteArray):Bool := decide ((a0.length:Int) = (a0.length:Int) ∧ 0 ≤ (a0.length:Int) ∧ (a0.length:Int) ≤ 9223372036854775807 ∧ 16 * (a0.length:Int) ≤ 281474976710656)&&okO (g_LZ50_0 a0 (List.replicate (Int.toNat (a0.length:Int)) (lit []),(0:Int)))
noncomputable def g_VZ50_0 (a0:List ByteArray):List ByteArray := valO (g_LZ50_0 a0 (List.replicate (Int.toNat (a0.length:Int)) (lit []),(0:Int)))
noncomputable def FZ50:FSem := fun ys => match ys with
 | [.val false [.sl .any 9 .str a0]] => some ((g_AZ50 a0),.val false [.own .any true 9 .str (g_VZ50_0 a0)],[])
 | _ => none
theorem vZ50 (a0:List ByteArray):collapseH .std EZ50 OZ50_1 (execFn EZ50 Tryz.f158 msZ50 [.val false [.sl .any 9 .str a0]]) = some ((g_AZ50 a0),.val false [.own .any true 9 .str (g_VZ50_0 a0)],[]) := by kernel_rfl
theorem sZ50:Sound Tryz.prog 158 msZ50 FZ50 := by
 refine fn_gen goodZ50 (by kernel_rfl) .std (fn := Tryz.f158) (c := (Tryz.f158.body.getD .skip)) (o := OZ50_1) (k := 1) (by kernel_rfl) (by kernel_rfl) (by kernel_rfl) (by kernel_rfl) (by decide) kZ50_1 ?_
 intro ys r outs h
 unfold FZ50 at h
 split at h
 ·exact (vZ50 _).trans h
 ·cases h
noncomputable def EZ51:Env where
 tt := mkTI Tryz.prog
 fn := fun f => match f with
  | 158 => some (msZ50,FSem.wk msZ50 FZ50)
  | 159 => some (msZ28,FSem.wk msZ28 FZ28)
  | _ => none
 bxf := fun _ => none
 mv := []
 keep := fun _ => []
 keepB := fun _ => []
 keepX := fun _ => []
 keepXB := fun _ => []
theorem goodFZ51:∀ f ms F,EZ51.fn f = some (ms,F) → Sound Tryz.prog f ms F := fun f ms F h => by
 unfold EZ51 at h
 dsimp only at h
 split at h
 ·exact gF sZ50 h
 ·exact gF sZ28 h
 ·cases h
theorem goodZ51:Good Tryz.prog EZ51 := ⟨rfl,goodFZ51,fun f ms F h => by cases h⟩
noncomputable def OZ51_0:Orc := fun _ _ => none
noncomputable def msZ51:List PM := [.rd]
noncomputable def lsZ51:List (Nat×Code) := loopsAll 0 (Tryz.f135.body.getD .skip)
theorem kZ51_0:OrcOk EZ51 OZ51_0 lsZ51 0 := orcOk_none
noncomputable def g_AZ51 (a0:Int) (a1:Int) (a2:List ByteArray) (a3:tL3):Bool := g_AZ50 a2&&g_AZ28 a3
noncomputable def FZ51:FSem := fun ys => match ys with
 | [.val true [.int .i64 a0,.int .i64 a1,.sl .any 9 .str a2,.sl .any 196 (.pair .str (.pair .bool (.sl 3 (.int .i64)))) a3]] => some ((g_AZ51 a0 a1 a2 a3),.val true [.int .i64 a0,.int .i64 a1,.own .any true 9 .str (g_VZ50_0 a2),.own .any true 155 (.pair .str (.pair .bool (.sl 3 (.int .i64)))) (g_VZ28_0 a3)],[])
 | _ => none
theorem vZ51 (a0:Int) (a1:Int) (a2:List ByteArray) (a3:tL3):collapseH .std EZ51 OZ51_0 (execFn EZ51 Tryz.f135 msZ51 [.val true [.int .i64 a0,.int .i64 a1,.sl .any 9 .str a2,.sl .any 196 (.pair .str (.pair .bool (.sl 3 (.int .i64)))) a3]]) = some ((g_AZ51 a0 a1 a2 a3),.val true [.int .i64 a0,.int .i64 a1,.own .any true 9 .str (g_VZ50_0 a2),.own .any true 155 (.pair .str (.pair .bool (.sl 3 (.int .i64)))) (g_VZ28_0 a3)],[]) := by kernel_rfl
theorem sZ51:Sound Tryz.prog 135 msZ51 FZ51 := by
 refine fn_gen goodZ51 (by kernel_rfl) .std (fn := Tryz.f135) (c := (Tryz.f135.body.getD .skip)) (o := OZ51_0) (k := 0) (by kernel_rfl) (by kernel_rfl) (by kernel_rfl) (by kernel_rfl) (by decide) kZ51_0 ?_
 intro ys r outs h
 unfold FZ51 at h
 split at h
 ·exact (vZ51 _ _ _ _).trans h
 ·cases h
noncomputable def EZ39:Env where
 tt := mkTI Tryz.prog
 fn := fun f => match f with
  | 135 => some (msZ51,FSem.wk msZ51 FZ51)
  | _ => none
 bxf := fun _ => none
 mv := []
 keep := fun b => match b with
  | 0 => [(0,false),(3,false),(4,false)]
  | _ => []
 keepB := fun b => match b with
  | 0 => []
  | _ => []
 keepX := fun b => match b with
  | 0 => [(3,false)]
  | _ => []
 keepXB := fun b => match b with
  | 0 => []
  | _ => []
theorem goodFZ39:∀ f ms F,EZ39.fn f = some (ms,F) → Sound Tryz.prog f ms F := fun f ms F h => by
 unfold EZ39 at h
 dsimp only at h
 split at h
 ·exact gF sZ51 h
 ·cases h
theorem goodZ39:Good Tryz.prog EZ39 := ⟨rfl,goodFZ39,fun f ms F h => by cases h⟩
noncomputable def OZ39_0:Orc := fun _ _ => none
noncomputable def msZ39:List PM := [.rd]
noncomputable def lsZ39:List (Nat×Code) := loopsAll 0 (Tryz.f93.body.getD .skip)
noncomputable def cZ39_0:Code := (loopOf 0 (Tryz.f93.body.getD .skip)).getD .skip
theorem lseqZ39:lsZ39 = [(0,cZ39_0)] := by kernel_rfl
theorem mZ39_0:∀ p,p ∈ lsZ39 → p.1 = 0 → p.2 = cZ39_0 := by
 intro p hp
 rw [lseqZ39] at hp
 simp only [List.mem_cons,List.not_mem_nil,or_false] at hp
 subst hp; simp
theorem kZ39_0:OrcOk EZ39 OZ39_0 lsZ39 0 := orcOk_none
noncomputable def hZ39_0 (y0:tL1) (y1:tL1) (y2:Int):List (Pl×LV) := [(.T 0,.t (.val false [.sl .any 169 (.pair (.int .i64) (.pair (.int .i64) (.pair (.sl 9 .str) (.sl 196 (.pair .str (.pair .bool (.sl 3 (.int .i64)))))))) y0])),(.T 3,.t (.val false [.row 3 0 0])),(.R 3 0,.r 0 (some ⟨false,.non,true,92,(.pair (.int .i64) (.pair (.int .i64) (.pair (.sl 9 .str) (.sl 155 (.pair .str (.pair .bool (.sl 3 (.int .i64)))))))),y1⟩)),(.T 4,.t (.val false [.int .i64 y2]))]
noncomputable def g_SZ39_0 (y0:tL1):(tL1×Int) → RT (tL1×Int) ((tL1))
 | (y1,y2) => .br (true) (.br (decide (y2 < (y0.length:Int))) (.br (decide (0 ≤ y2 ∧ y2 < (y0.length:Int))) (.br (g_AZ51 (at_ yT3 y0 (Int.toNat y2)).1 (at_ yT3 y0 (Int.toNat y2)).2.1 (at_ yT3 y0 (Int.toNat y2)).2.2.1 (at_ yT3 y0 (Int.toNat y2)).2.2.2) (.br (decide (0 ≤ y2 ∧ y2 < (y1.length:Int))) (.br (decide (Int.toNat y2 < List.length y1)) (.br (true) (.go ((List.set y1 (Int.toNat y2) ((at_ yT3 y0 (Int.toNat y2)).1,(at_ yT3 y0 (Int.toNat y2)).2.1,g_VZ50_0 (at_ yT3 y0 (Int.toNat y2)).2.2.1,g_VZ28_0 (at_ yT3 y0 (Int.toNat y2)).2.2.2),IntKind.i64.wrap (y2 + 1)))) .bad) .bad) .bad) .bad) .bad) (.out (y1))) .bad
noncomputable def g_LZ39_0 (y0:tL1) (x:tL1×Int):Option ((tL1)) := loopO (g_SZ39_0 y0) x
noncomputable def xZ39_0 (y0:tL1):((tL1)) → Ex×List (Pl×LV) := fun r => (.exit 0,[(.T 3,.t (.val false [.row 3 0 0])),(.R 3 0,.r 0 (some ⟨false,.non,true,92,(.pair (.int .i64) (.pair (.int .i64) (.pair (.sl 9 .str) (.sl 155 (.pair .str (.pair .bool (.sl 3 (.int .i64)))))))),r⟩))])
noncomputable def OZ39_1:Orc := fun b h => match b,h with
 | 0,[(.T 0,.t (.val false [.sl .any 169 (.pair (.int .i64) (.pair (.int .i64) (.pair (.sl 9 .str) (.sl 196 (.pair .str (.pair .bool (.sl 3 (.int .i64)))))))) y0])),(.T 3,.t (.val false [.row 3 0 0])),(.R 3 0,.r 0 (some ⟨false,.non,true,92,(.pair (.int .i64) (.pair (.int .i64) (.pair (.sl 9 .str) (.sl 155 (.pair .str (.pair .bool (.sl 3 (.int .i64)))))))),y1⟩)),(.T 4,.t (.val false [.int .i64 y2]))] => some (okO (g_LZ39_0 y0 (y1,y2)),(.leaf (.exit 0) [(.T 3,.t (.val false [.row 3 0 0])),(.R 3 0,.r 0 (some ⟨false,.non,true,92,(.pair (.int .i64) (.pair (.int .i64) (.pair (.sl 9 .str) (.sl 155 (.pair .str (.pair .bool (.sl 3 (.int .i64)))))))),(valO (g_LZ39_0 y0 (y1,y2)))⟩))]))
 | b,h => OZ39_0 b h
theorem bZ39_0 (y0:tL1) (y1:tL1) (y2:Int):Tr.bt EZ39 OZ39_0 (exec EZ39 0 cZ39_0 (St.of (hZ39_0 y0 y1 y2)) (leafRd EZ39 0)) = (g_SZ39_0 y0 (y1,y2)).bt (fun ((y1,y2):tL1×Int) => (hZ39_0 y0 y1 y2)) (xZ39_0 y0) := by kernel_rfl
theorem kZ39_1:OrcOk EZ39 OZ39_1 lsZ39 1 := orc_add kZ39_0 (fun n p hp h ex h' ho => by
 obtain ⟨b,c⟩ := p
 obtain ⟨xt,h1,h2⟩ := ho
 have h1:OZ39_1 b h = some (true,xt) := h1
 unfold OZ39_1 at h1
 split at h1
 ·injection h1 with h1
  injection h1 with e1 e2
  subst e2
  have hc:c = cZ39_0 := mZ39_0 _ hp rfl
  subst hc
  right
  rename_i y0 y1 y2
  have key := LT_step kZ39_0 hp (fun q hq => loopsAll_in _ _ _ _ hp hq) (fun ((y1,y2):tL1×Int) => (hZ39_0 y0 y1 y2)) (xZ39_0 y0) (g_SZ39_0 y0) (fun x => by first | exact bZ39_0 y0 x.1 x.2) n (x := (y1,y2)) (okO_some e1)
  have hx:∀ r,XT.sel (.leaf (.exit 0) [(.T 3,.t (.val false [.row 3 0 0])),(.R 3 0,.r 0 (some ⟨false,.non,true,92,(.pair (.int .i64) (.pair (.int .i64) (.pair (.sl 9 .str) (.sl 155 (.pair .str (.pair .bool (.sl 3 (.int .i64)))))))),r⟩))]) = xZ39_0 y0 r := fun r => by first | rfl | rcases r with r | r <;> rfl | rcases r with r | r | r <;> rfl | rcases r with r | r | r | r <;> rfl
  have h3 := (hx (valO (g_LZ39_0 y0 (y1,y2)))).symm.trans h2
  have e3 := congrArg Prod.fst h3
  have e4 := congrArg Prod.snd h3
  simp only at e3 e4
  rw [← e3,← e4]
  exact key
 ·exact .inl ⟨xt,h1,h2⟩)
noncomputable def g_AZ39 (a0:tL1):Bool := decide ((a0.length:Int) = (a0.length:Int) ∧ 0 ≤ (a0.length:Int) ∧ (a0.length:Int) ≤ 9223372036854775807 ∧ 64 * (a0.length:Int) ≤ 281474976710656)&&okO (g_LZ39_0 a0 (List.replicate (Int.toNat (a0.length:Int)) ((0:Int),(0:Int),[],[]),(0:Int)))
noncomputable def g_VZ39_0 (a0:tL1):tL1 := valO (g_LZ39_0 a0 (List.replicate (Int.toNat (a0.length:Int)) ((0:Int),(0:Int),[],[]),(0:Int)))
noncomputable def FZ39:FSem := fun ys => match ys with
 | [.val false [.sl .any 169 (.pair (.int .i64) (.pair (.int .i64) (.pair (.sl 9 .str) (.sl 196 (.pair .str (.pair .bool (.sl 3 (.int .i64)))))))) a0]] => some ((g_AZ39 a0),.val false [.own .any true 92 (.pair (.int .i64) (.pair (.int .i64) (.pair (.sl 9 .str) (.sl 155 (.pair .str (.pair .bool (.sl 3 (.int .i64)))))))) (g_VZ39_0 a0)],[])
 | _ => none
theorem vZ39 (a0:tL1):collapseH .std EZ39 OZ39_1 (execFn EZ39 Tryz.f93 msZ39 [.val false [.sl .any 169 (.pair (.int .i64) (.pair (.int .i64) (.pair (.sl 9 .str) (.sl 196 (.pair .str (.pair .bool (.sl 3 (.int .i64)))))))) a0]]) = some ((g_AZ39 a0),.val false [.own .any true 92 (.pair (.int .i64) (.pair (.int .i64) (.pair (.sl 9 .str) (.sl 155 (.pair .str (.pair .bool (.sl 3 (.int .i64)))))))) (g_VZ39_0 a0)],[]) := by kernel_rfl
theorem sZ39:Sound Tryz.prog 93 msZ39 FZ39 := by
 refine fn_gen goodZ39 (by kernel_rfl) .std (fn := Tryz.f93) (c := (Tryz.f93.body.getD .skip)) (o := OZ39_1) (k := 1) (by kernel_rfl) (by kernel_rfl) (by kernel_rfl) (by kernel_rfl) (by decide) kZ39_1 ?_
 intro ys r outs h
 unfold FZ39 at h
 split at h
 ·exact (vZ39 _).trans h
 ·cases h
noncomputable def EZ52:Env where
 tt := mkTI Tryz.prog
 fn := fun f => match f with
  | 93 => some (msZ39,FSem.wk msZ39 FZ39)
  | _ => none
 bxf := fun _ => none
 mv := []
 keep := fun _ => []
 keepB := fun _ => []
 keepX := fun _ => []
 keepXB := fun _ => []
theorem goodFZ52:∀ f ms F,EZ52.fn f = some (ms,F) → Sound Tryz.prog f ms F := fun f ms F h => by
 unfold EZ52 at h
 dsimp only at h
 split at h
 ·exact gF sZ39 h
 ·cases h
theorem goodZ52:Good Tryz.prog EZ52 := ⟨rfl,goodFZ52,fun f ms F h => by cases h⟩
noncomputable def OZ52_0:Orc := fun _ _ => none
noncomputable def msZ52:List PM := [.rd]
noncomputable def lsZ52:List (Nat×Code) := loopsAll 0 (Tryz.f34.body.getD .skip)
theorem kZ52_0:OrcOk EZ52 OZ52_0 lsZ52 0 := orcOk_none
noncomputable def g_AZ52 (a0:tL1) (a1:Int):Bool := g_AZ39 a0
noncomputable def FZ52:FSem := fun ys => match ys with
 | [.val true [.sl .any 169 (.pair (.int .i64) (.pair (.int .i64) (.pair (.sl 9 .str) (.sl 196 (.pair .str (.pair .bool (.sl 3 (.int .i64)))))))) a0,.int .i64 a1]] => some ((g_AZ52 a0 a1),.val true [.own .any true 92 (.pair (.int .i64) (.pair (.int .i64) (.pair (.sl 9 .str) (.sl 155 (.pair .str (.pair .bool (.sl 3 (.int .i64)))))))) (g_VZ39_0 a0),.int .i64 a1],[])
 | _ => none
theorem vZ52 (a0:tL1) (a1:Int):collapseH .std EZ52 OZ52_0 (execFn EZ52 Tryz.f34 msZ52 [.val true [.sl .any 169 (.pair (.int .i64) (.pair (.int .i64) (.pair (.sl 9 .str) (.sl 196 (.pair .str (.pair .bool (.sl 3 (.int .i64)))))))) a0,.int .i64 a1]]) = some ((g_AZ52 a0 a1),.val true [.own .any true 92 (.pair (.int .i64) (.pair (.int .i64) (.pair (.sl 9 .str) (.sl 155 (.pair .str (.pair .bool (.sl 3 (.int .i64)))))))) (g_VZ39_0 a0),.int .i64 a1],[]) := by kernel_rfl
theorem sZ52:Sound Tryz.prog 34 msZ52 FZ52 := by
 refine fn_gen goodZ52 (by kernel_rfl) .std (fn := Tryz.f34) (c := (Tryz.f34.body.getD .skip)) (o := OZ52_0) (k := 0) (by kernel_rfl) (by kernel_rfl) (by kernel_rfl) (by kernel_rfl) (by decide) kZ52_0 ?_
 intro ys r outs h
 unfold FZ52 at h
 split at h
 ·exact (vZ52 _ _).trans h
 ·cases h
noncomputable def EZ40:Env where
 tt := mkTI Tryz.prog
 fn := fun f => match f with
  | 34 => some (msZ52,FSem.wk msZ52 FZ52)
  | 35 => some (msZ65,FSem.wk msZ65 FZ65)
  | _ => none
 bxf := fun _ => none
 mv := []
 keep := fun _ => []
 keepB := fun _ => []
 keepX := fun _ => []
 keepXB := fun _ => []
theorem goodFZ40:∀ f ms F,EZ40.fn f = some (ms,F) → Sound Tryz.prog f ms F := fun f ms F h => by
 unfold EZ40 at h
 dsimp only at h
 split at h
 ·exact gF sZ52 h
 ·exact gF sZ65 h
 ·cases h
theorem goodZ40:Good Tryz.prog EZ40 := ⟨rfl,goodFZ40,fun f ms F h => by cases h⟩
noncomputable def OZ40_0:Orc := fun _ _ => none
noncomputable def msZ40:List PM := [.rd]
noncomputable def lsZ40:List (Nat×Code) := loopsAll 0 (Tryz.f9.body.getD .skip)
theorem kZ40_0:OrcOk EZ40 OZ40_0 lsZ40 0 := orcOk_none
noncomputable def g_AZ40 (a0:tL1) (a1:Int) (a2:tL0):Bool := g_AZ52 a0 a1&&g_AZ65 a2
noncomputable def FZ40:FSem := fun ys => match ys with
 | [.val true [.sl .any 169 (.pair (.int .i64) (.pair (.int .i64) (.pair (.sl 9 .str) (.sl 196 (.pair .str (.pair .bool (.sl 3 (.int .i64)))))))) a0,.int .i64 a1,.sl .any 129 (.pair (.int .i64) (.pair (.pair (.int .i64) (.pair (.int .i64) (.pair (.int .i64) (.pair (.int .i64) (.pair (.int .i64) (.pair (.int .i64) (.int .i64))))))) (.pair .bool (.pair (.sl 3 (.int .i64)) (.sl 3 (.int .i64)))))) a2]] => some ((g_AZ40 a0 a1 a2),.val true [.own .any true 92 (.pair (.int .i64) (.pair (.int .i64) (.pair (.sl 9 .str) (.sl 155 (.pair .str (.pair .bool (.sl 3 (.int .i64)))))))) (g_VZ39_0 a0),.int .i64 a1,.own .any true 73 (.pair (.int .i64) (.pair (.pair (.int .i64) (.pair (.int .i64) (.pair (.int .i64) (.pair (.int .i64) (.pair (.int .i64) (.pair (.int .i64) (.int .i64))))))) (.pair .bool (.pair (.sl 3 (.int .i64)) (.sl 3 (.int .i64)))))) (g_VZ65_0 a2)],[])
 | _ => none
theorem vZ40 (a0:tL1) (a1:Int) (a2:tL0):collapseH .std EZ40 OZ40_0 (execFn EZ40 Tryz.f9 msZ40 [.val true [.sl .any 169 (.pair (.int .i64) (.pair (.int .i64) (.pair (.sl 9 .str) (.sl 196 (.pair .str (.pair .bool (.sl 3 (.int .i64)))))))) a0,.int .i64 a1,.sl .any 129 (.pair (.int .i64) (.pair (.pair (.int .i64) (.pair (.int .i64) (.pair (.int .i64) (.pair (.int .i64) (.pair (.int .i64) (.pair (.int .i64) (.int .i64))))))) (.pair .bool (.pair (.sl 3 (.int .i64)) (.sl 3 (.int .i64)))))) a2]]) = some ((g_AZ40 a0 a1 a2),.val true [.own .any true 92 (.pair (.int .i64) (.pair (.int .i64) (.pair (.sl 9 .str) (.sl 155 (.pair .str (.pair .bool (.sl 3 (.int .i64)))))))) (g_VZ39_0 a0),.int .i64 a1,.own .any true 73 (.pair (.int .i64) (.pair (.pair (.int .i64) (.pair (.int .i64) (.pair (.int .i64) (.pair (.int .i64) (.pair (.int .i64) (.pair (.int .i64) (.int .i64))))))) (.pair .bool (.pair (.sl 3 (.int .i64)) (.sl 3 (.int .i64)))))) (g_VZ65_0 a2)],[]) := by kernel_rfl
theorem sZ40:Sound Tryz.prog 9 msZ40 FZ40 := by
 refine fn_gen goodZ40 (by kernel_rfl) .std (fn := Tryz.f9) (c := (Tryz.f9.body.getD .skip)) (o := OZ40_0) (k := 0) (by kernel_rfl) (by kernel_rfl) (by kernel_rfl) (by kernel_rfl) (by decide) kZ40_0 ?_
 intro ys r outs h
 unfold FZ40 at h
 split at h
 ·exact (vZ40 _ _ _).trans h
 ·cases h
noncomputable def Ew_FnExactFroTick:Env where
 tt := mkTI Tryz.prog
 fn := fun f => match f with
  | 7 => some (msZ37,FSem.wk msZ37 FZ37)
  | 8 => some (mss_FroTick,FSem.wk mss_FroTick Fs_FroTick)
  | 9 => some (msZ40,FSem.wk msZ40 FZ40)
  | 10 => some (msi_FroTick,FSem.wk msi_FroTick Fi_FroTick)
  | 11 => some (msZ46,FSem.wk msZ46 FZ46)
  | 12 => some (msZ33,FSem.wk msZ33 FZ33)
  | 13 => some (msZ21,FSem.wk msZ21 FZ21)
  | 14 => some (msZ26,FSem.wk msZ26 FZ26)
  | 15 => some (msZ23,FSem.wk msZ23 FZ23)
  | _ => none
 bxf := fun _ => none
 mv := []
 keep := fun _ => []
 keepB := fun _ => []
 keepX := fun _ => []
 keepXB := fun _ => []
theorem goodFw_FnExactFroTick:∀ f ms F,Ew_FnExactFroTick.fn f = some (ms,F) → Sound Tryz.prog f ms F := fun f ms F h => by
 unfold Ew_FnExactFroTick at h
 dsimp only at h
 split at h
 ·exact gF sZ37 h
 ·exact gF ss_FroTick h
 ·exact gF sZ40 h
 ·exact gF si_FroTick h
 ·exact gF sZ46 h
 ·exact gF sZ33 h
 ·exact gF sZ21 h
 ·exact gF sZ26 h
 ·exact gF sZ23 h
 ·cases h
theorem goodw_FnExactFroTick:Good Tryz.prog Ew_FnExactFroTick := ⟨rfl,goodFw_FnExactFroTick,fun f ms F h => by cases h⟩
noncomputable def Ow_FnExactFroTick_0:Orc := fun _ _ => none
noncomputable def msw_FnExactFroTick:List PM := [.rd]
noncomputable def lsw_FnExactFroTick:List (Nat×Code) := loopsAll 0 (Tryz.f3.body.getD .skip)
theorem kw_FnExactFroTick_0:OrcOk Ew_FnExactFroTick Ow_FnExactFroTick_0 lsw_FnExactFroTick 0 := orcOk_none
noncomputable def g_Aw_FnExactFroTick (a0:tL1) (a1:Int) (a2:tL0):Bool := g_AZ37 a0 a1 a2 (1048576:Int)&&(decide (g_VZ37_0 a0 a1 a2 (1048576:Int) < (0:Int)) || g_AZ40 a0 a1 a2&&(g_As_FroTick (g_VZ39_0 a0) a1 (g_VZ65_0 a2)&&(g_AZ40 a0 a1 a2&&(g_Ai_FroTick (g_VZ39_0 a0) a1 (g_VZ65_0 a2)&&(g_AZ46 (g_Vi_FroTick_0 (g_VZ39_0 a0) a1 (g_VZ65_0 a2)) (g_Vs_FroTick_0 (g_VZ39_0 a0) a1 (g_VZ65_0 a2))&&(!g_VZ46_0 (g_Vi_FroTick_0 (g_VZ39_0 a0) a1 (g_VZ65_0 a2)) (g_Vs_FroTick_0 (g_VZ39_0 a0) a1 (g_VZ65_0 a2)) || g_AZ40 a0 a1 a2&&(g_AZ33 (g_VZ39_0 a0) a1 (g_VZ65_0 a2) (g_VZ39_0 a0) a1 (g_VZ65_0 a2)&&(!g_VZ33_0 (g_VZ39_0 a0) a1 (g_VZ65_0 a2) (g_VZ39_0 a0) a1 (g_VZ65_0 a2) || g_AZ21 (g_VZ39_0 a0) a1 (g_VZ65_0 a2) (1:Int)&&(decide (g_VZ34_0 (g_VZ65_0 a2) (g_VZ20_0 (g_VZ39_0 a0) (1:Int)) < 0) || g_AZ46 (g_Vi_FroTick_0 (g_VZ39_0 a0) a1 (g_VZ65_0 a2)) (g_Vs_FroTick_0 (g_VZ39_0 a0) a1 (g_VZ65_0 a2))&&(!g_VZ46_0 (g_Vi_FroTick_0 (g_VZ39_0 a0) a1 (g_VZ65_0 a2)) (g_Vs_FroTick_0 (g_VZ39_0 a0) a1 (g_VZ65_0 a2)) || g_AZ26 (g_Vi_FroTick_0 (g_VZ39_0 a0) a1 (g_VZ65_0 a2)) (1:Int)&&(g_AZ23 (g_VZ26_1 (g_Vi_FroTick_0 (g_VZ39_0 a0) a1 (g_VZ65_0 a2)) (1:Int)) (1:Int)&&(decide (g_VZ23_0 (g_VZ26_1 (g_Vi_FroTick_0 (g_VZ39_0 a0) a1 (g_VZ65_0 a2)) (1:Int)) (1:Int) < (0:Int)) || (g_VZ23_0 (g_VZ26_1 (g_Vi_FroTick_0 (g_VZ39_0 a0) a1 (g_VZ65_0 a2)) (1:Int)) 1 != g_VZ26_0 (g_Vi_FroTick_0 (g_VZ39_0 a0) a1 (g_VZ65_0 a2)) (1:Int) || g_AZ40 a0 a1 a2&&(g_Ai_FroTick (g_VZ39_0 a0) a1 (g_VZ65_0 a2)&&(g_AZ46 (g_Vi_FroTick_0 (g_VZ39_0 a0) a1 (g_VZ65_0 a2)) (g_Vs_FroTick_0 (g_VZ39_0 a0) a1 (g_VZ65_0 a2))&&(!g_VZ46_0 (g_Vi_FroTick_0 (g_VZ39_0 a0) a1 (g_VZ65_0 a2)) (g_Vs_FroTick_0 (g_VZ39_0 a0) a1 (g_VZ65_0 a2)) || g_AZ23 (g_VZ26_1 (g_Vi_FroTick_0 (g_VZ39_0 a0) a1 (g_VZ65_0 a2)) (1:Int)) (1:Int)&&(decide (g_VZ23_0 (g_VZ26_1 (g_Vi_FroTick_0 (g_VZ39_0 a0) a1 (g_VZ65_0 a2)) (1:Int)) (1:Int) < (0:Int)) || true)))))))))))))))))
noncomputable def g_Vw_FnExactFroTick_0 (a0:tL1) (a1:Int) (a2:tL0):Bool := bif decide (g_VZ37_0 a0 a1 a2 (1048576:Int) < (0:Int)) then true else bif !g_VZ46_0 (g_Vi_FroTick_0 (g_VZ39_0 a0) a1 (g_VZ65_0 a2)) (g_Vs_FroTick_0 (g_VZ39_0 a0) a1 (g_VZ65_0 a2)) then false else bif !g_VZ33_0 (g_VZ39_0 a0) a1 (g_VZ65_0 a2) (g_VZ39_0 a0) a1 (g_VZ65_0 a2) then false else bif decide (g_VZ34_0 (g_VZ65_0 a2) (g_VZ20_0 (g_VZ39_0 a0) (1:Int)) < 0) then false else bif !g_VZ46_0 (g_Vi_FroTick_0 (g_VZ39_0 a0) a1 (g_VZ65_0 a2)) (g_Vs_FroTick_0 (g_VZ39_0 a0) a1 (g_VZ65_0 a2)) then false else bif decide (g_VZ23_0 (g_VZ26_1 (g_Vi_FroTick_0 (g_VZ39_0 a0) a1 (g_VZ65_0 a2)) (1:Int)) (1:Int) < (0:Int)) then false else bif g_VZ23_0 (g_VZ26_1 (g_Vi_FroTick_0 (g_VZ39_0 a0) a1 (g_VZ65_0 a2)) (1:Int)) 1 != g_VZ26_0 (g_Vi_FroTick_0 (g_VZ39_0 a0) a1 (g_VZ65_0 a2)) (1:Int) then false else bif !g_VZ46_0 (g_Vi_FroTick_0 (g_VZ39_0 a0) a1 (g_VZ65_0 a2)) (g_Vs_FroTick_0 (g_VZ39_0 a0) a1 (g_VZ65_0 a2)) then false else bif decide (g_VZ23_0 (g_VZ26_1 (g_Vi_FroTick_0 (g_VZ39_0 a0) a1 (g_VZ65_0 a2)) (1:Int)) (1:Int) < (0:Int)) then false else bif g_VZ23_0 (g_VZ26_1 (g_Vi_FroTick_0 (g_VZ39_0 a0) a1 (g_VZ65_0 a2)) (1:Int)) 1 != g_VZ26_0 (g_Vi_FroTick_0 (g_VZ39_0 a0) a1 (g_VZ65_0 a2)) (1:Int) then false else true
noncomputable def Fw_FnExactFroTick:FSem := fun ys => match ys with
 | [.val true [.sl .any 169 (.pair (.int .i64) (.pair (.int .i64) (.pair (.sl 9 .str) (.sl 196 (.pair .str (.pair .bool (.sl 3 (.int .i64)))))))) a0,.int .i64 a1,.sl .any 129 (.pair (.int .i64) (.pair (.pair (.int .i64) (.pair (.int .i64) (.pair (.int .i64) (.pair (.int .i64) (.pair (.int .i64) (.pair (.int .i64) (.int .i64))))))) (.pair .bool (.pair (.sl 3 (.int .i64)) (.sl 3 (.int .i64)))))) a2]] => some ((g_Aw_FnExactFroTick a0 a1 a2),.val false [.bool (g_Vw_FnExactFroTick_0 a0 a1 a2)],[])
 | _ => none
theorem vw_FnExactFroTick (a0:tL1) (a1:Int) (a2:tL0):collapseH .std Ew_FnExactFroTick Ow_FnExactFroTick_0 (execFn Ew_FnExactFroTick Tryz.f3 msw_FnExactFroTick [.val true [.sl .any 169 (.pair (.int .i64) (.pair (.int .i64) (.pair (.sl 9 .str) (.sl 196 (.pair .str (.pair .bool (.sl 3 (.int .i64)))))))) a0,.int .i64 a1,.sl .any 129 (.pair (.int .i64) (.pair (.pair (.int .i64) (.pair (.int .i64) (.pair (.int .i64) (.pair (.int .i64) (.pair (.int .i64) (.pair (.int .i64) (.int .i64))))))) (.pair .bool (.pair (.sl 3 (.int .i64)) (.sl 3 (.int .i64)))))) a2]]) = some ((g_Aw_FnExactFroTick a0 a1 a2),.val false [.bool (g_Vw_FnExactFroTick_0 a0 a1 a2)],[]) := by kernel_rfl
theorem sw_FnExactFroTick:Sound Tryz.prog 3 msw_FnExactFroTick Fw_FnExactFroTick := by
 refine fn_gen goodw_FnExactFroTick (by kernel_rfl) .std (fn := Tryz.f3) (c := (Tryz.f3.body.getD .skip)) (o := Ow_FnExactFroTick_0) (k := 0) (by kernel_rfl) (by kernel_rfl) (by kernel_rfl) (by kernel_rfl) (by decide) kw_FnExactFroTick_0 ?_
 intro ys r outs h
 unfold Fw_FnExactFroTick at h
 split at h
 ·exact (vw_FnExactFroTick _ _ _).trans h
 ·cases h
end Go.Proofs.YtedhpmhlmdcpbaaGreatDoor.E
