/- What the functions that are reached do, by the engine: for the proof (laws.FnExactFroFall): part 3. No conditions. -/
import Derived.Test.YtedhpmhlmdcpbaaGreatDoorGb
import Derived.Test.YtedhpmhlmdcpbaaGreatDoorProg
set_option linter.all false
namespace Go.Proofs.YtedhpmhlmdcpbaaGreatDoor.E
open Go
set_option maxRecDepth 100000
set_option maxHeartbeats 0
noncomputable section
def Ew_szLogNoteS:Env where
 tt := mkTI Tryz.prog
 fn := fun f => match f with
  | 132 => some (msw_szLogNote,FSem.wk msw_szLogNote Fw_szLogNote)
  | _ => none
 bxf := fun _ => none
 mv := []
 keep := fun b => match b with
  | 0 => [(0,false),(1,false),(5,false)]
  | _ => []
 keepB := fun b => match b with
  | 0 => []
  | _ => []
 keepX := fun b => match b with
  | 0 => [(1,false),(4,false)]
  | _ => []
 keepXB := fun b => match b with
  | 0 => []
  | _ => []
theorem goodFw_szLogNoteS:∀ f ms F,Ew_szLogNoteS.fn f = some (ms,F) → Sound Tryz.prog f ms F := fun f ms F h => by
 unfold Ew_szLogNoteS at h
 dsimp only at h
 split at h
 ·exact gF sw_szLogNote h
 ·cases h
theorem goodw_szLogNoteS:Good Tryz.prog Ew_szLogNoteS := ⟨rfl,goodFw_szLogNoteS,fun f ms F h => by cases h⟩
def Ow_szLogNoteS_0:Orc := fun _ _ => none
def msw_szLogNoteS:List PM := [.rd,.own]
def lsw_szLogNoteS:List (Nat×Code) := loopsAll 0 (Tryz.f88.body.getD .skip)
def cw_szLogNoteS_0:Code := (loopOf 0 (Tryz.f88.body.getD .skip)).getD .skip
theorem lseqw_szLogNoteS:lsw_szLogNoteS = [(0,cw_szLogNoteS_0)] := by kernel_rfl
theorem mw_szLogNoteS_0:∀ p,p ∈ lsw_szLogNoteS → p.1 = 0 → p.2 = cw_szLogNoteS_0 := by
 intro p hp
 rw [lseqw_szLogNoteS] at hp
 simp only [List.mem_cons,List.not_mem_nil,or_false] at hp
 subst hp; simp
theorem kw_szLogNoteS_0:OrcOk Ew_szLogNoteS Ow_szLogNoteS_0 lsw_szLogNoteS 0 := orcOk_none
def hw_szLogNoteS_0 (y0:tL0) (y1:Int) (y2:Int):List (Pl×LV) := [(.T 0,.t (.val false [.sl .any 169 (.pair (.int .i64) (.pair (.int .i64) (.pair (.sl 9 .str) (.sl 196 (.pair .str (.pair .bool (.sl 3 (.int .i64)))))))) y0])),(.T 1,.t (.val false [.int .i64 y1])),(.T 5,.t (.val false [.int .i64 y2]))]
def g_Sw_szLogNoteS_0 (y0:tL0):(Int×Int) → RT (Int×Int) ((Int×Int) ⊕ (Int))
 | (y1,y2) => .br (true) (.br (decide (y2 < (y0.length:Int))) (.br (decide (0 ≤ y2 ∧ y2 < (y0.length:Int))) (.br (g_Aw_szLogNote (at_ yT3 y0 (Int.toNat y2)).1 (at_ yT3 y0 (Int.toNat y2)).2.1 (at_ yT3 y0 (Int.toNat y2)).2.2.1 (at_ yT3 y0 (Int.toNat y2)).2.2.2 y1) (.br (true) (.br (decide (g_Vw_szLogNote_0 (at_ yT3 y0 (Int.toNat y2)).1 (at_ yT3 y0 (Int.toNat y2)).2.1 (at_ yT3 y0 (Int.toNat y2)).2.2.1 (at_ yT3 y0 (Int.toNat y2)).2.2.2 y1 < 0)) (.out (.inl ((g_Vw_szLogNote_0 (at_ yT3 y0 (Int.toNat y2)).1 (at_ yT3 y0 (Int.toNat y2)).2.1 (at_ yT3 y0 (Int.toNat y2)).2.2.1 (at_ yT3 y0 (Int.toNat y2)).2.2.2 y1,(-1:Int))))) (.br (true) (.go ((g_Vw_szLogNote_0 (at_ yT3 y0 (Int.toNat y2)).1 (at_ yT3 y0 (Int.toNat y2)).2.1 (at_ yT3 y0 (Int.toNat y2)).2.2.1 (at_ yT3 y0 (Int.toNat y2)).2.2.2 y1,IntKind.i64.wrap (y2 + 1)))) .bad)) .bad) .bad) .bad) (.out (.inr (y1)))) .bad
def g_Lw_szLogNoteS_0 (y0:tL0) (x:Int×Int):Option ((Int×Int) ⊕ (Int)) := loopO (g_Sw_szLogNoteS_0 y0) x
def xw_szLogNoteS_0 (y0:tL0):((Int×Int) ⊕ (Int)) → Ex×List (Pl×LV) := fun
 | .inl r => (.ret,[(.T 1,.t (.val false [.int .i64 r.1])),(.T 4,.t (.val false [.int .i64 r.2]))])
 | .inr (r) => (.exit 0,[(.T 1,.t (.val false [.int .i64 r])),(.T 4,.t (.val false [.undef]))])
def Ow_szLogNoteS_1:Orc := fun b h => match b,h with
 | 0,[(.T 0,.t (.val false [.sl .any 169 (.pair (.int .i64) (.pair (.int .i64) (.pair (.sl 9 .str) (.sl 196 (.pair .str (.pair .bool (.sl 3 (.int .i64)))))))) y0])),(.T 1,.t (.val false [.int .i64 y1])),(.T 5,.t (.val false [.int .i64 y2]))] => some (okO (g_Lw_szLogNoteS_0 y0 (y1,y2)),(.br (isL (valO (g_Lw_szLogNoteS_0 y0 (y1,y2)))) (.leaf .ret [(.T 1,.t (.val false [.int .i64 (getL (valO (g_Lw_szLogNoteS_0 y0 (y1,y2)))).1])),(.T 4,.t (.val false [.int .i64 (getL (valO (g_Lw_szLogNoteS_0 y0 (y1,y2)))).2]))]) (.leaf (.exit 0) [(.T 1,.t (.val false [.int .i64 (getR (valO (g_Lw_szLogNoteS_0 y0 (y1,y2))))])),(.T 4,.t (.val false [.undef]))])))
 | b,h => Ow_szLogNoteS_0 b h
theorem bw_szLogNoteS_0 (y0:tL0) (y1:Int) (y2:Int):Tr.bt Ew_szLogNoteS Ow_szLogNoteS_0 (exec Ew_szLogNoteS 0 cw_szLogNoteS_0 (St.of (hw_szLogNoteS_0 y0 y1 y2)) (leafRd Ew_szLogNoteS 0)) = (g_Sw_szLogNoteS_0 y0 (y1,y2)).bt (fun ((y1,y2):Int×Int) => (hw_szLogNoteS_0 y0 y1 y2)) (xw_szLogNoteS_0 y0) := by kernel_rfl
theorem kw_szLogNoteS_1:OrcOk Ew_szLogNoteS Ow_szLogNoteS_1 lsw_szLogNoteS 1 := orc_add kw_szLogNoteS_0 (fun n p hp h ex h' ho => by
 obtain ⟨b,c⟩ := p
 obtain ⟨xt,h1,h2⟩ := ho
 have h1:Ow_szLogNoteS_1 b h = some (true,xt) := h1
 unfold Ow_szLogNoteS_1 at h1
 split at h1
 ·injection h1 with h1
  injection h1 with e1 e2
  subst e2
  have hc:c = cw_szLogNoteS_0 := mw_szLogNoteS_0 _ hp rfl
  subst hc
  right
  rename_i y0 y1 y2
  have key := LT_step kw_szLogNoteS_0 hp (fun q hq => loopsAll_in _ _ _ _ hp hq) (fun ((y1,y2):Int×Int) => (hw_szLogNoteS_0 y0 y1 y2)) (xw_szLogNoteS_0 y0) (g_Sw_szLogNoteS_0 y0) (fun x => by first | exact bw_szLogNoteS_0 y0 x.1 x.2) n (x := (y1,y2)) (okO_some e1)
  have hx:∀ r,XT.sel (.br (isL r) (.leaf .ret [(.T 1,.t (.val false [.int .i64 (getL r).1])),(.T 4,.t (.val false [.int .i64 (getL r).2]))]) (.leaf (.exit 0) [(.T 1,.t (.val false [.int .i64 (getR r)])),(.T 4,.t (.val false [.undef]))])) = xw_szLogNoteS_0 y0 r := fun r => by first | rfl | rcases r with r | r <;> rfl | rcases r with r | r | r <;> rfl | rcases r with r | r | r | r <;> rfl
  have h3 := (hx (valO (g_Lw_szLogNoteS_0 y0 (y1,y2)))).symm.trans h2
  have e3 := congrArg Prod.fst h3
  have e4 := congrArg Prod.snd h3
  simp only at e3 e4
  rw [← e3,← e4]
  exact key
 ·exact .inl ⟨xt,h1,h2⟩)
def g_Aw_szLogNoteS (a0:tL0) (a1:Int):Bool := decide (IntKind.i64.wrap (a1 - (a0.length:Int)) < 0) || okO (g_Lw_szLogNoteS_0 a0 (IntKind.i64.wrap (a1 - (a0.length:Int)),(0:Int)))
def g_Vw_szLogNoteS_0 (a0:tL0) (a1:Int):Int := bif decide (IntKind.i64.wrap (a1 - (a0.length:Int)) < 0) then (-1:Int) else bif isL (valO (g_Lw_szLogNoteS_0 a0 (IntKind.i64.wrap (a1 - (a0.length:Int)),(0:Int)))) then (getL (valO (g_Lw_szLogNoteS_0 a0 (IntKind.i64.wrap (a1 - (a0.length:Int)),(0:Int))))).2 else getR (valO (g_Lw_szLogNoteS_0 a0 (IntKind.i64.wrap (a1 - (a0.length:Int)),(0:Int))))
def Fw_szLogNoteS:FSem := fun ys => match ys with
 | [.val false [.sl .any 169 (.pair (.int .i64) (.pair (.int .i64) (.pair (.sl 9 .str) (.sl 196 (.pair .str (.pair .bool (.sl 3 (.int .i64)))))))) a0],.val false [.int .i64 a1]] => some ((g_Aw_szLogNoteS a0 a1),.val false [.int .i64 (g_Vw_szLogNoteS_0 a0 a1)],[])
 | _ => none
theorem vw_szLogNoteS (a0:tL0) (a1:Int):collapseH .std Ew_szLogNoteS Ow_szLogNoteS_1 (execFn Ew_szLogNoteS Tryz.f88 msw_szLogNoteS [.val false [.sl .any 169 (.pair (.int .i64) (.pair (.int .i64) (.pair (.sl 9 .str) (.sl 196 (.pair .str (.pair .bool (.sl 3 (.int .i64)))))))) a0],.val false [.int .i64 a1]]) = some ((g_Aw_szLogNoteS a0 a1),.val false [.int .i64 (g_Vw_szLogNoteS_0 a0 a1)],[]) := by kernel_rfl
theorem sw_szLogNoteS:Sound Tryz.prog 88 msw_szLogNoteS Fw_szLogNoteS := by
 refine fn_gen goodw_szLogNoteS (by kernel_rfl) .std (fn := Tryz.f88) (c := (Tryz.f88.body.getD .skip)) (o := Ow_szLogNoteS_1) (k := 1) (by kernel_rfl) (by kernel_rfl) (by kernel_rfl) (by kernel_rfl) (by decide) kw_szLogNoteS_1 ?_
 intro ys r outs h
 unfold Fw_szLogNoteS at h
 split at h
 ·exact (vw_szLogNoteS _ _).trans h
 ·cases h
def Ew_szLogDisk:Env where
 tt := mkTI Tryz.prog
 fn := fun f => match f with
  | 88 => some (msw_szLogNoteS,FSem.wk msw_szLogNoteS Fw_szLogNoteS)
  | _ => none
 bxf := fun _ => none
 mv := []
 keep := fun _ => []
 keepB := fun _ => []
 keepX := fun _ => []
 keepXB := fun _ => []
theorem goodFw_szLogDisk:∀ f ms F,Ew_szLogDisk.fn f = some (ms,F) → Sound Tryz.prog f ms F := fun f ms F h => by
 unfold Ew_szLogDisk at h
 dsimp only at h
 split at h
 ·exact gF sw_szLogNoteS h
 ·cases h
theorem goodw_szLogDisk:Good Tryz.prog Ew_szLogDisk := ⟨rfl,goodFw_szLogDisk,fun f ms F h => by cases h⟩
def Ow_szLogDisk_0:Orc := fun _ _ => none
def msw_szLogDisk:List PM := [.rd,.own]
def lsw_szLogDisk:List (Nat×Code) := loopsAll 0 (Tryz.f27.body.getD .skip)
theorem kw_szLogDisk_0:OrcOk Ew_szLogDisk Ow_szLogDisk_0 lsw_szLogDisk 0 := orcOk_none
def g_Aw_szLogDisk (a0:tL0) (a1:Int) (a2:Int):Bool := g_Aw_szLogNoteS a0 a2&&true
def g_Vw_szLogDisk_0 (a0:tL0) (a1:Int) (a2:Int):Int := bif decide (g_Vw_szLogNoteS_0 a0 a2 < 0) then (-1:Int) else g_Vw_szLogNoteS_0 a0 a2
def Fw_szLogDisk:FSem := fun ys => match ys with
 | [.val true [.sl .any 169 (.pair (.int .i64) (.pair (.int .i64) (.pair (.sl 9 .str) (.sl 196 (.pair .str (.pair .bool (.sl 3 (.int .i64)))))))) a0,.int .i64 a1],.val false [.int .i64 a2]] => some ((g_Aw_szLogDisk a0 a1 a2),.val false [.int .i64 (g_Vw_szLogDisk_0 a0 a1 a2)],[])
 | _ => none
theorem vw_szLogDisk (a0:tL0) (a1:Int) (a2:Int):collapseH .std Ew_szLogDisk Ow_szLogDisk_0 (execFn Ew_szLogDisk Tryz.f27 msw_szLogDisk [.val true [.sl .any 169 (.pair (.int .i64) (.pair (.int .i64) (.pair (.sl 9 .str) (.sl 196 (.pair .str (.pair .bool (.sl 3 (.int .i64)))))))) a0,.int .i64 a1],.val false [.int .i64 a2]]) = some ((g_Aw_szLogDisk a0 a1 a2),.val false [.int .i64 (g_Vw_szLogDisk_0 a0 a1 a2)],[]) := by kernel_rfl
theorem sw_szLogDisk:Sound Tryz.prog 27 msw_szLogDisk Fw_szLogDisk := by
 refine fn_gen goodw_szLogDisk (by kernel_rfl) .std (fn := Tryz.f27) (c := (Tryz.f27.body.getD .skip)) (o := Ow_szLogDisk_0) (k := 0) (by kernel_rfl) (by kernel_rfl) (by kernel_rfl) (by kernel_rfl) (by decide) kw_szLogDisk_0 ?_
 intro ys r outs h
 unfold Fw_szLogDisk at h
 split at h
 ·exact (vw_szLogDisk _ _ _).trans h
 ·cases h
def Ew_szFroState:Env where
 tt := mkTI Tryz.prog
 fn := fun f => match f with
  | 27 => some (msw_szLogDisk,FSem.wk msw_szLogDisk Fw_szLogDisk)
  | 28 => some (msw_szFroTxS,FSem.wk msw_szFroTxS Fw_szFroTxS)
  | _ => none
 bxf := fun _ => none
 mv := []
 keep := fun _ => []
 keepB := fun _ => []
 keepX := fun _ => []
 keepXB := fun _ => []
theorem goodFw_szFroState:∀ f ms F,Ew_szFroState.fn f = some (ms,F) → Sound Tryz.prog f ms F := fun f ms F h => by
 unfold Ew_szFroState at h
 dsimp only at h
 split at h
 ·exact gF sw_szLogDisk h
 ·exact gF sw_szFroTxS h
 ·cases h
theorem goodw_szFroState:Good Tryz.prog Ew_szFroState := ⟨rfl,goodFw_szFroState,fun f ms F h => by cases h⟩
def Ow_szFroState_0:Orc := fun _ _ => none
def msw_szFroState:List PM := [.rd,.own]
def lsw_szFroState:List (Nat×Code) := loopsAll 0 (Tryz.f7.body.getD .skip)
theorem kw_szFroState_0:OrcOk Ew_szFroState Ow_szFroState_0 lsw_szFroState 0 := orcOk_none
def g_Aw_szFroState (a0:tL0) (a1:Int) (a2:tL1) (a3:Int):Bool := g_Aw_szLogDisk a0 a1 a3&&(decide (g_Vw_szLogDisk_0 a0 a1 a3 < 0) || g_Aw_szFroTxS a2 (g_Vw_szLogDisk_0 a0 a1 a3)&&true)
def g_Vw_szFroState_0 (a0:tL0) (a1:Int) (a2:tL1) (a3:Int):Int := bif decide (g_Vw_szLogDisk_0 a0 a1 a3 < 0) then (-1:Int) else bif decide (g_Vw_szFroTxS_0 a2 (g_Vw_szLogDisk_0 a0 a1 a3) < 0) then (-1:Int) else g_Vw_szFroTxS_0 a2 (g_Vw_szLogDisk_0 a0 a1 a3)
def Fw_szFroState:FSem := fun ys => match ys with
 | [.val true [.sl .any 169 (.pair (.int .i64) (.pair (.int .i64) (.pair (.sl 9 .str) (.sl 196 (.pair .str (.pair .bool (.sl 3 (.int .i64)))))))) a0,.int .i64 a1,.sl .any 129 (.pair (.int .i64) (.pair (.pair (.int .i64) (.pair (.int .i64) (.pair (.int .i64) (.pair (.int .i64) (.pair (.int .i64) (.pair (.int .i64) (.int .i64))))))) (.pair .bool (.pair (.sl 3 (.int .i64)) (.sl 3 (.int .i64)))))) a2],.val false [.int .i64 a3]] => some ((g_Aw_szFroState a0 a1 a2 a3),.val false [.int .i64 (g_Vw_szFroState_0 a0 a1 a2 a3)],[])
 | _ => none
theorem vw_szFroState (a0:tL0) (a1:Int) (a2:tL1) (a3:Int):collapseH .std Ew_szFroState Ow_szFroState_0 (execFn Ew_szFroState Tryz.f7 msw_szFroState [.val true [.sl .any 169 (.pair (.int .i64) (.pair (.int .i64) (.pair (.sl 9 .str) (.sl 196 (.pair .str (.pair .bool (.sl 3 (.int .i64)))))))) a0,.int .i64 a1,.sl .any 129 (.pair (.int .i64) (.pair (.pair (.int .i64) (.pair (.int .i64) (.pair (.int .i64) (.pair (.int .i64) (.pair (.int .i64) (.pair (.int .i64) (.int .i64))))))) (.pair .bool (.pair (.sl 3 (.int .i64)) (.sl 3 (.int .i64)))))) a2],.val false [.int .i64 a3]]) = some ((g_Aw_szFroState a0 a1 a2 a3),.val false [.int .i64 (g_Vw_szFroState_0 a0 a1 a2 a3)],[]) := by kernel_rfl
theorem sw_szFroState:Sound Tryz.prog 7 msw_szFroState Fw_szFroState := by
 refine fn_gen goodw_szFroState (by kernel_rfl) .std (fn := Tryz.f7) (c := (Tryz.f7.body.getD .skip)) (o := Ow_szFroState_0) (k := 0) (by kernel_rfl) (by kernel_rfl) (by kernel_rfl) (by kernel_rfl) (by decide) kw_szFroState_0 ?_
 intro ys r outs h
 unfold Fw_szFroState at h
 split at h
 ·exact (vw_szFroState _ _ _ _).trans h
 ·cases h
def Ew_toIntS:Env where
 tt := mkTI Tryz.prog
 fn := fun _ => none
 bxf := fun _ => none
 mv := []
 keep := fun b => match b with
  | 0 => [(0,false),(3,false),(4,false)]
  | _ => []
 keepB := fun b => match b with
  | 0 => []
  | _ => []
 keepX := fun b => match b with
  | 0 => [(3,false)]
  | _ => []
 keepXB := fun b => match b with
  | 0 => []
  | _ => []
theorem goodFw_toIntS:∀ f ms F,Ew_toIntS.fn f = some (ms,F) → Sound Tryz.prog f ms F := fun f ms F h => by cases h
theorem goodw_toIntS:Good Tryz.prog Ew_toIntS := ⟨rfl,goodFw_toIntS,fun f ms F h => by cases h⟩
def Ow_toIntS_0:Orc := fun _ _ => none
def msw_toIntS:List PM := [.rd]
def lsw_toIntS:List (Nat×Code) := loopsAll 0 (Tryz.f136.body.getD .skip)
def cw_toIntS_0:Code := (loopOf 0 (Tryz.f136.body.getD .skip)).getD .skip
theorem lseqw_toIntS:lsw_toIntS = [(0,cw_toIntS_0)] := by kernel_rfl
theorem mw_toIntS_0:∀ p,p ∈ lsw_toIntS → p.1 = 0 → p.2 = cw_toIntS_0 := by
 intro p hp
 rw [lseqw_toIntS] at hp
 simp only [List.mem_cons,List.not_mem_nil,or_false] at hp
 subst hp; simp
theorem kw_toIntS_0:OrcOk Ew_toIntS Ow_toIntS_0 lsw_toIntS 0 := orcOk_none
def hw_toIntS_0 (y0:List Int) (y1:List Int) (y2:Int):List (Pl×LV) := [(.T 0,.t (.val false [.sl .any 3 (.int .i64) y0])),(.T 3,.t (.val false [.row 3 0 0])),(.R 3 0,.r 0 (some ⟨false,.non,true,3,(.int .i64),y1⟩)),(.T 4,.t (.val false [.int .i64 y2]))]
def g_Sw_toIntS_0 (y0:List Int):((List Int)×Int) → RT ((List Int)×Int) (((List Int)))
 | (y1,y2) => .br (true) (.br (decide (y2 < (y0.length:Int))) (.br (decide (0 ≤ y2 ∧ y2 < (y0.length:Int))) (.br (decide (0 ≤ y2 ∧ y2 < (y1.length:Int))) (.br (decide (Int.toNat y2 < List.length y1)) (.br (true) (.go ((List.set y1 (Int.toNat y2) (at_ (.int .i64) y0 (Int.toNat y2)),IntKind.i64.wrap (y2 + 1)))) .bad) .bad) .bad) .bad) (.out (y1))) .bad
def g_Lw_toIntS_0 (y0:List Int) (x:(List Int)×Int):Option (((List Int))) := loopO (g_Sw_toIntS_0 y0) x
def xw_toIntS_0 (y0:List Int):(((List Int))) → Ex×List (Pl×LV) := fun r => (.exit 0,[(.T 3,.t (.val false [.row 3 0 0])),(.R 3 0,.r 0 (some ⟨false,.non,true,3,(.int .i64),r⟩))])
def Ow_toIntS_1:Orc := fun b h => match b,h with
 | 0,[(.T 0,.t (.val false [.sl .any 3 (.int .i64) y0])),(.T 3,.t (.val false [.row 3 0 0])),(.R 3 0,.r 0 (some ⟨false,.non,true,3,(.int .i64),y1⟩)),(.T 4,.t (.val false [.int .i64 y2]))] => some (okO (g_Lw_toIntS_0 y0 (y1,y2)),(.leaf (.exit 0) [(.T 3,.t (.val false [.row 3 0 0])),(.R 3 0,.r 0 (some ⟨false,.non,true,3,(.int .i64),(valO (g_Lw_toIntS_0 y0 (y1,y2)))⟩))]))
 | b,h => Ow_toIntS_0 b h
theorem bw_toIntS_0 (y0:List Int) (y1:List Int) (y2:Int):Tr.bt Ew_toIntS Ow_toIntS_0 (exec Ew_toIntS 0 cw_toIntS_0 (St.of (hw_toIntS_0 y0 y1 y2)) (leafRd Ew_toIntS 0)) = (g_Sw_toIntS_0 y0 (y1,y2)).bt (fun ((y1,y2):(List Int)×Int) => (hw_toIntS_0 y0 y1 y2)) (xw_toIntS_0 y0) := by kernel_rfl
theorem kw_toIntS_1:OrcOk Ew_toIntS Ow_toIntS_1 lsw_toIntS 1 := orc_add kw_toIntS_0 (fun n p hp h ex h' ho => by
 obtain ⟨b,c⟩ := p
 obtain ⟨xt,h1,h2⟩ := ho
 have h1:Ow_toIntS_1 b h = some (true,xt) := h1
 unfold Ow_toIntS_1 at h1
 split at h1
 ·injection h1 with h1
  injection h1 with e1 e2
  subst e2
  have hc:c = cw_toIntS_0 := mw_toIntS_0 _ hp rfl
  subst hc
  right
  rename_i y0 y1 y2
  have key := LT_step kw_toIntS_0 hp (fun q hq => loopsAll_in _ _ _ _ hp hq) (fun ((y1,y2):(List Int)×Int) => (hw_toIntS_0 y0 y1 y2)) (xw_toIntS_0 y0) (g_Sw_toIntS_0 y0) (fun x => by first | exact bw_toIntS_0 y0 x.1 x.2) n (x := (y1,y2)) (okO_some e1)
  have hx:∀ r,XT.sel (.leaf (.exit 0) [(.T 3,.t (.val false [.row 3 0 0])),(.R 3 0,.r 0 (some ⟨false,.non,true,3,(.int .i64),r⟩))]) = xw_toIntS_0 y0 r := fun r => by first | rfl | rcases r with r | r <;> rfl | rcases r with r | r | r <;> rfl | rcases r with r | r | r | r <;> rfl
  have h3 := (hx (valO (g_Lw_toIntS_0 y0 (y1,y2)))).symm.trans h2
  have e3 := congrArg Prod.fst h3
  have e4 := congrArg Prod.snd h3
  simp only at e3 e4
  rw [← e3,← e4]
  exact key
 ·exact .inl ⟨xt,h1,h2⟩)
def g_Aw_toIntS (a0:List Int):Bool := decide ((a0.length:Int) = (a0.length:Int) ∧ 0 ≤ (a0.length:Int) ∧ (a0.length:Int) ≤ 9223372036854775807 ∧ 8 * (a0.length:Int) ≤ 281474976710656)&&okO (g_Lw_toIntS_0 a0 (List.replicate (Int.toNat (a0.length:Int)) (0:Int),(0:Int)))
def g_Vw_toIntS_0 (a0:List Int):List Int := valO (g_Lw_toIntS_0 a0 (List.replicate (Int.toNat (a0.length:Int)) (0:Int),(0:Int)))
def Fw_toIntS:FSem := fun ys => match ys with
 | [.val false [.sl .any 3 (.int .i64) a0]] => some ((g_Aw_toIntS a0),.val false [.own .any true 3 (.int .i64) (g_Vw_toIntS_0 a0)],[])
 | _ => none
theorem vw_toIntS (a0:List Int):collapseH .std Ew_toIntS Ow_toIntS_1 (execFn Ew_toIntS Tryz.f136 msw_toIntS [.val false [.sl .any 3 (.int .i64) a0]]) = some ((g_Aw_toIntS a0),.val false [.own .any true 3 (.int .i64) (g_Vw_toIntS_0 a0)],[]) := by kernel_rfl
theorem sw_toIntS:Sound Tryz.prog 136 msw_toIntS Fw_toIntS := by
 refine fn_gen goodw_toIntS (by kernel_rfl) .std (fn := Tryz.f136) (c := (Tryz.f136.body.getD .skip)) (o := Ow_toIntS_1) (k := 1) (by kernel_rfl) (by kernel_rfl) (by kernel_rfl) (by kernel_rfl) (by decide) kw_toIntS_1 ?_
 intro ys r outs h
 unfold Fw_toIntS at h
 split at h
 ·exact (vw_toIntS _).trans h
 ·cases h
def Ew_toOpOp:Env where
 tt := mkTI Tryz.prog
 fn := fun _ => none
 bxf := fun _ => none
 mv := []
 keep := fun _ => []
 keepB := fun _ => []
 keepX := fun _ => []
 keepXB := fun _ => []
theorem goodFw_toOpOp:∀ f ms F,Ew_toOpOp.fn f = some (ms,F) → Sound Tryz.prog f ms F := fun f ms F h => by cases h
theorem goodw_toOpOp:Good Tryz.prog Ew_toOpOp := ⟨rfl,goodFw_toOpOp,fun f ms F h => by cases h⟩
def Ow_toOpOp_0:Orc := fun _ _ => none
def msw_toOpOp:List PM := [.own]
def lsw_toOpOp:List (Nat×Code) := loopsAll 0 (Tryz.f20.body.getD .skip)
theorem kw_toOpOp_0:OrcOk Ew_toOpOp Ow_toOpOp_0 lsw_toOpOp 0 := orcOk_none
def Fw_toOpOp:FSem := fun ys => match ys with
 | [.val true [.int .i64 a0,.int .i64 a1,.int .i64 a2,.int .i64 a3,.int .i64 a4,.int .i64 a5,.int .i64 a6]] => some (true,.val true [.int .i64 a0,.int .i64 a1,.int .i64 a2,.int .i64 a3,.int .i64 a4,.int .i64 a5,.int .i64 a6],[])
 | _ => none
theorem vw_toOpOp (a0:Int) (a1:Int) (a2:Int) (a3:Int) (a4:Int) (a5:Int) (a6:Int):collapseH .std Ew_toOpOp Ow_toOpOp_0 (execFn Ew_toOpOp Tryz.f20 msw_toOpOp [.val true [.int .i64 a0,.int .i64 a1,.int .i64 a2,.int .i64 a3,.int .i64 a4,.int .i64 a5,.int .i64 a6]]) = some (true,.val true [.int .i64 a0,.int .i64 a1,.int .i64 a2,.int .i64 a3,.int .i64 a4,.int .i64 a5,.int .i64 a6],[]) := by kernel_rfl
theorem sw_toOpOp:Sound Tryz.prog 20 msw_toOpOp Fw_toOpOp := by
 refine fn_gen goodw_toOpOp (by kernel_rfl) .std (fn := Tryz.f20) (c := (Tryz.f20.body.getD .skip)) (o := Ow_toOpOp_0) (k := 0) (by kernel_rfl) (by kernel_rfl) (by kernel_rfl) (by kernel_rfl) (by decide) kw_toOpOp_0 ?_
 intro ys r outs h
 unfold Fw_toOpOp at h
 split at h
 ·exact (vw_toOpOp _ _ _ _ _ _ _).trans h
 ·cases h
def Ew_toFroTx:Env where
 tt := mkTI Tryz.prog
 fn := fun f => match f with
  | 20 => some (msw_toOpOp,FSem.wk msw_toOpOp Fw_toOpOp)
  | 136 => some (msw_toIntS,FSem.wk msw_toIntS Fw_toIntS)
  | _ => none
 bxf := fun _ => none
 mv := []
 keep := fun _ => []
 keepB := fun _ => []
 keepX := fun _ => []
 keepXB := fun _ => []
theorem goodFw_toFroTx:∀ f ms F,Ew_toFroTx.fn f = some (ms,F) → Sound Tryz.prog f ms F := fun f ms F h => by
 unfold Ew_toFroTx at h
 dsimp only at h
 split at h
 ·exact gF sw_toOpOp h
 ·exact gF sw_toIntS h
 ·cases h
theorem goodw_toFroTx:Good Tryz.prog Ew_toFroTx := ⟨rfl,goodFw_toFroTx,fun f ms F h => by cases h⟩
def Ow_toFroTx_0:Orc := fun _ _ => none
def msw_toFroTx:List PM := [.rd]
def lsw_toFroTx:List (Nat×Code) := loopsAll 0 (Tryz.f94.body.getD .skip)
theorem kw_toFroTx_0:OrcOk Ew_toFroTx Ow_toFroTx_0 lsw_toFroTx 0 := orcOk_none
def g_Aw_toFroTx (a0:Int) (a1:Int) (a2:Int) (a3:Int) (a4:Int) (a5:Int) (a6:Int) (a7:Int) (a8:Bool) (a9:List Int) (a10:List Int):Bool := g_Aw_toIntS a9&&g_Aw_toIntS a10
def Fw_toFroTx:FSem := fun ys => match ys with
 | [.val true [.int .i64 a0,.int .i64 a1,.int .i64 a2,.int .i64 a3,.int .i64 a4,.int .i64 a5,.int .i64 a6,.int .i64 a7,.bool a8,.sl .any 3 (.int .i64) a9,.sl .any 3 (.int .i64) a10]] => some ((g_Aw_toFroTx a0 a1 a2 a3 a4 a5 a6 a7 a8 a9 a10),.val true [.int .i64 a0,.int .i64 a1,.int .i64 a2,.int .i64 a3,.int .i64 a4,.int .i64 a5,.int .i64 a6,.int .i64 a7,.bool a8,.own .any true 3 (.int .i64) (g_Vw_toIntS_0 a9),.own .any true 3 (.int .i64) (g_Vw_toIntS_0 a10)],[])
 | _ => none
theorem vw_toFroTx (a0:Int) (a1:Int) (a2:Int) (a3:Int) (a4:Int) (a5:Int) (a6:Int) (a7:Int) (a8:Bool) (a9:List Int) (a10:List Int):collapseH .std Ew_toFroTx Ow_toFroTx_0 (execFn Ew_toFroTx Tryz.f94 msw_toFroTx [.val true [.int .i64 a0,.int .i64 a1,.int .i64 a2,.int .i64 a3,.int .i64 a4,.int .i64 a5,.int .i64 a6,.int .i64 a7,.bool a8,.sl .any 3 (.int .i64) a9,.sl .any 3 (.int .i64) a10]]) = some ((g_Aw_toFroTx a0 a1 a2 a3 a4 a5 a6 a7 a8 a9 a10),.val true [.int .i64 a0,.int .i64 a1,.int .i64 a2,.int .i64 a3,.int .i64 a4,.int .i64 a5,.int .i64 a6,.int .i64 a7,.bool a8,.own .any true 3 (.int .i64) (g_Vw_toIntS_0 a9),.own .any true 3 (.int .i64) (g_Vw_toIntS_0 a10)],[]) := by kernel_rfl
theorem sw_toFroTx:Sound Tryz.prog 94 msw_toFroTx Fw_toFroTx := by
 refine fn_gen goodw_toFroTx (by kernel_rfl) .std (fn := Tryz.f94) (c := (Tryz.f94.body.getD .skip)) (o := Ow_toFroTx_0) (k := 0) (by kernel_rfl) (by kernel_rfl) (by kernel_rfl) (by kernel_rfl) (by decide) kw_toFroTx_0 ?_
 intro ys r outs h
 unfold Fw_toFroTx at h
 split at h
 ·exact (vw_toFroTx _ _ _ _ _ _ _ _ _ _ _).trans h
 ·cases h
def Ew_toFroTxS:Env where
 tt := mkTI Tryz.prog
 fn := fun f => match f with
  | 94 => some (msw_toFroTx,FSem.wk msw_toFroTx Fw_toFroTx)
  | _ => none
 bxf := fun _ => none
 mv := []
 keep := fun b => match b with
  | 0 => [(0,false),(3,false),(4,false)]
  | _ => []
 keepB := fun b => match b with
  | 0 => []
  | _ => []
 keepX := fun b => match b with
  | 0 => [(3,false)]
  | _ => []
 keepXB := fun b => match b with
  | 0 => []
  | _ => []
theorem goodFw_toFroTxS:∀ f ms F,Ew_toFroTxS.fn f = some (ms,F) → Sound Tryz.prog f ms F := fun f ms F h => by
 unfold Ew_toFroTxS at h
 dsimp only at h
 split at h
 ·exact gF sw_toFroTx h
 ·cases h
theorem goodw_toFroTxS:Good Tryz.prog Ew_toFroTxS := ⟨rfl,goodFw_toFroTxS,fun f ms F h => by cases h⟩
def Ow_toFroTxS_0:Orc := fun _ _ => none
def msw_toFroTxS:List PM := [.rd]
def lsw_toFroTxS:List (Nat×Code) := loopsAll 0 (Tryz.f35.body.getD .skip)
def cw_toFroTxS_0:Code := (loopOf 0 (Tryz.f35.body.getD .skip)).getD .skip
theorem lseqw_toFroTxS:lsw_toFroTxS = [(0,cw_toFroTxS_0)] := by kernel_rfl
theorem mw_toFroTxS_0:∀ p,p ∈ lsw_toFroTxS → p.1 = 0 → p.2 = cw_toFroTxS_0 := by
 intro p hp
 rw [lseqw_toFroTxS] at hp
 simp only [List.mem_cons,List.not_mem_nil,or_false] at hp
 subst hp; simp
theorem kw_toFroTxS_0:OrcOk Ew_toFroTxS Ow_toFroTxS_0 lsw_toFroTxS 0 := orcOk_none
def hw_toFroTxS_0 (y0:tL1) (y1:tL1) (y2:Int):List (Pl×LV) := [(.T 0,.t (.val false [.sl .any 129 (.pair (.int .i64) (.pair (.pair (.int .i64) (.pair (.int .i64) (.pair (.int .i64) (.pair (.int .i64) (.pair (.int .i64) (.pair (.int .i64) (.int .i64))))))) (.pair .bool (.pair (.sl 3 (.int .i64)) (.sl 3 (.int .i64)))))) y0])),(.T 3,.t (.val false [.row 3 0 0])),(.R 3 0,.r 0 (some ⟨false,.non,true,73,(.pair (.int .i64) (.pair (.pair (.int .i64) (.pair (.int .i64) (.pair (.int .i64) (.pair (.int .i64) (.pair (.int .i64) (.pair (.int .i64) (.int .i64))))))) (.pair .bool (.pair (.sl 3 (.int .i64)) (.sl 3 (.int .i64)))))),y1⟩)),(.T 4,.t (.val false [.int .i64 y2]))]
def g_Sw_toFroTxS_0 (y0:tL1):(tL1×Int) → RT (tL1×Int) ((tL1))
 | (y1,y2) => .br (true) (.br (decide (y2 < (y0.length:Int))) (.br (decide (0 ≤ y2 ∧ y2 < (y0.length:Int))) (.br (g_Aw_toFroTx (at_ yT0 y0 (Int.toNat y2)).1 (at_ yT0 y0 (Int.toNat y2)).2.1.1 (at_ yT0 y0 (Int.toNat y2)).2.1.2.1 (at_ yT0 y0 (Int.toNat y2)).2.1.2.2.1 (at_ yT0 y0 (Int.toNat y2)).2.1.2.2.2.1 (at_ yT0 y0 (Int.toNat y2)).2.1.2.2.2.2.1 (at_ yT0 y0 (Int.toNat y2)).2.1.2.2.2.2.2.1 (at_ yT0 y0 (Int.toNat y2)).2.1.2.2.2.2.2.2 (at_ yT0 y0 (Int.toNat y2)).2.2.1 (at_ yT0 y0 (Int.toNat y2)).2.2.2.1 (at_ yT0 y0 (Int.toNat y2)).2.2.2.2) (.br (decide (0 ≤ y2 ∧ y2 < (y1.length:Int))) (.br (decide (Int.toNat y2 < List.length y1)) (.br (true) (.go ((List.set y1 (Int.toNat y2) ((at_ yT0 y0 (Int.toNat y2)).1,((at_ yT0 y0 (Int.toNat y2)).2.1.1,(at_ yT0 y0 (Int.toNat y2)).2.1.2.1,(at_ yT0 y0 (Int.toNat y2)).2.1.2.2.1,(at_ yT0 y0 (Int.toNat y2)).2.1.2.2.2.1,(at_ yT0 y0 (Int.toNat y2)).2.1.2.2.2.2.1,(at_ yT0 y0 (Int.toNat y2)).2.1.2.2.2.2.2.1,(at_ yT0 y0 (Int.toNat y2)).2.1.2.2.2.2.2.2),(at_ yT0 y0 (Int.toNat y2)).2.2.1,g_Vw_toIntS_0 (at_ yT0 y0 (Int.toNat y2)).2.2.2.1,g_Vw_toIntS_0 (at_ yT0 y0 (Int.toNat y2)).2.2.2.2),IntKind.i64.wrap (y2 + 1)))) .bad) .bad) .bad) .bad) .bad) (.out (y1))) .bad
def g_Lw_toFroTxS_0 (y0:tL1) (x:tL1×Int):Option ((tL1)) := loopO (g_Sw_toFroTxS_0 y0) x
def xw_toFroTxS_0 (y0:tL1):((tL1)) → Ex×List (Pl×LV) := fun r => (.exit 0,[(.T 3,.t (.val false [.row 3 0 0])),(.R 3 0,.r 0 (some ⟨false,.non,true,73,(.pair (.int .i64) (.pair (.pair (.int .i64) (.pair (.int .i64) (.pair (.int .i64) (.pair (.int .i64) (.pair (.int .i64) (.pair (.int .i64) (.int .i64))))))) (.pair .bool (.pair (.sl 3 (.int .i64)) (.sl 3 (.int .i64)))))),r⟩))])
def Ow_toFroTxS_1:Orc := fun b h => match b,h with
 | 0,[(.T 0,.t (.val false [.sl .any 129 (.pair (.int .i64) (.pair (.pair (.int .i64) (.pair (.int .i64) (.pair (.int .i64) (.pair (.int .i64) (.pair (.int .i64) (.pair (.int .i64) (.int .i64))))))) (.pair .bool (.pair (.sl 3 (.int .i64)) (.sl 3 (.int .i64)))))) y0])),(.T 3,.t (.val false [.row 3 0 0])),(.R 3 0,.r 0 (some ⟨false,.non,true,73,(.pair (.int .i64) (.pair (.pair (.int .i64) (.pair (.int .i64) (.pair (.int .i64) (.pair (.int .i64) (.pair (.int .i64) (.pair (.int .i64) (.int .i64))))))) (.pair .bool (.pair (.sl 3 (.int .i64)) (.sl 3 (.int .i64)))))),y1⟩)),(.T 4,.t (.val false [.int .i64 y2]))] => some (okO (g_Lw_toFroTxS_0 y0 (y1,y2)),(.leaf (.exit 0) [(.T 3,.t (.val false [.row 3 0 0])),(.R 3 0,.r 0 (some ⟨false,.non,true,73,(.pair (.int .i64) (.pair (.pair (.int .i64) (.pair (.int .i64) (.pair (.int .i64) (.pair (.int .i64) (.pair (.int .i64) (.pair (.int .i64) (.int .i64))))))) (.pair .bool (.pair (.sl 3 (.int .i64)) (.sl 3 (.int .i64)))))),(valO (g_Lw_toFroTxS_0 y0 (y1,y2)))⟩))]))
 | b,h => Ow_toFroTxS_0 b h
theorem bw_toFroTxS_0 (y0:tL1) (y1:tL1) (y2:Int):Tr.bt Ew_toFroTxS Ow_toFroTxS_0 (exec Ew_toFroTxS 0 cw_toFroTxS_0 (St.of (hw_toFroTxS_0 y0 y1 y2)) (leafRd Ew_toFroTxS 0)) = (g_Sw_toFroTxS_0 y0 (y1,y2)).bt (fun ((y1,y2):tL1×Int) => (hw_toFroTxS_0 y0 y1 y2)) (xw_toFroTxS_0 y0) := by kernel_rfl
theorem kw_toFroTxS_1:OrcOk Ew_toFroTxS Ow_toFroTxS_1 lsw_toFroTxS 1 := orc_add kw_toFroTxS_0 (fun n p hp h ex h' ho => by
 obtain ⟨b,c⟩ := p
 obtain ⟨xt,h1,h2⟩ := ho
 have h1:Ow_toFroTxS_1 b h = some (true,xt) := h1
 unfold Ow_toFroTxS_1 at h1
 split at h1
 ·injection h1 with h1
  injection h1 with e1 e2
  subst e2
  have hc:c = cw_toFroTxS_0 := mw_toFroTxS_0 _ hp rfl
  subst hc
  right
  rename_i y0 y1 y2
  have key := LT_step kw_toFroTxS_0 hp (fun q hq => loopsAll_in _ _ _ _ hp hq) (fun ((y1,y2):tL1×Int) => (hw_toFroTxS_0 y0 y1 y2)) (xw_toFroTxS_0 y0) (g_Sw_toFroTxS_0 y0) (fun x => by first | exact bw_toFroTxS_0 y0 x.1 x.2) n (x := (y1,y2)) (okO_some e1)
  have hx:∀ r,XT.sel (.leaf (.exit 0) [(.T 3,.t (.val false [.row 3 0 0])),(.R 3 0,.r 0 (some ⟨false,.non,true,73,(.pair (.int .i64) (.pair (.pair (.int .i64) (.pair (.int .i64) (.pair (.int .i64) (.pair (.int .i64) (.pair (.int .i64) (.pair (.int .i64) (.int .i64))))))) (.pair .bool (.pair (.sl 3 (.int .i64)) (.sl 3 (.int .i64)))))),r⟩))]) = xw_toFroTxS_0 y0 r := fun r => by first | rfl | rcases r with r | r <;> rfl | rcases r with r | r | r <;> rfl | rcases r with r | r | r | r <;> rfl
  have h3 := (hx (valO (g_Lw_toFroTxS_0 y0 (y1,y2)))).symm.trans h2
  have e3 := congrArg Prod.fst h3
  have e4 := congrArg Prod.snd h3
  simp only at e3 e4
  rw [← e3,← e4]
  exact key
 ·exact .inl ⟨xt,h1,h2⟩)
def g_Aw_toFroTxS (a0:tL1):Bool := decide ((a0.length:Int) = (a0.length:Int) ∧ 0 ≤ (a0.length:Int) ∧ (a0.length:Int) ≤ 9223372036854775807 ∧ 120 * (a0.length:Int) ≤ 281474976710656)&&okO (g_Lw_toFroTxS_0 a0 (List.replicate (Int.toNat (a0.length:Int)) ((0:Int),((0:Int),(0:Int),(0:Int),(0:Int),(0:Int),(0:Int),(0:Int)),false,([]:List Int),([]:List Int)),(0:Int)))
def g_Vw_toFroTxS_0 (a0:tL1):tL1 := valO (g_Lw_toFroTxS_0 a0 (List.replicate (Int.toNat (a0.length:Int)) ((0:Int),((0:Int),(0:Int),(0:Int),(0:Int),(0:Int),(0:Int),(0:Int)),false,([]:List Int),([]:List Int)),(0:Int)))
def Fw_toFroTxS:FSem := fun ys => match ys with
 | [.val false [.sl .any 129 (.pair (.int .i64) (.pair (.pair (.int .i64) (.pair (.int .i64) (.pair (.int .i64) (.pair (.int .i64) (.pair (.int .i64) (.pair (.int .i64) (.int .i64))))))) (.pair .bool (.pair (.sl 3 (.int .i64)) (.sl 3 (.int .i64)))))) a0]] => some ((g_Aw_toFroTxS a0),.val false [.own .any true 73 (.pair (.int .i64) (.pair (.pair (.int .i64) (.pair (.int .i64) (.pair (.int .i64) (.pair (.int .i64) (.pair (.int .i64) (.pair (.int .i64) (.int .i64))))))) (.pair .bool (.pair (.sl 3 (.int .i64)) (.sl 3 (.int .i64)))))) (g_Vw_toFroTxS_0 a0)],[])
 | _ => none
theorem vw_toFroTxS (a0:tL1):collapseH .std Ew_toFroTxS Ow_toFroTxS_1 (execFn Ew_toFroTxS Tryz.f35 msw_toFroTxS [.val false [.sl .any 129 (.pair (.int .i64) (.pair (.pair (.int .i64) (.pair (.int .i64) (.pair (.int .i64) (.pair (.int .i64) (.pair (.int .i64) (.pair (.int .i64) (.int .i64))))))) (.pair .bool (.pair (.sl 3 (.int .i64)) (.sl 3 (.int .i64)))))) a0]]) = some ((g_Aw_toFroTxS a0),.val false [.own .any true 73 (.pair (.int .i64) (.pair (.pair (.int .i64) (.pair (.int .i64) (.pair (.int .i64) (.pair (.int .i64) (.pair (.int .i64) (.pair (.int .i64) (.int .i64))))))) (.pair .bool (.pair (.sl 3 (.int .i64)) (.sl 3 (.int .i64)))))) (g_Vw_toFroTxS_0 a0)],[]) := by kernel_rfl
theorem sw_toFroTxS:Sound Tryz.prog 35 msw_toFroTxS Fw_toFroTxS := by
 refine fn_gen goodw_toFroTxS (by kernel_rfl) .std (fn := Tryz.f35) (c := (Tryz.f35.body.getD .skip)) (o := Ow_toFroTxS_1) (k := 1) (by kernel_rfl) (by kernel_rfl) (by kernel_rfl) (by kernel_rfl) (by decide) kw_toFroTxS_1 ?_
 intro ys r outs h
 unfold Fw_toFroTxS at h
 split at h
 ·exact (vw_toFroTxS _).trans h
 ·cases h
def Ew_toStoWrite:Env where
 tt := mkTI Tryz.prog
 fn := fun f => match f with
  | 136 => some (msw_toIntS,FSem.wk msw_toIntS Fw_toIntS)
  | _ => none
 bxf := fun _ => none
 mv := []
 keep := fun _ => []
 keepB := fun _ => []
 keepX := fun _ => []
 keepXB := fun _ => []
theorem goodFw_toStoWrite:∀ f ms F,Ew_toStoWrite.fn f = some (ms,F) → Sound Tryz.prog f ms F := fun f ms F h => by
 unfold Ew_toStoWrite at h
 dsimp only at h
 split at h
 ·exact gF sw_toIntS h
 ·cases h
theorem goodw_toStoWrite:Good Tryz.prog Ew_toStoWrite := ⟨rfl,goodFw_toStoWrite,fun f ms F h => by cases h⟩
def Ow_toStoWrite_0:Orc := fun _ _ => none
def msw_toStoWrite:List PM := [.rd]
def lsw_toStoWrite:List (Nat×Code) := loopsAll 0 (Tryz.f175.body.getD .skip)
theorem kw_toStoWrite_0:OrcOk Ew_toStoWrite Ow_toStoWrite_0 lsw_toStoWrite 0 := orcOk_none
def g_Aw_toStoWrite (a0:ByteArray) (a1:Bool) (a2:List Int):Bool := g_Aw_toIntS a2
def Fw_toStoWrite:FSem := fun ys => match ys with
 | [.val true [.str a0,.bool a1,.sl .any 3 (.int .i64) a2]] => some ((g_Aw_toStoWrite a0 a1 a2),.val true [.str a0,.bool a1,.own .any true 3 (.int .i64) (g_Vw_toIntS_0 a2)],[])
 | _ => none
theorem vw_toStoWrite (a0:ByteArray) (a1:Bool) (a2:List Int):collapseH .std Ew_toStoWrite Ow_toStoWrite_0 (execFn Ew_toStoWrite Tryz.f175 msw_toStoWrite [.val true [.str a0,.bool a1,.sl .any 3 (.int .i64) a2]]) = some ((g_Aw_toStoWrite a0 a1 a2),.val true [.str a0,.bool a1,.own .any true 3 (.int .i64) (g_Vw_toIntS_0 a2)],[]) := by kernel_rfl
theorem sw_toStoWrite:Sound Tryz.prog 175 msw_toStoWrite Fw_toStoWrite := by
 refine fn_gen goodw_toStoWrite (by kernel_rfl) .std (fn := Tryz.f175) (c := (Tryz.f175.body.getD .skip)) (o := Ow_toStoWrite_0) (k := 0) (by kernel_rfl) (by kernel_rfl) (by kernel_rfl) (by kernel_rfl) (by decide) kw_toStoWrite_0 ?_
 intro ys r outs h
 unfold Fw_toStoWrite at h
 split at h
 ·exact (vw_toStoWrite _ _ _).trans h
 ·cases h
def Ew_toStoWriteS:Env where
 tt := mkTI Tryz.prog
 fn := fun f => match f with
  | 175 => some (msw_toStoWrite,FSem.wk msw_toStoWrite Fw_toStoWrite)
  | _ => none
 bxf := fun _ => none
 mv := []
 keep := fun b => match b with
  | 0 => [(0,false),(3,false),(4,false)]
  | _ => []
 keepB := fun b => match b with
  | 0 => []
  | _ => []
 keepX := fun b => match b with
  | 0 => [(3,false)]
  | _ => []
 keepXB := fun b => match b with
  | 0 => []
  | _ => []
theorem goodFw_toStoWriteS:∀ f ms F,Ew_toStoWriteS.fn f = some (ms,F) → Sound Tryz.prog f ms F := fun f ms F h => by
 unfold Ew_toStoWriteS at h
 dsimp only at h
 split at h
 ·exact gF sw_toStoWrite h
 ·cases h
theorem goodw_toStoWriteS:Good Tryz.prog Ew_toStoWriteS := ⟨rfl,goodFw_toStoWriteS,fun f ms F h => by cases h⟩
def Ow_toStoWriteS_0:Orc := fun _ _ => none
def msw_toStoWriteS:List PM := [.rd]
def lsw_toStoWriteS:List (Nat×Code) := loopsAll 0 (Tryz.f159.body.getD .skip)
def cw_toStoWriteS_0:Code := (loopOf 0 (Tryz.f159.body.getD .skip)).getD .skip
theorem lseqw_toStoWriteS:lsw_toStoWriteS = [(0,cw_toStoWriteS_0)] := by kernel_rfl
theorem mw_toStoWriteS_0:∀ p,p ∈ lsw_toStoWriteS → p.1 = 0 → p.2 = cw_toStoWriteS_0 := by
 intro p hp
 rw [lseqw_toStoWriteS] at hp
 simp only [List.mem_cons,List.not_mem_nil,or_false] at hp
 subst hp; simp
theorem kw_toStoWriteS_0:OrcOk Ew_toStoWriteS Ow_toStoWriteS_0 lsw_toStoWriteS 0 := orcOk_none
def hw_toStoWriteS_0 (y0:tL2) (y1:tL2) (y2:Int):List (Pl×LV) := [(.T 0,.t (.val false [.sl .any 196 (.pair .str (.pair .bool (.sl 3 (.int .i64)))) y0])),(.T 3,.t (.val false [.row 3 0 0])),(.R 3 0,.r 0 (some ⟨false,.non,true,155,(.pair .str (.pair .bool (.sl 3 (.int .i64)))),y1⟩)),(.T 4,.t (.val false [.int .i64 y2]))]
def g_Sw_toStoWriteS_0 (y0:tL2):(tL2×Int) → RT (tL2×Int) ((tL2))
 | (y1,y2) => .br (true) (.br (decide (y2 < (y0.length:Int))) (.br (decide (0 ≤ y2 ∧ y2 < (y0.length:Int))) (.br (g_Aw_toStoWrite (at_ yT2 y0 (Int.toNat y2)).1 (at_ yT2 y0 (Int.toNat y2)).2.1 (at_ yT2 y0 (Int.toNat y2)).2.2) (.br (decide (0 ≤ y2 ∧ y2 < (y1.length:Int))) (.br (decide (Int.toNat y2 < List.length y1)) (.br (true) (.go ((List.set y1 (Int.toNat y2) ((at_ yT2 y0 (Int.toNat y2)).1,(at_ yT2 y0 (Int.toNat y2)).2.1,g_Vw_toIntS_0 (at_ yT2 y0 (Int.toNat y2)).2.2),IntKind.i64.wrap (y2 + 1)))) .bad) .bad) .bad) .bad) .bad) (.out (y1))) .bad
def g_Lw_toStoWriteS_0 (y0:tL2) (x:tL2×Int):Option ((tL2)) := loopO (g_Sw_toStoWriteS_0 y0) x
def xw_toStoWriteS_0 (y0:tL2):((tL2)) → Ex×List (Pl×LV) := fun r => (.exit 0,[(.T 3,.t (.val false [.row 3 0 0])),(.R 3 0,.r 0 (some ⟨false,.non,true,155,(.pair .str (.pair .bool (.sl 3 (.int .i64)))),r⟩))])
def Ow_toStoWriteS_1:Orc := fun b h => match b,h with
 | 0,[(.T 0,.t (.val false [.sl .any 196 (.pair .str (.pair .bool (.sl 3 (.int .i64)))) y0])),(.T 3,.t (.val false [.row 3 0 0])),(.R 3 0,.r 0 (some ⟨false,.non,true,155,(.pair .str (.pair .bool (.sl 3 (.int .i64)))),y1⟩)),(.T 4,.t (.val false [.int .i64 y2]))] => some (okO (g_Lw_toStoWriteS_0 y0 (y1,y2)),(.leaf (.exit 0) [(.T 3,.t (.val false [.row 3 0 0])),(.R 3 0,.r 0 (some ⟨false,.non,true,155,(.pair .str (.pair .bool (.sl 3 (.int .i64)))),(valO (g_Lw_toStoWriteS_0 y0 (y1,y2)))⟩))]))
 | b,h => Ow_toStoWriteS_0 b h
theorem bw_toStoWriteS_0 (y0:tL2) (y1:tL2) (y2:Int):Tr.bt Ew_toStoWriteS Ow_toStoWriteS_0 (exec Ew_toStoWriteS 0 cw_toStoWriteS_0 (St.of (hw_toStoWriteS_0 y0 y1 y2)) (leafRd Ew_toStoWriteS 0)) = (g_Sw_toStoWriteS_0 y0 (y1,y2)).bt (fun ((y1,y2):tL2×Int) => (hw_toStoWriteS_0 y0 y1 y2)) (xw_toStoWriteS_0 y0) := by kernel_rfl
theorem kw_toStoWriteS_1:OrcOk Ew_toStoWriteS Ow_toStoWriteS_1 lsw_toStoWriteS 1 := orc_add kw_toStoWriteS_0 (fun n p hp h ex h' ho => by
 obtain ⟨b,c⟩ := p
 obtain ⟨xt,h1,h2⟩ := ho
 have h1:Ow_toStoWriteS_1 b h = some (true,xt) := h1
 unfold Ow_toStoWriteS_1 at h1
 split at h1
 ·injection h1 with h1
  injection h1 with e1 e2
  subst e2
  have hc:c = cw_toStoWriteS_0 := mw_toStoWriteS_0 _ hp rfl
  subst hc
  right
  rename_i y0 y1 y2
  have key := LT_step kw_toStoWriteS_0 hp (fun q hq => loopsAll_in _ _ _ _ hp hq) (fun ((y1,y2):tL2×Int) => (hw_toStoWriteS_0 y0 y1 y2)) (xw_toStoWriteS_0 y0) (g_Sw_toStoWriteS_0 y0) (fun x => by first | exact bw_toStoWriteS_0 y0 x.1 x.2) n (x := (y1,y2)) (okO_some e1)
  have hx:∀ r,XT.sel (.leaf (.exit 0) [(.T 3,.t (.val false [.row 3 0 0])),(.R 3 0,.r 0 (some ⟨false,.non,true,155,(.pair .str (.pair .bool (.sl 3 (.int .i64)))),r⟩))]) = xw_toStoWriteS_0 y0 r := fun r => by first | rfl | rcases r with r | r <;> rfl | rcases r with r | r | r <;> rfl | rcases r with r | r | r | r <;> rfl
  have h3 := (hx (valO (g_Lw_toStoWriteS_0 y0 (y1,y2)))).symm.trans h2
  have e3 := congrArg Prod.fst h3
  have e4 := congrArg Prod.snd h3
  simp only at e3 e4
  rw [← e3,← e4]
  exact key
 ·exact .inl ⟨xt,h1,h2⟩)
def g_Aw_toStoWriteS (a0:tL2):Bool := decide ((a0.length:Int) = (a0.length:Int) ∧ 0 ≤ (a0.length:Int) ∧ (a0.length:Int) ≤ 9223372036854775807 ∧ 48 * (a0.length:Int) ≤ 281474976710656)&&okO (g_Lw_toStoWriteS_0 a0 (List.replicate (Int.toNat (a0.length:Int)) (lit [],false,[]),(0:Int)))
def g_Vw_toStoWriteS_0 (a0:tL2):tL2 := valO (g_Lw_toStoWriteS_0 a0 (List.replicate (Int.toNat (a0.length:Int)) (lit [],false,[]),(0:Int)))
def Fw_toStoWriteS:FSem := fun ys => match ys with
 | [.val false [.sl .any 196 (.pair .str (.pair .bool (.sl 3 (.int .i64)))) a0]] => some ((g_Aw_toStoWriteS a0),.val false [.own .any true 155 (.pair .str (.pair .bool (.sl 3 (.int .i64)))) (g_Vw_toStoWriteS_0 a0)],[])
 | _ => none
theorem vw_toStoWriteS (a0:tL2):collapseH .std Ew_toStoWriteS Ow_toStoWriteS_1 (execFn Ew_toStoWriteS Tryz.f159 msw_toStoWriteS [.val false [.sl .any 196 (.pair .str (.pair .bool (.sl 3 (.int .i64)))) a0]]) = some ((g_Aw_toStoWriteS a0),.val false [.own .any true 155 (.pair .str (.pair .bool (.sl 3 (.int .i64)))) (g_Vw_toStoWriteS_0 a0)],[]) := by kernel_rfl
theorem sw_toStoWriteS:Sound Tryz.prog 159 msw_toStoWriteS Fw_toStoWriteS := by
 refine fn_gen goodw_toStoWriteS (by kernel_rfl) .std (fn := Tryz.f159) (c := (Tryz.f159.body.getD .skip)) (o := Ow_toStoWriteS_1) (k := 1) (by kernel_rfl) (by kernel_rfl) (by kernel_rfl) (by kernel_rfl) (by decide) kw_toStoWriteS_1 ?_
 intro ys r outs h
 unfold Fw_toStoWriteS at h
 split at h
 ·exact (vw_toStoWriteS _).trans h
 ·cases h
def Ew_toStringS:Env where
 tt := mkTI Tryz.prog
 fn := fun _ => none
 bxf := fun _ => none
 mv := []
 keep := fun b => match b with
  | 0 => [(0,false),(3,false),(4,false)]
  | _ => []
 keepB := fun b => match b with
  | 0 => []
  | _ => []
 keepX := fun b => match b with
  | 0 => [(3,false)]
  | _ => []
 keepXB := fun b => match b with
  | 0 => []
  | _ => []
theorem goodFw_toStringS:∀ f ms F,Ew_toStringS.fn f = some (ms,F) → Sound Tryz.prog f ms F := fun f ms F h => by cases h
theorem goodw_toStringS:Good Tryz.prog Ew_toStringS := ⟨rfl,goodFw_toStringS,fun f ms F h => by cases h⟩
def Ow_toStringS_0:Orc := fun _ _ => none
def msw_toStringS:List PM := [.rd]
def lsw_toStringS:List (Nat×Code) := loopsAll 0 (Tryz.f158.body.getD .skip)
def cw_toStringS_0:Code := (loopOf 0 (Tryz.f158.body.getD .skip)).getD .skip
theorem lseqw_toStringS:lsw_toStringS = [(0,cw_toStringS_0)] := by kernel_rfl
theorem mw_toStringS_0:∀ p,p ∈ lsw_toStringS → p.1 = 0 → p.2 = cw_toStringS_0 := by
 intro p hp
 rw [lseqw_toStringS] at hp
 simp only [List.mem_cons,List.not_mem_nil,or_false] at hp
 subst hp; simp
theorem kw_toStringS_0:OrcOk Ew_toStringS Ow_toStringS_0 lsw_toStringS 0 := orcOk_none
def hw_toStringS_0 (y0:List ByteArray) (y1:List ByteArray) (y2:Int):List (Pl×LV) := [(.T 0,.t (.val false [.sl .any 9 .str y0])),(.T 3,.t (.val false [.row 3 0 0])),(.R 3 0,.r 0 (some ⟨false,.non,true,9,.str,y1⟩)),(.T 4,.t (.val false [.int .i64 y2]))]
def g_Sw_toStringS_0 (y0:List ByteArray):((List ByteArray)×Int) → RT ((List ByteArray)×Int) (((List ByteArray)))
 | (y1,y2) => .br (true) (.br (decide (y2 < (y0.length:Int))) (.br (decide (0 ≤ y2 ∧ y2 < (y0.length:Int))) (.br (decide (0 ≤ y2 ∧ y2 < (y1.length:Int))) (.br (decide (Int.toNat y2 < List.length y1)) (.br (true) (.go ((List.set y1 (Int.toNat y2) (at_ Ty.str y0 (Int.toNat y2)),IntKind.i64.wrap (y2 + 1)))) .bad) .bad) .bad) .bad) (.out (y1))) .bad
def g_Lw_toStringS_0 (y0:List ByteArray) (x:(List ByteArray)×Int):Option (((List ByteArray))) := loopO (g_Sw_toStringS_0 y0) x
def xw_toStringS_0 (y0:List ByteArray):(((List ByteArray))) → Ex×List (Pl×LV) := fun r => (.exit 0,[(.T 3,.t (.val false [.row 3 0 0])),(.R 3 0,.r 0 (some ⟨false,.non,true,9,.str,r⟩))])
def Ow_toStringS_1:Orc := fun b h => match b,h with
 | 0,[(.T 0,.t (.val false [.sl .any 9 .str y0])),(.T 3,.t (.val false [.row 3 0 0])),(.R 3 0,.r 0 (some ⟨false,.non,true,9,.str,y1⟩)),(.T 4,.t (.val false [.int .i64 y2]))] => some (okO (g_Lw_toStringS_0 y0 (y1,y2)),(.leaf (.exit 0) [(.T 3,.t (.val false [.row 3 0 0])),(.R 3 0,.r 0 (some ⟨false,.non,true,9,.str,(valO (g_Lw_toStringS_0 y0 (y1,y2)))⟩))]))
 | b,h => Ow_toStringS_0 b h
theorem bw_toStringS_0 (y0:List ByteArray) (y1:List ByteArray) (y2:Int):Tr.bt Ew_toStringS Ow_toStringS_0 (exec Ew_toStringS 0 cw_toStringS_0 (St.of (hw_toStringS_0 y0 y1 y2)) (leafRd Ew_toStringS 0)) = (g_Sw_toStringS_0 y0 (y1,y2)).bt (fun ((y1,y2):(List ByteArray)×Int) => (hw_toStringS_0 y0 y1 y2)) (xw_toStringS_0 y0) := by kernel_rfl
theorem kw_toStringS_1:OrcOk Ew_toStringS Ow_toStringS_1 lsw_toStringS 1 := orc_add kw_toStringS_0 (fun n p hp h ex h' ho => by
 obtain ⟨b,c⟩ := p
 obtain ⟨xt,h1,h2⟩ := ho
 have h1:Ow_toStringS_1 b h = some (true,xt) := h1
 unfold Ow_toStringS_1 at h1
 split at h1
 ·injection h1 with h1
  injection h1 with e1 e2
  subst e2
  have hc:c = cw_toStringS_0 := mw_toStringS_0 _ hp rfl
  subst hc
  right
  rename_i y0 y1 y2
  have key := LT_step kw_toStringS_0 hp (fun q hq => loopsAll_in _ _ _ _ hp hq) (fun ((y1,y2):(List ByteArray)×Int) => (hw_toStringS_0 y0 y1 y2)) (xw_toStringS_0 y0) (g_Sw_toStringS_0 y0) (fun x => by first | exact bw_toStringS_0 y0 x.1 x.2) n (x := (y1,y2)) (okO_some e1)
  have hx:∀ r,XT.sel (.leaf (.exit 0) [(.T 3,.t (.val false [.row 3 0 0])),(.R 3 0,.r 0 (some ⟨false,.non,true,9,.str,r⟩))]) = xw_toStringS_0 y0 r := fun r => by first | rfl | rcases r with r | r <;> rfl | rcases r with r | r | r <;> rfl | rcases r with r | r | r | r <;> rfl
  have h3 := (hx (valO (g_Lw_toStringS_0 y0 (y1,y2)))).symm.trans h2
  have e3 := congrArg Prod.fst h3
  have e4 := congrArg Prod.snd h3
  simp only at e3 e4
  rw [← e3,← e4]
  exact key
 ·exact .inl ⟨xt,h1,h2⟩)
def g_Aw_toStringS (a0:List ByteArray):Bool := decide ((a0.length:Int) = (a0.length:Int) ∧ 0 ≤ (a0.length:Int) ∧ (a0.length:Int) ≤ 9223372036854775807 ∧ 16 * (a0.length:Int) ≤ 281474976710656)&&okO (g_Lw_toStringS_0 a0 (List.replicate (Int.toNat (a0.length:Int)) (lit []),(0:Int)))
def g_Vw_toStringS_0 (a0:List ByteArray):List ByteArray := valO (g_Lw_toStringS_0 a0 (List.replicate (Int.toNat (a0.length:Int)) (lit []),(0:Int)))
def Fw_toStringS:FSem := fun ys => match ys with
 | [.val false [.sl .any 9 .str a0]] => some ((g_Aw_toStringS a0),.val false [.own .any true 9 .str (g_Vw_toStringS_0 a0)],[])
 | _ => none
theorem vw_toStringS (a0:List ByteArray):collapseH .std Ew_toStringS Ow_toStringS_1 (execFn Ew_toStringS Tryz.f158 msw_toStringS [.val false [.sl .any 9 .str a0]]) = some ((g_Aw_toStringS a0),.val false [.own .any true 9 .str (g_Vw_toStringS_0 a0)],[]) := by kernel_rfl
theorem sw_toStringS:Sound Tryz.prog 158 msw_toStringS Fw_toStringS := by
 refine fn_gen goodw_toStringS (by kernel_rfl) .std (fn := Tryz.f158) (c := (Tryz.f158.body.getD .skip)) (o := Ow_toStringS_1) (k := 1) (by kernel_rfl) (by kernel_rfl) (by kernel_rfl) (by kernel_rfl) (by decide) kw_toStringS_1 ?_
 intro ys r outs h
 unfold Fw_toStringS at h
 split at h
 ·exact (vw_toStringS _).trans h
 ·cases h
def Ew_toLogNote:Env where
 tt := mkTI Tryz.prog
 fn := fun f => match f with
  | 158 => some (msw_toStringS,FSem.wk msw_toStringS Fw_toStringS)
  | 159 => some (msw_toStoWriteS,FSem.wk msw_toStoWriteS Fw_toStoWriteS)
  | _ => none
 bxf := fun _ => none
 mv := []
 keep := fun _ => []
 keepB := fun _ => []
 keepX := fun _ => []
 keepXB := fun _ => []
theorem goodFw_toLogNote:∀ f ms F,Ew_toLogNote.fn f = some (ms,F) → Sound Tryz.prog f ms F := fun f ms F h => by
 unfold Ew_toLogNote at h
 dsimp only at h
 split at h
 ·exact gF sw_toStringS h
 ·exact gF sw_toStoWriteS h
 ·cases h
theorem goodw_toLogNote:Good Tryz.prog Ew_toLogNote := ⟨rfl,goodFw_toLogNote,fun f ms F h => by cases h⟩
def Ow_toLogNote_0:Orc := fun _ _ => none
def msw_toLogNote:List PM := [.rd]
def lsw_toLogNote:List (Nat×Code) := loopsAll 0 (Tryz.f135.body.getD .skip)
theorem kw_toLogNote_0:OrcOk Ew_toLogNote Ow_toLogNote_0 lsw_toLogNote 0 := orcOk_none
def g_Aw_toLogNote (a0:Int) (a1:Int) (a2:List ByteArray) (a3:tL2):Bool := g_Aw_toStringS a2&&g_Aw_toStoWriteS a3
def Fw_toLogNote:FSem := fun ys => match ys with
 | [.val true [.int .i64 a0,.int .i64 a1,.sl .any 9 .str a2,.sl .any 196 (.pair .str (.pair .bool (.sl 3 (.int .i64)))) a3]] => some ((g_Aw_toLogNote a0 a1 a2 a3),.val true [.int .i64 a0,.int .i64 a1,.own .any true 9 .str (g_Vw_toStringS_0 a2),.own .any true 155 (.pair .str (.pair .bool (.sl 3 (.int .i64)))) (g_Vw_toStoWriteS_0 a3)],[])
 | _ => none
theorem vw_toLogNote (a0:Int) (a1:Int) (a2:List ByteArray) (a3:tL2):collapseH .std Ew_toLogNote Ow_toLogNote_0 (execFn Ew_toLogNote Tryz.f135 msw_toLogNote [.val true [.int .i64 a0,.int .i64 a1,.sl .any 9 .str a2,.sl .any 196 (.pair .str (.pair .bool (.sl 3 (.int .i64)))) a3]]) = some ((g_Aw_toLogNote a0 a1 a2 a3),.val true [.int .i64 a0,.int .i64 a1,.own .any true 9 .str (g_Vw_toStringS_0 a2),.own .any true 155 (.pair .str (.pair .bool (.sl 3 (.int .i64)))) (g_Vw_toStoWriteS_0 a3)],[]) := by kernel_rfl
theorem sw_toLogNote:Sound Tryz.prog 135 msw_toLogNote Fw_toLogNote := by
 refine fn_gen goodw_toLogNote (by kernel_rfl) .std (fn := Tryz.f135) (c := (Tryz.f135.body.getD .skip)) (o := Ow_toLogNote_0) (k := 0) (by kernel_rfl) (by kernel_rfl) (by kernel_rfl) (by kernel_rfl) (by decide) kw_toLogNote_0 ?_
 intro ys r outs h
 unfold Fw_toLogNote at h
 split at h
 ·exact (vw_toLogNote _ _ _ _).trans h
 ·cases h
def Ew_toLogNoteS:Env where
 tt := mkTI Tryz.prog
 fn := fun f => match f with
  | 135 => some (msw_toLogNote,FSem.wk msw_toLogNote Fw_toLogNote)
  | _ => none
 bxf := fun _ => none
 mv := []
 keep := fun b => match b with
  | 0 => [(0,false),(3,false),(4,false)]
  | _ => []
 keepB := fun b => match b with
  | 0 => []
  | _ => []
 keepX := fun b => match b with
  | 0 => [(3,false)]
  | _ => []
 keepXB := fun b => match b with
  | 0 => []
  | _ => []
theorem goodFw_toLogNoteS:∀ f ms F,Ew_toLogNoteS.fn f = some (ms,F) → Sound Tryz.prog f ms F := fun f ms F h => by
 unfold Ew_toLogNoteS at h
 dsimp only at h
 split at h
 ·exact gF sw_toLogNote h
 ·cases h
theorem goodw_toLogNoteS:Good Tryz.prog Ew_toLogNoteS := ⟨rfl,goodFw_toLogNoteS,fun f ms F h => by cases h⟩
def Ow_toLogNoteS_0:Orc := fun _ _ => none
def msw_toLogNoteS:List PM := [.rd]
def lsw_toLogNoteS:List (Nat×Code) := loopsAll 0 (Tryz.f93.body.getD .skip)
def cw_toLogNoteS_0:Code := (loopOf 0 (Tryz.f93.body.getD .skip)).getD .skip
theorem lseqw_toLogNoteS:lsw_toLogNoteS = [(0,cw_toLogNoteS_0)] := by kernel_rfl
theorem mw_toLogNoteS_0:∀ p,p ∈ lsw_toLogNoteS → p.1 = 0 → p.2 = cw_toLogNoteS_0 := by
 intro p hp
 rw [lseqw_toLogNoteS] at hp
 simp only [List.mem_cons,List.not_mem_nil,or_false] at hp
 subst hp; simp
theorem kw_toLogNoteS_0:OrcOk Ew_toLogNoteS Ow_toLogNoteS_0 lsw_toLogNoteS 0 := orcOk_none
def hw_toLogNoteS_0 (y0:tL0) (y1:tL0) (y2:Int):List (Pl×LV) := [(.T 0,.t (.val false [.sl .any 169 (.pair (.int .i64) (.pair (.int .i64) (.pair (.sl 9 .str) (.sl 196 (.pair .str (.pair .bool (.sl 3 (.int .i64)))))))) y0])),(.T 3,.t (.val false [.row 3 0 0])),(.R 3 0,.r 0 (some ⟨false,.non,true,92,(.pair (.int .i64) (.pair (.int .i64) (.pair (.sl 9 .str) (.sl 155 (.pair .str (.pair .bool (.sl 3 (.int .i64)))))))),y1⟩)),(.T 4,.t (.val false [.int .i64 y2]))]
def g_Sw_toLogNoteS_0 (y0:tL0):(tL0×Int) → RT (tL0×Int) ((tL0))
 | (y1,y2) => .br (true) (.br (decide (y2 < (y0.length:Int))) (.br (decide (0 ≤ y2 ∧ y2 < (y0.length:Int))) (.br (g_Aw_toLogNote (at_ yT3 y0 (Int.toNat y2)).1 (at_ yT3 y0 (Int.toNat y2)).2.1 (at_ yT3 y0 (Int.toNat y2)).2.2.1 (at_ yT3 y0 (Int.toNat y2)).2.2.2) (.br (decide (0 ≤ y2 ∧ y2 < (y1.length:Int))) (.br (decide (Int.toNat y2 < List.length y1)) (.br (true) (.go ((List.set y1 (Int.toNat y2) ((at_ yT3 y0 (Int.toNat y2)).1,(at_ yT3 y0 (Int.toNat y2)).2.1,g_Vw_toStringS_0 (at_ yT3 y0 (Int.toNat y2)).2.2.1,g_Vw_toStoWriteS_0 (at_ yT3 y0 (Int.toNat y2)).2.2.2),IntKind.i64.wrap (y2 + 1)))) .bad) .bad) .bad) .bad) .bad) (.out (y1))) .bad
def g_Lw_toLogNoteS_0 (y0:tL0) (x:tL0×Int):Option ((tL0)) := loopO (g_Sw_toLogNoteS_0 y0) x
def xw_toLogNoteS_0 (y0:tL0):((tL0)) → Ex×List (Pl×LV) := fun r => (.exit 0,[(.T 3,.t (.val false [.row 3 0 0])),(.R 3 0,.r 0 (some ⟨false,.non,true,92,(.pair (.int .i64) (.pair (.int .i64) (.pair (.sl 9 .str) (.sl 155 (.pair .str (.pair .bool (.sl 3 (.int .i64)))))))),r⟩))])
def Ow_toLogNoteS_1:Orc := fun b h => match b,h with
 | 0,[(.T 0,.t (.val false [.sl .any 169 (.pair (.int .i64) (.pair (.int .i64) (.pair (.sl 9 .str) (.sl 196 (.pair .str (.pair .bool (.sl 3 (.int .i64)))))))) y0])),(.T 3,.t (.val false [.row 3 0 0])),(.R 3 0,.r 0 (some ⟨false,.non,true,92,(.pair (.int .i64) (.pair (.int .i64) (.pair (.sl 9 .str) (.sl 155 (.pair .str (.pair .bool (.sl 3 (.int .i64)))))))),y1⟩)),(.T 4,.t (.val false [.int .i64 y2]))] => some (okO (g_Lw_toLogNoteS_0 y0 (y1,y2)),(.leaf (.exit 0) [(.T 3,.t (.val false [.row 3 0 0])),(.R 3 0,.r 0 (some ⟨false,.non,true,92,(.pair (.int .i64) (.pair (.int .i64) (.pair (.sl 9 .str) (.sl 155 (.pair .str (.pair .bool (.sl 3 (.int .i64)))))))),(valO (g_Lw_toLogNoteS_0 y0 (y1,y2)))⟩))]))
 | b,h => Ow_toLogNoteS_0 b h
theorem bw_toLogNoteS_0 (y0:tL0) (y1:tL0) (y2:Int):Tr.bt Ew_toLogNoteS Ow_toLogNoteS_0 (exec Ew_toLogNoteS 0 cw_toLogNoteS_0 (St.of (hw_toLogNoteS_0 y0 y1 y2)) (leafRd Ew_toLogNoteS 0)) = (g_Sw_toLogNoteS_0 y0 (y1,y2)).bt (fun ((y1,y2):tL0×Int) => (hw_toLogNoteS_0 y0 y1 y2)) (xw_toLogNoteS_0 y0) := by kernel_rfl
theorem kw_toLogNoteS_1:OrcOk Ew_toLogNoteS Ow_toLogNoteS_1 lsw_toLogNoteS 1 := orc_add kw_toLogNoteS_0 (fun n p hp h ex h' ho => by
 obtain ⟨b,c⟩ := p
 obtain ⟨xt,h1,h2⟩ := ho
 have h1:Ow_toLogNoteS_1 b h = some (true,xt) := h1
 unfold Ow_toLogNoteS_1 at h1
 split at h1
 ·injection h1 with h1
  injection h1 with e1 e2
  subst e2
  have hc:c = cw_toLogNoteS_0 := mw_toLogNoteS_0 _ hp rfl
  subst hc
  right
  rename_i y0 y1 y2
  have key := LT_step kw_toLogNoteS_0 hp (fun q hq => loopsAll_in _ _ _ _ hp hq) (fun ((y1,y2):tL0×Int) => (hw_toLogNoteS_0 y0 y1 y2)) (xw_toLogNoteS_0 y0) (g_Sw_toLogNoteS_0 y0) (fun x => by first | exact bw_toLogNoteS_0 y0 x.1 x.2) n (x := (y1,y2)) (okO_some e1)
  have hx:∀ r,XT.sel (.leaf (.exit 0) [(.T 3,.t (.val false [.row 3 0 0])),(.R 3 0,.r 0 (some ⟨false,.non,true,92,(.pair (.int .i64) (.pair (.int .i64) (.pair (.sl 9 .str) (.sl 155 (.pair .str (.pair .bool (.sl 3 (.int .i64)))))))),r⟩))]) = xw_toLogNoteS_0 y0 r := fun r => by first | rfl | rcases r with r | r <;> rfl | rcases r with r | r | r <;> rfl | rcases r with r | r | r | r <;> rfl
  have h3 := (hx (valO (g_Lw_toLogNoteS_0 y0 (y1,y2)))).symm.trans h2
  have e3 := congrArg Prod.fst h3
  have e4 := congrArg Prod.snd h3
  simp only at e3 e4
  rw [← e3,← e4]
  exact key
 ·exact .inl ⟨xt,h1,h2⟩)
def g_Aw_toLogNoteS (a0:tL0):Bool := decide ((a0.length:Int) = (a0.length:Int) ∧ 0 ≤ (a0.length:Int) ∧ (a0.length:Int) ≤ 9223372036854775807 ∧ 64 * (a0.length:Int) ≤ 281474976710656)&&okO (g_Lw_toLogNoteS_0 a0 (List.replicate (Int.toNat (a0.length:Int)) ((0:Int),(0:Int),[],[]),(0:Int)))
def g_Vw_toLogNoteS_0 (a0:tL0):tL0 := valO (g_Lw_toLogNoteS_0 a0 (List.replicate (Int.toNat (a0.length:Int)) ((0:Int),(0:Int),[],[]),(0:Int)))
def Fw_toLogNoteS:FSem := fun ys => match ys with
 | [.val false [.sl .any 169 (.pair (.int .i64) (.pair (.int .i64) (.pair (.sl 9 .str) (.sl 196 (.pair .str (.pair .bool (.sl 3 (.int .i64)))))))) a0]] => some ((g_Aw_toLogNoteS a0),.val false [.own .any true 92 (.pair (.int .i64) (.pair (.int .i64) (.pair (.sl 9 .str) (.sl 155 (.pair .str (.pair .bool (.sl 3 (.int .i64)))))))) (g_Vw_toLogNoteS_0 a0)],[])
 | _ => none
theorem vw_toLogNoteS (a0:tL0):collapseH .std Ew_toLogNoteS Ow_toLogNoteS_1 (execFn Ew_toLogNoteS Tryz.f93 msw_toLogNoteS [.val false [.sl .any 169 (.pair (.int .i64) (.pair (.int .i64) (.pair (.sl 9 .str) (.sl 196 (.pair .str (.pair .bool (.sl 3 (.int .i64)))))))) a0]]) = some ((g_Aw_toLogNoteS a0),.val false [.own .any true 92 (.pair (.int .i64) (.pair (.int .i64) (.pair (.sl 9 .str) (.sl 155 (.pair .str (.pair .bool (.sl 3 (.int .i64)))))))) (g_Vw_toLogNoteS_0 a0)],[]) := by kernel_rfl
theorem sw_toLogNoteS:Sound Tryz.prog 93 msw_toLogNoteS Fw_toLogNoteS := by
 refine fn_gen goodw_toLogNoteS (by kernel_rfl) .std (fn := Tryz.f93) (c := (Tryz.f93.body.getD .skip)) (o := Ow_toLogNoteS_1) (k := 1) (by kernel_rfl) (by kernel_rfl) (by kernel_rfl) (by kernel_rfl) (by decide) kw_toLogNoteS_1 ?_
 intro ys r outs h
 unfold Fw_toLogNoteS at h
 split at h
 ·exact (vw_toLogNoteS _).trans h
 ·cases h
def Ew_toLogDisk:Env where
 tt := mkTI Tryz.prog
 fn := fun f => match f with
  | 93 => some (msw_toLogNoteS,FSem.wk msw_toLogNoteS Fw_toLogNoteS)
  | _ => none
 bxf := fun _ => none
 mv := []
 keep := fun _ => []
 keepB := fun _ => []
 keepX := fun _ => []
 keepXB := fun _ => []
theorem goodFw_toLogDisk:∀ f ms F,Ew_toLogDisk.fn f = some (ms,F) → Sound Tryz.prog f ms F := fun f ms F h => by
 unfold Ew_toLogDisk at h
 dsimp only at h
 split at h
 ·exact gF sw_toLogNoteS h
 ·cases h
theorem goodw_toLogDisk:Good Tryz.prog Ew_toLogDisk := ⟨rfl,goodFw_toLogDisk,fun f ms F h => by cases h⟩
def Ow_toLogDisk_0:Orc := fun _ _ => none
def msw_toLogDisk:List PM := [.rd]
def lsw_toLogDisk:List (Nat×Code) := loopsAll 0 (Tryz.f34.body.getD .skip)
theorem kw_toLogDisk_0:OrcOk Ew_toLogDisk Ow_toLogDisk_0 lsw_toLogDisk 0 := orcOk_none
def g_Aw_toLogDisk (a0:tL0) (a1:Int):Bool := g_Aw_toLogNoteS a0
def Fw_toLogDisk:FSem := fun ys => match ys with
 | [.val true [.sl .any 169 (.pair (.int .i64) (.pair (.int .i64) (.pair (.sl 9 .str) (.sl 196 (.pair .str (.pair .bool (.sl 3 (.int .i64)))))))) a0,.int .i64 a1]] => some ((g_Aw_toLogDisk a0 a1),.val true [.own .any true 92 (.pair (.int .i64) (.pair (.int .i64) (.pair (.sl 9 .str) (.sl 155 (.pair .str (.pair .bool (.sl 3 (.int .i64)))))))) (g_Vw_toLogNoteS_0 a0),.int .i64 a1],[])
 | _ => none
theorem vw_toLogDisk (a0:tL0) (a1:Int):collapseH .std Ew_toLogDisk Ow_toLogDisk_0 (execFn Ew_toLogDisk Tryz.f34 msw_toLogDisk [.val true [.sl .any 169 (.pair (.int .i64) (.pair (.int .i64) (.pair (.sl 9 .str) (.sl 196 (.pair .str (.pair .bool (.sl 3 (.int .i64)))))))) a0,.int .i64 a1]]) = some ((g_Aw_toLogDisk a0 a1),.val true [.own .any true 92 (.pair (.int .i64) (.pair (.int .i64) (.pair (.sl 9 .str) (.sl 155 (.pair .str (.pair .bool (.sl 3 (.int .i64)))))))) (g_Vw_toLogNoteS_0 a0),.int .i64 a1],[]) := by kernel_rfl
theorem sw_toLogDisk:Sound Tryz.prog 34 msw_toLogDisk Fw_toLogDisk := by
 refine fn_gen goodw_toLogDisk (by kernel_rfl) .std (fn := Tryz.f34) (c := (Tryz.f34.body.getD .skip)) (o := Ow_toLogDisk_0) (k := 0) (by kernel_rfl) (by kernel_rfl) (by kernel_rfl) (by kernel_rfl) (by decide) kw_toLogDisk_0 ?_
 intro ys r outs h
 unfold Fw_toLogDisk at h
 split at h
 ·exact (vw_toLogDisk _ _).trans h
 ·cases h
def Ew_toFroState:Env where
 tt := mkTI Tryz.prog
 fn := fun f => match f with
  | 34 => some (msw_toLogDisk,FSem.wk msw_toLogDisk Fw_toLogDisk)
  | 35 => some (msw_toFroTxS,FSem.wk msw_toFroTxS Fw_toFroTxS)
  | _ => none
 bxf := fun _ => none
 mv := []
 keep := fun _ => []
 keepB := fun _ => []
 keepX := fun _ => []
 keepXB := fun _ => []
theorem goodFw_toFroState:∀ f ms F,Ew_toFroState.fn f = some (ms,F) → Sound Tryz.prog f ms F := fun f ms F h => by
 unfold Ew_toFroState at h
 dsimp only at h
 split at h
 ·exact gF sw_toLogDisk h
 ·exact gF sw_toFroTxS h
 ·cases h
theorem goodw_toFroState:Good Tryz.prog Ew_toFroState := ⟨rfl,goodFw_toFroState,fun f ms F h => by cases h⟩
def Ow_toFroState_0:Orc := fun _ _ => none
def msw_toFroState:List PM := [.rd]
def lsw_toFroState:List (Nat×Code) := loopsAll 0 (Tryz.f9.body.getD .skip)
theorem kw_toFroState_0:OrcOk Ew_toFroState Ow_toFroState_0 lsw_toFroState 0 := orcOk_none
def g_Aw_toFroState (a0:tL0) (a1:Int) (a2:tL1):Bool := g_Aw_toLogDisk a0 a1&&g_Aw_toFroTxS a2
def Fw_toFroState:FSem := fun ys => match ys with
 | [.val true [.sl .any 169 (.pair (.int .i64) (.pair (.int .i64) (.pair (.sl 9 .str) (.sl 196 (.pair .str (.pair .bool (.sl 3 (.int .i64)))))))) a0,.int .i64 a1,.sl .any 129 (.pair (.int .i64) (.pair (.pair (.int .i64) (.pair (.int .i64) (.pair (.int .i64) (.pair (.int .i64) (.pair (.int .i64) (.pair (.int .i64) (.int .i64))))))) (.pair .bool (.pair (.sl 3 (.int .i64)) (.sl 3 (.int .i64)))))) a2]] => some ((g_Aw_toFroState a0 a1 a2),.val true [.own .any true 92 (.pair (.int .i64) (.pair (.int .i64) (.pair (.sl 9 .str) (.sl 155 (.pair .str (.pair .bool (.sl 3 (.int .i64)))))))) (g_Vw_toLogNoteS_0 a0),.int .i64 a1,.own .any true 73 (.pair (.int .i64) (.pair (.pair (.int .i64) (.pair (.int .i64) (.pair (.int .i64) (.pair (.int .i64) (.pair (.int .i64) (.pair (.int .i64) (.int .i64))))))) (.pair .bool (.pair (.sl 3 (.int .i64)) (.sl 3 (.int .i64)))))) (g_Vw_toFroTxS_0 a2)],[])
 | _ => none
theorem vw_toFroState (a0:tL0) (a1:Int) (a2:tL1):collapseH .std Ew_toFroState Ow_toFroState_0 (execFn Ew_toFroState Tryz.f9 msw_toFroState [.val true [.sl .any 169 (.pair (.int .i64) (.pair (.int .i64) (.pair (.sl 9 .str) (.sl 196 (.pair .str (.pair .bool (.sl 3 (.int .i64)))))))) a0,.int .i64 a1,.sl .any 129 (.pair (.int .i64) (.pair (.pair (.int .i64) (.pair (.int .i64) (.pair (.int .i64) (.pair (.int .i64) (.pair (.int .i64) (.pair (.int .i64) (.int .i64))))))) (.pair .bool (.pair (.sl 3 (.int .i64)) (.sl 3 (.int .i64)))))) a2]]) = some ((g_Aw_toFroState a0 a1 a2),.val true [.own .any true 92 (.pair (.int .i64) (.pair (.int .i64) (.pair (.sl 9 .str) (.sl 155 (.pair .str (.pair .bool (.sl 3 (.int .i64)))))))) (g_Vw_toLogNoteS_0 a0),.int .i64 a1,.own .any true 73 (.pair (.int .i64) (.pair (.pair (.int .i64) (.pair (.int .i64) (.pair (.int .i64) (.pair (.int .i64) (.pair (.int .i64) (.pair (.int .i64) (.int .i64))))))) (.pair .bool (.pair (.sl 3 (.int .i64)) (.sl 3 (.int .i64)))))) (g_Vw_toFroTxS_0 a2)],[]) := by kernel_rfl
theorem sw_toFroState:Sound Tryz.prog 9 msw_toFroState Fw_toFroState := by
 refine fn_gen goodw_toFroState (by kernel_rfl) .std (fn := Tryz.f9) (c := (Tryz.f9.body.getD .skip)) (o := Ow_toFroState_0) (k := 0) (by kernel_rfl) (by kernel_rfl) (by kernel_rfl) (by kernel_rfl) (by decide) kw_toFroState_0 ?_
 intro ys r outs h
 unfold Fw_toFroState at h
 split at h
 ·exact (vw_toFroState _ _ _).trans h
 ·cases h
def Ew_FnExactFroFall:Env where
 tt := mkTI Tryz.prog
 fn := fun f => match f with
  | 7 => some (msw_szFroState,FSem.wk msw_szFroState Fw_szFroState)
  | 9 => some (msw_toFroState,FSem.wk msw_toFroState Fw_toFroState)
  | 12 => some (msw_eqFroState,FSem.wk msw_eqFroState Fw_eqFroState)
  | 13 => some (msw_markFroState,FSem.wk msw_markFroState Fw_markFroState)
  | 16 => some (mss_FroFall,FSem.wk mss_FroFall Fs_FroFall)
  | 17 => some (msi_FroFall,FSem.wk msi_FroFall Fi_FroFall)
  | 18 => some (msw_heldFroState,FSem.wk msw_heldFroState Fw_heldFroState)
  | _ => none
 bxf := fun _ => none
 mv := []
 keep := fun _ => []
 keepB := fun _ => []
 keepX := fun _ => []
 keepXB := fun _ => []
theorem goodFw_FnExactFroFall:∀ f ms F,Ew_FnExactFroFall.fn f = some (ms,F) → Sound Tryz.prog f ms F := fun f ms F h => by
 unfold Ew_FnExactFroFall at h
 dsimp only at h
 split at h
 ·exact gF sw_szFroState h
 ·exact gF sw_toFroState h
 ·exact gF sw_eqFroState h
 ·exact gF sw_markFroState h
 ·exact gF ss_FroFall h
 ·exact gF si_FroFall h
 ·exact gF sw_heldFroState h
 ·cases h
theorem goodw_FnExactFroFall:Good Tryz.prog Ew_FnExactFroFall := ⟨rfl,goodFw_FnExactFroFall,fun f ms F h => by cases h⟩
def Ow_FnExactFroFall_0:Orc := fun _ _ => none
def msw_FnExactFroFall:List PM := [.rd,.own]
def lsw_FnExactFroFall:List (Nat×Code) := loopsAll 0 (Tryz.f4.body.getD .skip)
theorem kw_FnExactFroFall_0:OrcOk Ew_FnExactFroFall Ow_FnExactFroFall_0 lsw_FnExactFroFall 0 := orcOk_none
def g_Aw_FnExactFroFall (a0:tL0) (a1:Int) (a2:tL1) (a3:Int):Bool := g_Aw_szFroState a0 a1 a2 (1048576:Int)&&(decide (g_Vw_szFroState_0 a0 a1 a2 (1048576:Int) < (0:Int)) || g_Aw_toFroState a0 a1 a2&&(g_As_FroFall (g_Vw_toLogNoteS_0 a0) a1 (g_Vw_toFroTxS_0 a2) a3&&(g_Aw_toFroState a0 a1 a2&&(g_Ai_FroFall (g_Vw_toLogNoteS_0 a0) a1 (g_Vw_toFroTxS_0 a2) a3&&(g_Aw_eqFroState (g_Vi_FroFall_0 (g_Vw_toLogNoteS_0 a0) a1 (g_Vw_toFroTxS_0 a2) a3) (g_Vi_FroFall_1 (g_Vw_toLogNoteS_0 a0) a1 (g_Vw_toFroTxS_0 a2) a3) (g_Vi_FroFall_2 (g_Vw_toLogNoteS_0 a0) a1 (g_Vw_toFroTxS_0 a2) a3) (g_Vs_FroFall_0 (g_Vw_toLogNoteS_0 a0) a1 (g_Vw_toFroTxS_0 a2) a3) (g_Vs_FroFall_1 (g_Vw_toLogNoteS_0 a0) a1 (g_Vw_toFroTxS_0 a2) a3) (g_Vs_FroFall_2 (g_Vw_toLogNoteS_0 a0) a1 (g_Vw_toFroTxS_0 a2) a3)&&(!g_Vw_eqFroState_0 (g_Vi_FroFall_0 (g_Vw_toLogNoteS_0 a0) a1 (g_Vw_toFroTxS_0 a2) a3) (g_Vi_FroFall_1 (g_Vw_toLogNoteS_0 a0) a1 (g_Vw_toFroTxS_0 a2) a3) (g_Vi_FroFall_2 (g_Vw_toLogNoteS_0 a0) a1 (g_Vw_toFroTxS_0 a2) a3) (g_Vs_FroFall_0 (g_Vw_toLogNoteS_0 a0) a1 (g_Vw_toFroTxS_0 a2) a3) (g_Vs_FroFall_1 (g_Vw_toLogNoteS_0 a0) a1 (g_Vw_toFroTxS_0 a2) a3) (g_Vs_FroFall_2 (g_Vw_toLogNoteS_0 a0) a1 (g_Vw_toFroTxS_0 a2) a3) || g_Aw_toFroState a0 a1 a2&&(g_Aw_eqFroState (g_Vw_toLogNoteS_0 a0) a1 (g_Vw_toFroTxS_0 a2) (g_Vw_toLogNoteS_0 a0) a1 (g_Vw_toFroTxS_0 a2)&&(!g_Vw_eqFroState_0 (g_Vw_toLogNoteS_0 a0) a1 (g_Vw_toFroTxS_0 a2) (g_Vw_toLogNoteS_0 a0) a1 (g_Vw_toFroTxS_0 a2) || g_Aw_markFroState (g_Vw_toLogNoteS_0 a0) a1 (g_Vw_toFroTxS_0 a2) (1:Int)&&(decide (g_Vw_markFroTxS_0 (g_Vw_toFroTxS_0 a2) (g_Vw_markLogNoteS_0 (g_Vw_toLogNoteS_0 a0) (1:Int)) < 0) || g_Aw_eqFroState (g_Vi_FroFall_0 (g_Vw_toLogNoteS_0 a0) a1 (g_Vw_toFroTxS_0 a2) a3) (g_Vi_FroFall_1 (g_Vw_toLogNoteS_0 a0) a1 (g_Vw_toFroTxS_0 a2) a3) (g_Vi_FroFall_2 (g_Vw_toLogNoteS_0 a0) a1 (g_Vw_toFroTxS_0 a2) a3) (g_Vs_FroFall_0 (g_Vw_toLogNoteS_0 a0) a1 (g_Vw_toFroTxS_0 a2) a3) (g_Vs_FroFall_1 (g_Vw_toLogNoteS_0 a0) a1 (g_Vw_toFroTxS_0 a2) a3) (g_Vs_FroFall_2 (g_Vw_toLogNoteS_0 a0) a1 (g_Vw_toFroTxS_0 a2) a3)&&(!g_Vw_eqFroState_0 (g_Vi_FroFall_0 (g_Vw_toLogNoteS_0 a0) a1 (g_Vw_toFroTxS_0 a2) a3) (g_Vi_FroFall_1 (g_Vw_toLogNoteS_0 a0) a1 (g_Vw_toFroTxS_0 a2) a3) (g_Vi_FroFall_2 (g_Vw_toLogNoteS_0 a0) a1 (g_Vw_toFroTxS_0 a2) a3) (g_Vs_FroFall_0 (g_Vw_toLogNoteS_0 a0) a1 (g_Vw_toFroTxS_0 a2) a3) (g_Vs_FroFall_1 (g_Vw_toLogNoteS_0 a0) a1 (g_Vw_toFroTxS_0 a2) a3) (g_Vs_FroFall_2 (g_Vw_toLogNoteS_0 a0) a1 (g_Vw_toFroTxS_0 a2) a3) || g_Aw_markFroState (g_Vi_FroFall_0 (g_Vw_toLogNoteS_0 a0) a1 (g_Vw_toFroTxS_0 a2) a3) (g_Vi_FroFall_1 (g_Vw_toLogNoteS_0 a0) a1 (g_Vw_toFroTxS_0 a2) a3) (g_Vi_FroFall_2 (g_Vw_toLogNoteS_0 a0) a1 (g_Vw_toFroTxS_0 a2) a3) (1:Int)&&(g_Aw_heldFroState (g_Vw_markLogNoteS_1 (g_Vi_FroFall_0 (g_Vw_toLogNoteS_0 a0) a1 (g_Vw_toFroTxS_0 a2) a3) (1:Int)) (g_Vi_FroFall_1 (g_Vw_toLogNoteS_0 a0) a1 (g_Vw_toFroTxS_0 a2) a3) (g_Vw_markFroTxS_1 (g_Vi_FroFall_2 (g_Vw_toLogNoteS_0 a0) a1 (g_Vw_toFroTxS_0 a2) a3) (g_Vw_markLogNoteS_0 (g_Vi_FroFall_0 (g_Vw_toLogNoteS_0 a0) a1 (g_Vw_toFroTxS_0 a2) a3) (1:Int))) (1:Int)&&(decide (g_Vw_heldFroState_0 (g_Vw_markLogNoteS_1 (g_Vi_FroFall_0 (g_Vw_toLogNoteS_0 a0) a1 (g_Vw_toFroTxS_0 a2) a3) (1:Int)) (g_Vi_FroFall_1 (g_Vw_toLogNoteS_0 a0) a1 (g_Vw_toFroTxS_0 a2) a3) (g_Vw_markFroTxS_1 (g_Vi_FroFall_2 (g_Vw_toLogNoteS_0 a0) a1 (g_Vw_toFroTxS_0 a2) a3) (g_Vw_markLogNoteS_0 (g_Vi_FroFall_0 (g_Vw_toLogNoteS_0 a0) a1 (g_Vw_toFroTxS_0 a2) a3) (1:Int))) (1:Int) < (0:Int)) || (g_Vw_heldFroState_0 (g_Vw_markLogNoteS_1 (g_Vi_FroFall_0 (g_Vw_toLogNoteS_0 a0) a1 (g_Vw_toFroTxS_0 a2) a3) (1:Int)) (g_Vi_FroFall_1 (g_Vw_toLogNoteS_0 a0) a1 (g_Vw_toFroTxS_0 a2) a3) (g_Vw_markFroTxS_1 (g_Vi_FroFall_2 (g_Vw_toLogNoteS_0 a0) a1 (g_Vw_toFroTxS_0 a2) a3) (g_Vw_markLogNoteS_0 (g_Vi_FroFall_0 (g_Vw_toLogNoteS_0 a0) a1 (g_Vw_toFroTxS_0 a2) a3) (1:Int))) 1 != g_Vw_markFroTxS_0 (g_Vi_FroFall_2 (g_Vw_toLogNoteS_0 a0) a1 (g_Vw_toFroTxS_0 a2) a3) (g_Vw_markLogNoteS_0 (g_Vi_FroFall_0 (g_Vw_toLogNoteS_0 a0) a1 (g_Vw_toFroTxS_0 a2) a3) (1:Int)) || g_Aw_toFroState a0 a1 a2&&(g_Ai_FroFall (g_Vw_toLogNoteS_0 a0) a1 (g_Vw_toFroTxS_0 a2) a3&&(g_Aw_eqFroState (g_Vi_FroFall_0 (g_Vw_toLogNoteS_0 a0) a1 (g_Vw_toFroTxS_0 a2) a3) (g_Vi_FroFall_1 (g_Vw_toLogNoteS_0 a0) a1 (g_Vw_toFroTxS_0 a2) a3) (g_Vi_FroFall_2 (g_Vw_toLogNoteS_0 a0) a1 (g_Vw_toFroTxS_0 a2) a3) (g_Vs_FroFall_0 (g_Vw_toLogNoteS_0 a0) a1 (g_Vw_toFroTxS_0 a2) a3) (g_Vs_FroFall_1 (g_Vw_toLogNoteS_0 a0) a1 (g_Vw_toFroTxS_0 a2) a3) (g_Vs_FroFall_2 (g_Vw_toLogNoteS_0 a0) a1 (g_Vw_toFroTxS_0 a2) a3)&&(!g_Vw_eqFroState_0 (g_Vi_FroFall_0 (g_Vw_toLogNoteS_0 a0) a1 (g_Vw_toFroTxS_0 a2) a3) (g_Vi_FroFall_1 (g_Vw_toLogNoteS_0 a0) a1 (g_Vw_toFroTxS_0 a2) a3) (g_Vi_FroFall_2 (g_Vw_toLogNoteS_0 a0) a1 (g_Vw_toFroTxS_0 a2) a3) (g_Vs_FroFall_0 (g_Vw_toLogNoteS_0 a0) a1 (g_Vw_toFroTxS_0 a2) a3) (g_Vs_FroFall_1 (g_Vw_toLogNoteS_0 a0) a1 (g_Vw_toFroTxS_0 a2) a3) (g_Vs_FroFall_2 (g_Vw_toLogNoteS_0 a0) a1 (g_Vw_toFroTxS_0 a2) a3) || g_Aw_heldFroState (g_Vw_markLogNoteS_1 (g_Vi_FroFall_0 (g_Vw_toLogNoteS_0 a0) a1 (g_Vw_toFroTxS_0 a2) a3) (1:Int)) (g_Vi_FroFall_1 (g_Vw_toLogNoteS_0 a0) a1 (g_Vw_toFroTxS_0 a2) a3) (g_Vw_markFroTxS_1 (g_Vi_FroFall_2 (g_Vw_toLogNoteS_0 a0) a1 (g_Vw_toFroTxS_0 a2) a3) (g_Vw_markLogNoteS_0 (g_Vi_FroFall_0 (g_Vw_toLogNoteS_0 a0) a1 (g_Vw_toFroTxS_0 a2) a3) (1:Int))) (1:Int)&&(decide (g_Vw_heldFroState_0 (g_Vw_markLogNoteS_1 (g_Vi_FroFall_0 (g_Vw_toLogNoteS_0 a0) a1 (g_Vw_toFroTxS_0 a2) a3) (1:Int)) (g_Vi_FroFall_1 (g_Vw_toLogNoteS_0 a0) a1 (g_Vw_toFroTxS_0 a2) a3) (g_Vw_markFroTxS_1 (g_Vi_FroFall_2 (g_Vw_toLogNoteS_0 a0) a1 (g_Vw_toFroTxS_0 a2) a3) (g_Vw_markLogNoteS_0 (g_Vi_FroFall_0 (g_Vw_toLogNoteS_0 a0) a1 (g_Vw_toFroTxS_0 a2) a3) (1:Int))) (1:Int) < (0:Int)) || true)))))))))))))))))
def g_Vw_FnExactFroFall_0 (a0:tL0) (a1:Int) (a2:tL1) (a3:Int):Bool := bif decide (g_Vw_szFroState_0 a0 a1 a2 (1048576:Int) < (0:Int)) then true else bif !g_Vw_eqFroState_0 (g_Vi_FroFall_0 (g_Vw_toLogNoteS_0 a0) a1 (g_Vw_toFroTxS_0 a2) a3) (g_Vi_FroFall_1 (g_Vw_toLogNoteS_0 a0) a1 (g_Vw_toFroTxS_0 a2) a3) (g_Vi_FroFall_2 (g_Vw_toLogNoteS_0 a0) a1 (g_Vw_toFroTxS_0 a2) a3) (g_Vs_FroFall_0 (g_Vw_toLogNoteS_0 a0) a1 (g_Vw_toFroTxS_0 a2) a3) (g_Vs_FroFall_1 (g_Vw_toLogNoteS_0 a0) a1 (g_Vw_toFroTxS_0 a2) a3) (g_Vs_FroFall_2 (g_Vw_toLogNoteS_0 a0) a1 (g_Vw_toFroTxS_0 a2) a3) then false else bif !g_Vw_eqFroState_0 (g_Vw_toLogNoteS_0 a0) a1 (g_Vw_toFroTxS_0 a2) (g_Vw_toLogNoteS_0 a0) a1 (g_Vw_toFroTxS_0 a2) then false else bif decide (g_Vw_markFroTxS_0 (g_Vw_toFroTxS_0 a2) (g_Vw_markLogNoteS_0 (g_Vw_toLogNoteS_0 a0) (1:Int)) < 0) then false else bif !g_Vw_eqFroState_0 (g_Vi_FroFall_0 (g_Vw_toLogNoteS_0 a0) a1 (g_Vw_toFroTxS_0 a2) a3) (g_Vi_FroFall_1 (g_Vw_toLogNoteS_0 a0) a1 (g_Vw_toFroTxS_0 a2) a3) (g_Vi_FroFall_2 (g_Vw_toLogNoteS_0 a0) a1 (g_Vw_toFroTxS_0 a2) a3) (g_Vs_FroFall_0 (g_Vw_toLogNoteS_0 a0) a1 (g_Vw_toFroTxS_0 a2) a3) (g_Vs_FroFall_1 (g_Vw_toLogNoteS_0 a0) a1 (g_Vw_toFroTxS_0 a2) a3) (g_Vs_FroFall_2 (g_Vw_toLogNoteS_0 a0) a1 (g_Vw_toFroTxS_0 a2) a3) then false else bif decide (g_Vw_heldFroState_0 (g_Vw_markLogNoteS_1 (g_Vi_FroFall_0 (g_Vw_toLogNoteS_0 a0) a1 (g_Vw_toFroTxS_0 a2) a3) (1:Int)) (g_Vi_FroFall_1 (g_Vw_toLogNoteS_0 a0) a1 (g_Vw_toFroTxS_0 a2) a3) (g_Vw_markFroTxS_1 (g_Vi_FroFall_2 (g_Vw_toLogNoteS_0 a0) a1 (g_Vw_toFroTxS_0 a2) a3) (g_Vw_markLogNoteS_0 (g_Vi_FroFall_0 (g_Vw_toLogNoteS_0 a0) a1 (g_Vw_toFroTxS_0 a2) a3) (1:Int))) (1:Int) < (0:Int)) then false else bif g_Vw_heldFroState_0 (g_Vw_markLogNoteS_1 (g_Vi_FroFall_0 (g_Vw_toLogNoteS_0 a0) a1 (g_Vw_toFroTxS_0 a2) a3) (1:Int)) (g_Vi_FroFall_1 (g_Vw_toLogNoteS_0 a0) a1 (g_Vw_toFroTxS_0 a2) a3) (g_Vw_markFroTxS_1 (g_Vi_FroFall_2 (g_Vw_toLogNoteS_0 a0) a1 (g_Vw_toFroTxS_0 a2) a3) (g_Vw_markLogNoteS_0 (g_Vi_FroFall_0 (g_Vw_toLogNoteS_0 a0) a1 (g_Vw_toFroTxS_0 a2) a3) (1:Int))) 1 != g_Vw_markFroTxS_0 (g_Vi_FroFall_2 (g_Vw_toLogNoteS_0 a0) a1 (g_Vw_toFroTxS_0 a2) a3) (g_Vw_markLogNoteS_0 (g_Vi_FroFall_0 (g_Vw_toLogNoteS_0 a0) a1 (g_Vw_toFroTxS_0 a2) a3) (1:Int)) then false else bif !g_Vw_eqFroState_0 (g_Vi_FroFall_0 (g_Vw_toLogNoteS_0 a0) a1 (g_Vw_toFroTxS_0 a2) a3) (g_Vi_FroFall_1 (g_Vw_toLogNoteS_0 a0) a1 (g_Vw_toFroTxS_0 a2) a3) (g_Vi_FroFall_2 (g_Vw_toLogNoteS_0 a0) a1 (g_Vw_toFroTxS_0 a2) a3) (g_Vs_FroFall_0 (g_Vw_toLogNoteS_0 a0) a1 (g_Vw_toFroTxS_0 a2) a3) (g_Vs_FroFall_1 (g_Vw_toLogNoteS_0 a0) a1 (g_Vw_toFroTxS_0 a2) a3) (g_Vs_FroFall_2 (g_Vw_toLogNoteS_0 a0) a1 (g_Vw_toFroTxS_0 a2) a3) then false else bif decide (g_Vw_heldFroState_0 (g_Vw_markLogNoteS_1 (g_Vi_FroFall_0 (g_Vw_toLogNoteS_0 a0) a1 (g_Vw_toFroTxS_0 a2) a3) (1:Int)) (g_Vi_FroFall_1 (g_Vw_toLogNoteS_0 a0) a1 (g_Vw_toFroTxS_0 a2) a3) (g_Vw_markFroTxS_1 (g_Vi_FroFall_2 (g_Vw_toLogNoteS_0 a0) a1 (g_Vw_toFroTxS_0 a2) a3) (g_Vw_markLogNoteS_0 (g_Vi_FroFall_0 (g_Vw_toLogNoteS_0 a0) a1 (g_Vw_toFroTxS_0 a2) a3) (1:Int))) (1:Int) < (0:Int)) then false else bif g_Vw_heldFroState_0 (g_Vw_markLogNoteS_1 (g_Vi_FroFall_0 (g_Vw_toLogNoteS_0 a0) a1 (g_Vw_toFroTxS_0 a2) a3) (1:Int)) (g_Vi_FroFall_1 (g_Vw_toLogNoteS_0 a0) a1 (g_Vw_toFroTxS_0 a2) a3) (g_Vw_markFroTxS_1 (g_Vi_FroFall_2 (g_Vw_toLogNoteS_0 a0) a1 (g_Vw_toFroTxS_0 a2) a3) (g_Vw_markLogNoteS_0 (g_Vi_FroFall_0 (g_Vw_toLogNoteS_0 a0) a1 (g_Vw_toFroTxS_0 a2) a3) (1:Int))) 1 != g_Vw_markFroTxS_0 (g_Vi_FroFall_2 (g_Vw_toLogNoteS_0 a0) a1 (g_Vw_toFroTxS_0 a2) a3) (g_Vw_markLogNoteS_0 (g_Vi_FroFall_0 (g_Vw_toLogNoteS_0 a0) a1 (g_Vw_toFroTxS_0 a2) a3) (1:Int)) then false else true
def Fw_FnExactFroFall:FSem := fun ys => match ys with
 | [.val true [.sl .any 169 (.pair (.int .i64) (.pair (.int .i64) (.pair (.sl 9 .str) (.sl 196 (.pair .str (.pair .bool (.sl 3 (.int .i64)))))))) a0,.int .i64 a1,.sl .any 129 (.pair (.int .i64) (.pair (.pair (.int .i64) (.pair (.int .i64) (.pair (.int .i64) (.pair (.int .i64) (.pair (.int .i64) (.pair (.int .i64) (.int .i64))))))) (.pair .bool (.pair (.sl 3 (.int .i64)) (.sl 3 (.int .i64)))))) a2],.val false [.int .i64 a3]] => some ((g_Aw_FnExactFroFall a0 a1 a2 a3),.val false [.bool (g_Vw_FnExactFroFall_0 a0 a1 a2 a3)],[])
 | _ => none
theorem vw_FnExactFroFall (a0:tL0) (a1:Int) (a2:tL1) (a3:Int):collapseH .std Ew_FnExactFroFall Ow_FnExactFroFall_0 (execFn Ew_FnExactFroFall Tryz.f4 msw_FnExactFroFall [.val true [.sl .any 169 (.pair (.int .i64) (.pair (.int .i64) (.pair (.sl 9 .str) (.sl 196 (.pair .str (.pair .bool (.sl 3 (.int .i64)))))))) a0,.int .i64 a1,.sl .any 129 (.pair (.int .i64) (.pair (.pair (.int .i64) (.pair (.int .i64) (.pair (.int .i64) (.pair (.int .i64) (.pair (.int .i64) (.pair (.int .i64) (.int .i64))))))) (.pair .bool (.pair (.sl 3 (.int .i64)) (.sl 3 (.int .i64)))))) a2],.val false [.int .i64 a3]]) = some ((g_Aw_FnExactFroFall a0 a1 a2 a3),.val false [.bool (g_Vw_FnExactFroFall_0 a0 a1 a2 a3)],[]) := by kernel_rfl
theorem sw_FnExactFroFall:Sound Tryz.prog 4 msw_FnExactFroFall Fw_FnExactFroFall := by
 refine fn_gen goodw_FnExactFroFall (by kernel_rfl) .std (fn := Tryz.f4) (c := (Tryz.f4.body.getD .skip)) (o := Ow_FnExactFroFall_0) (k := 0) (by kernel_rfl) (by kernel_rfl) (by kernel_rfl) (by kernel_rfl) (by decide) kw_FnExactFroFall_0 ?_
 intro ys r outs h
 unfold Fw_FnExactFroFall at h
 split at h
 ·exact (vw_FnExactFroFall _ _ _ _).trans h
 ·cases h
end
end Go.Proofs.YtedhpmhlmdcpbaaGreatDoor.E
