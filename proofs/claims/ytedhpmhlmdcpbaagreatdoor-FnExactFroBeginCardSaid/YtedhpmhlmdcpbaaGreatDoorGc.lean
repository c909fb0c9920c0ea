/- What the functions that are reached do, by the engine: for the proof (laws.FnExactFroBegin): part 3. No conditions. -/
import Derived.Test.YtedhpmhlmdcpbaaGreatDoorGb
import Derived.Test.YtedhpmhlmdcpbaaGreatDoorProg
set_option linter.all false
namespace Go.Proofs.YtedhpmhlmdcpbaaGreatDoor.E
open Go
set_option maxRecDepth 100000
set_option maxHeartbeats 0
noncomputable section
def Ew_markFroTxS:Env where
 tt := mkTI Tryz.prog
 fn := fun f => match f with
  | 106 => some (msw_markIntS,FSem.wk msw_markIntS Fw_markIntS)
  | _ => none
 bxf := fun _ => none
 mv := []
 keep := fun b => match b with
  | 0 => [(0,false),(1,false),(5,false)]
  | _ => []
 keepB := fun b => match b with
  | 0 => []
  | _ => []
 keepX := fun b => match b with
  | 0 => [(0,false),(1,false)]
  | _ => []
 keepXB := fun b => match b with
  | 0 => []
  | _ => []
 nest := [88,95]
theorem goodFw_markFroTxS:∀ f ms F,Ew_markFroTxS.fn f = some (ms,F) → Sound Tryz.prog f ms F := fun f ms F h => by
 unfold Ew_markFroTxS at h
 dsimp only at h
 split at h
 ·exact gF sw_markIntS h
 ·cases h
theorem goodw_markFroTxS:Good Tryz.prog Ew_markFroTxS := ⟨rfl,goodFw_markFroTxS,fun f ms F h => by cases h⟩
def Ow_markFroTxS_0:Orc := fun _ _ => none
def msw_markFroTxS:List PM := [.«mut»,.own]
def lsw_markFroTxS:List (Nat×Code) := loopsAll 0 (Tryz.f45.body.getD .skip)
def cw_markFroTxS_0:Code := (loopOf 0 (Tryz.f45.body.getD .skip)).getD .skip
theorem lseqw_markFroTxS:lsw_markFroTxS = [(0,cw_markFroTxS_0)] := by kernel_rfl
theorem mw_markFroTxS_0:∀ p,p ∈ lsw_markFroTxS → p.1 = 0 → p.2 = cw_markFroTxS_0 := by
 intro p hp
 rw [lseqw_markFroTxS] at hp
 simp only [List.mem_cons,List.not_mem_nil,or_false] at hp
 subst hp; simp
theorem kw_markFroTxS_0:OrcOk Ew_markFroTxS Ow_markFroTxS_0 lsw_markFroTxS 0 := orcOk_none
def hw_markFroTxS_0 (y0:tL1) (y1:Int) (y2:Int):List (Pl×LV) := [(.T 0,.t (.val false [.row 0 0 0])),(.R 0 0,.r 0 (some ⟨false,.any,true,73,(.pair (.int .i64) (.pair (.pair (.int .i64) (.pair (.int .i64) (.pair (.int .i64) (.pair (.int .i64) (.pair (.int .i64) (.pair (.int .i64) (.int .i64))))))) (.pair .bool (.pair (.sl 3 (.int .i64)) (.sl 3 (.int .i64)))))),y0⟩)),(.T 1,.t (.val false [.int .i64 y1])),(.T 5,.t (.val false [.int .i64 y2]))]
def g_Sw_markFroTxS_0:(tL1×Int×Int) → RT (tL1×Int×Int) ((tL1×Int))
 | (y0,y1,y2) => .br (true) (.br (decide (y2 < (y0.length:Int))) (.br (decide (0 ≤ y2 ∧ y2 < (y0.length:Int))) (.br (decide (Int.toNat y2 < List.length y0)) (.br (true) (.br (decide (0 ≤ y2 ∧ y2 < (↑(List.length (updE yT0 y0 (Int.toNat y2) fun x => (y1,(x.2.1.1,x.2.1.2.1,x.2.1.2.2.1,x.2.1.2.2.2.1,x.2.1.2.2.2.2.1,x.2.1.2.2.2.2.2.1,x.2.1.2.2.2.2.2.2),x.2.2.1,x.2.2.2.1,x.2.2.2.2))):Int))) (.br (decide (Int.toNat y2 < List.length (updE yT0 y0 (Int.toNat y2) fun x => (y1,(x.2.1.1,x.2.1.2.1,x.2.1.2.2.1,x.2.1.2.2.2.1,x.2.1.2.2.2.2.1,x.2.1.2.2.2.2.2.1,x.2.1.2.2.2.2.2.2),x.2.2.1,x.2.2.2.1,x.2.2.2.2)))) (.br (true) (.br (decide (0 ≤ y2 ∧ y2 < (↑(List.length (updE yT0 (updE yT0 y0 (Int.toNat y2) fun x => (y1,(x.2.1.1,x.2.1.2.1,x.2.1.2.2.1,x.2.1.2.2.2.1,x.2.1.2.2.2.2.1,x.2.1.2.2.2.2.2.1,x.2.1.2.2.2.2.2.2),x.2.2.1,x.2.2.2.1,x.2.2.2.2)) (Int.toNat y2) fun x => (x.1,(IntKind.i64.wrap (y1 + 1),x.2.1.2.1,x.2.1.2.2.1,x.2.1.2.2.2.1,x.2.1.2.2.2.2.1,x.2.1.2.2.2.2.2.1,x.2.1.2.2.2.2.2.2),x.2.2.1,x.2.2.2.1,x.2.2.2.2))):Int))) (.br (decide (Int.toNat y2 < List.length (updE yT0 (updE yT0 y0 (Int.toNat y2) fun x => (y1,(x.2.1.1,x.2.1.2.1,x.2.1.2.2.1,x.2.1.2.2.2.1,x.2.1.2.2.2.2.1,x.2.1.2.2.2.2.2.1,x.2.1.2.2.2.2.2.2),x.2.2.1,x.2.2.2.1,x.2.2.2.2)) (Int.toNat y2) fun x => (x.1,(IntKind.i64.wrap (y1 + 1),x.2.1.2.1,x.2.1.2.2.1,x.2.1.2.2.2.1,x.2.1.2.2.2.2.1,x.2.1.2.2.2.2.2.1,x.2.1.2.2.2.2.2.2),x.2.2.1,x.2.2.2.1,x.2.2.2.2)))) (.br (true) (.br (decide (0 ≤ y2 ∧ y2 < (↑(List.length (updE yT0 (updE yT0 (updE yT0 y0 (Int.toNat y2) fun x => (y1,(x.2.1.1,x.2.1.2.1,x.2.1.2.2.1,x.2.1.2.2.2.1,x.2.1.2.2.2.2.1,x.2.1.2.2.2.2.2.1,x.2.1.2.2.2.2.2.2),x.2.2.1,x.2.2.2.1,x.2.2.2.2)) (Int.toNat y2) fun x => (x.1,(IntKind.i64.wrap (y1 + 1),x.2.1.2.1,x.2.1.2.2.1,x.2.1.2.2.2.1,x.2.1.2.2.2.2.1,x.2.1.2.2.2.2.2.1,x.2.1.2.2.2.2.2.2),x.2.2.1,x.2.2.2.1,x.2.2.2.2)) (Int.toNat y2) fun x => (x.1,(x.2.1.1,IntKind.i64.wrap (IntKind.i64.wrap (y1 + 1) + 1),x.2.1.2.2.1,x.2.1.2.2.2.1,x.2.1.2.2.2.2.1,x.2.1.2.2.2.2.2.1,x.2.1.2.2.2.2.2.2),x.2.2.1,x.2.2.2.1,x.2.2.2.2))):Int))) (.br (decide (Int.toNat y2 < List.length (updE yT0 (updE yT0 (updE yT0 y0 (Int.toNat y2) fun x => (y1,(x.2.1.1,x.2.1.2.1,x.2.1.2.2.1,x.2.1.2.2.2.1,x.2.1.2.2.2.2.1,x.2.1.2.2.2.2.2.1,x.2.1.2.2.2.2.2.2),x.2.2.1,x.2.2.2.1,x.2.2.2.2)) (Int.toNat y2) fun x => (x.1,(IntKind.i64.wrap (y1 + 1),x.2.1.2.1,x.2.1.2.2.1,x.2.1.2.2.2.1,x.2.1.2.2.2.2.1,x.2.1.2.2.2.2.2.1,x.2.1.2.2.2.2.2.2),x.2.2.1,x.2.2.2.1,x.2.2.2.2)) (Int.toNat y2) fun x => (x.1,(x.2.1.1,IntKind.i64.wrap (IntKind.i64.wrap (y1 + 1) + 1),x.2.1.2.2.1,x.2.1.2.2.2.1,x.2.1.2.2.2.2.1,x.2.1.2.2.2.2.2.1,x.2.1.2.2.2.2.2.2),x.2.2.1,x.2.2.2.1,x.2.2.2.2)))) (.br (true) (.br (decide (0 ≤ y2 ∧ y2 < (↑(List.length (updE yT0 (updE yT0 (updE yT0 (updE yT0 y0 (Int.toNat y2) fun x => (y1,(x.2.1.1,x.2.1.2.1,x.2.1.2.2.1,x.2.1.2.2.2.1,x.2.1.2.2.2.2.1,x.2.1.2.2.2.2.2.1,x.2.1.2.2.2.2.2.2),x.2.2.1,x.2.2.2.1,x.2.2.2.2)) (Int.toNat y2) fun x => (x.1,(IntKind.i64.wrap (y1 + 1),x.2.1.2.1,x.2.1.2.2.1,x.2.1.2.2.2.1,x.2.1.2.2.2.2.1,x.2.1.2.2.2.2.2.1,x.2.1.2.2.2.2.2.2),x.2.2.1,x.2.2.2.1,x.2.2.2.2)) (Int.toNat y2) fun x => (x.1,(x.2.1.1,IntKind.i64.wrap (IntKind.i64.wrap (y1 + 1) + 1),x.2.1.2.2.1,x.2.1.2.2.2.1,x.2.1.2.2.2.2.1,x.2.1.2.2.2.2.2.1,x.2.1.2.2.2.2.2.2),x.2.2.1,x.2.2.2.1,x.2.2.2.2)) (Int.toNat y2) fun x => (x.1,(x.2.1.1,x.2.1.2.1,IntKind.i64.wrap (IntKind.i64.wrap (IntKind.i64.wrap (y1 + 1) + 1) + 1),x.2.1.2.2.2.1,x.2.1.2.2.2.2.1,x.2.1.2.2.2.2.2.1,x.2.1.2.2.2.2.2.2),x.2.2.1,x.2.2.2.1,x.2.2.2.2))):Int))) (.br (decide (Int.toNat y2 < List.length (updE yT0 (updE yT0 (updE yT0 (updE yT0 y0 (Int.toNat y2) fun x => (y1,(x.2.1.1,x.2.1.2.1,x.2.1.2.2.1,x.2.1.2.2.2.1,x.2.1.2.2.2.2.1,x.2.1.2.2.2.2.2.1,x.2.1.2.2.2.2.2.2),x.2.2.1,x.2.2.2.1,x.2.2.2.2)) (Int.toNat y2) fun x => (x.1,(IntKind.i64.wrap (y1 + 1),x.2.1.2.1,x.2.1.2.2.1,x.2.1.2.2.2.1,x.2.1.2.2.2.2.1,x.2.1.2.2.2.2.2.1,x.2.1.2.2.2.2.2.2),x.2.2.1,x.2.2.2.1,x.2.2.2.2)) (Int.toNat y2) fun x => (x.1,(x.2.1.1,IntKind.i64.wrap (IntKind.i64.wrap (y1 + 1) + 1),x.2.1.2.2.1,x.2.1.2.2.2.1,x.2.1.2.2.2.2.1,x.2.1.2.2.2.2.2.1,x.2.1.2.2.2.2.2.2),x.2.2.1,x.2.2.2.1,x.2.2.2.2)) (Int.toNat y2) fun x => (x.1,(x.2.1.1,x.2.1.2.1,IntKind.i64.wrap (IntKind.i64.wrap (IntKind.i64.wrap (y1 + 1) + 1) + 1),x.2.1.2.2.2.1,x.2.1.2.2.2.2.1,x.2.1.2.2.2.2.2.1,x.2.1.2.2.2.2.2.2),x.2.2.1,x.2.2.2.1,x.2.2.2.2)))) (.br (true) (.br (decide (0 ≤ y2 ∧ y2 < (↑(List.length (updE yT0 (updE yT0 (updE yT0 (updE yT0 (updE yT0 y0 (Int.toNat y2) fun x => (y1,(x.2.1.1,x.2.1.2.1,x.2.1.2.2.1,x.2.1.2.2.2.1,x.2.1.2.2.2.2.1,x.2.1.2.2.2.2.2.1,x.2.1.2.2.2.2.2.2),x.2.2.1,x.2.2.2.1,x.2.2.2.2)) (Int.toNat y2) fun x => (x.1,(IntKind.i64.wrap (y1 + 1),x.2.1.2.1,x.2.1.2.2.1,x.2.1.2.2.2.1,x.2.1.2.2.2.2.1,x.2.1.2.2.2.2.2.1,x.2.1.2.2.2.2.2.2),x.2.2.1,x.2.2.2.1,x.2.2.2.2)) (Int.toNat y2) fun x => (x.1,(x.2.1.1,IntKind.i64.wrap (IntKind.i64.wrap (y1 + 1) + 1),x.2.1.2.2.1,x.2.1.2.2.2.1,x.2.1.2.2.2.2.1,x.2.1.2.2.2.2.2.1,x.2.1.2.2.2.2.2.2),x.2.2.1,x.2.2.2.1,x.2.2.2.2)) (Int.toNat y2) fun x => (x.1,(x.2.1.1,x.2.1.2.1,IntKind.i64.wrap (IntKind.i64.wrap (IntKind.i64.wrap (y1 + 1) + 1) + 1),x.2.1.2.2.2.1,x.2.1.2.2.2.2.1,x.2.1.2.2.2.2.2.1,x.2.1.2.2.2.2.2.2),x.2.2.1,x.2.2.2.1,x.2.2.2.2)) (Int.toNat y2) fun x => (x.1,(x.2.1.1,x.2.1.2.1,x.2.1.2.2.1,IntKind.i64.wrap (IntKind.i64.wrap (IntKind.i64.wrap (IntKind.i64.wrap (y1 + 1) + 1) + 1) + 1),x.2.1.2.2.2.2.1,x.2.1.2.2.2.2.2.1,x.2.1.2.2.2.2.2.2),x.2.2.1,x.2.2.2.1,x.2.2.2.2))):Int))) (.br (decide (Int.toNat y2 < List.length (updE yT0 (updE yT0 (updE yT0 (updE yT0 (updE yT0 y0 (Int.toNat y2) fun x => (y1,(x.2.1.1,x.2.1.2.1,x.2.1.2.2.1,x.2.1.2.2.2.1,x.2.1.2.2.2.2.1,x.2.1.2.2.2.2.2.1,x.2.1.2.2.2.2.2.2),x.2.2.1,x.2.2.2.1,x.2.2.2.2)) (Int.toNat y2) fun x => (x.1,(IntKind.i64.wrap (y1 + 1),x.2.1.2.1,x.2.1.2.2.1,x.2.1.2.2.2.1,x.2.1.2.2.2.2.1,x.2.1.2.2.2.2.2.1,x.2.1.2.2.2.2.2.2),x.2.2.1,x.2.2.2.1,x.2.2.2.2)) (Int.toNat y2) fun x => (x.1,(x.2.1.1,IntKind.i64.wrap (IntKind.i64.wrap (y1 + 1) + 1),x.2.1.2.2.1,x.2.1.2.2.2.1,x.2.1.2.2.2.2.1,x.2.1.2.2.2.2.2.1,x.2.1.2.2.2.2.2.2),x.2.2.1,x.2.2.2.1,x.2.2.2.2)) (Int.toNat y2) fun x => (x.1,(x.2.1.1,x.2.1.2.1,IntKind.i64.wrap (IntKind.i64.wrap (IntKind.i64.wrap (y1 + 1) + 1) + 1),x.2.1.2.2.2.1,x.2.1.2.2.2.2.1,x.2.1.2.2.2.2.2.1,x.2.1.2.2.2.2.2.2),x.2.2.1,x.2.2.2.1,x.2.2.2.2)) (Int.toNat y2) fun x => (x.1,(x.2.1.1,x.2.1.2.1,x.2.1.2.2.1,IntKind.i64.wrap (IntKind.i64.wrap (IntKind.i64.wrap (IntKind.i64.wrap (y1 + 1) + 1) + 1) + 1),x.2.1.2.2.2.2.1,x.2.1.2.2.2.2.2.1,x.2.1.2.2.2.2.2.2),x.2.2.1,x.2.2.2.1,x.2.2.2.2)))) (.br (true) (.br (decide (0 ≤ y2 ∧ y2 < (↑(List.length (updE yT0 (updE yT0 (updE yT0 (updE yT0 (updE yT0 (updE yT0 y0 (Int.toNat y2) fun x => (y1,(x.2.1.1,x.2.1.2.1,x.2.1.2.2.1,x.2.1.2.2.2.1,x.2.1.2.2.2.2.1,x.2.1.2.2.2.2.2.1,x.2.1.2.2.2.2.2.2),x.2.2.1,x.2.2.2.1,x.2.2.2.2)) (Int.toNat y2) fun x => (x.1,(IntKind.i64.wrap (y1 + 1),x.2.1.2.1,x.2.1.2.2.1,x.2.1.2.2.2.1,x.2.1.2.2.2.2.1,x.2.1.2.2.2.2.2.1,x.2.1.2.2.2.2.2.2),x.2.2.1,x.2.2.2.1,x.2.2.2.2)) (Int.toNat y2) fun x => (x.1,(x.2.1.1,IntKind.i64.wrap (IntKind.i64.wrap (y1 + 1) + 1),x.2.1.2.2.1,x.2.1.2.2.2.1,x.2.1.2.2.2.2.1,x.2.1.2.2.2.2.2.1,x.2.1.2.2.2.2.2.2),x.2.2.1,x.2.2.2.1,x.2.2.2.2)) (Int.toNat y2) fun x => (x.1,(x.2.1.1,x.2.1.2.1,IntKind.i64.wrap (IntKind.i64.wrap (IntKind.i64.wrap (y1 + 1) + 1) + 1),x.2.1.2.2.2.1,x.2.1.2.2.2.2.1,x.2.1.2.2.2.2.2.1,x.2.1.2.2.2.2.2.2),x.2.2.1,x.2.2.2.1,x.2.2.2.2)) (Int.toNat y2) fun x => (x.1,(x.2.1.1,x.2.1.2.1,x.2.1.2.2.1,IntKind.i64.wrap (IntKind.i64.wrap (IntKind.i64.wrap (IntKind.i64.wrap (y1 + 1) + 1) + 1) + 1),x.2.1.2.2.2.2.1,x.2.1.2.2.2.2.2.1,x.2.1.2.2.2.2.2.2),x.2.2.1,x.2.2.2.1,x.2.2.2.2)) (Int.toNat y2) fun x => (x.1,(x.2.1.1,x.2.1.2.1,x.2.1.2.2.1,x.2.1.2.2.2.1,IntKind.i64.wrap (IntKind.i64.wrap (IntKind.i64.wrap (IntKind.i64.wrap (IntKind.i64.wrap (y1 + 1) + 1) + 1) + 1) + 1),x.2.1.2.2.2.2.2.1,x.2.1.2.2.2.2.2.2),x.2.2.1,x.2.2.2.1,x.2.2.2.2))):Int))) (.br (decide (Int.toNat y2 < List.length (updE yT0 (updE yT0 (updE yT0 (updE yT0 (updE yT0 (updE yT0 y0 (Int.toNat y2) fun x => (y1,(x.2.1.1,x.2.1.2.1,x.2.1.2.2.1,x.2.1.2.2.2.1,x.2.1.2.2.2.2.1,x.2.1.2.2.2.2.2.1,x.2.1.2.2.2.2.2.2),x.2.2.1,x.2.2.2.1,x.2.2.2.2)) (Int.toNat y2) fun x => (x.1,(IntKind.i64.wrap (y1 + 1),x.2.1.2.1,x.2.1.2.2.1,x.2.1.2.2.2.1,x.2.1.2.2.2.2.1,x.2.1.2.2.2.2.2.1,x.2.1.2.2.2.2.2.2),x.2.2.1,x.2.2.2.1,x.2.2.2.2)) (Int.toNat y2) fun x => (x.1,(x.2.1.1,IntKind.i64.wrap (IntKind.i64.wrap (y1 + 1) + 1),x.2.1.2.2.1,x.2.1.2.2.2.1,x.2.1.2.2.2.2.1,x.2.1.2.2.2.2.2.1,x.2.1.2.2.2.2.2.2),x.2.2.1,x.2.2.2.1,x.2.2.2.2)) (Int.toNat y2) fun x => (x.1,(x.2.1.1,x.2.1.2.1,IntKind.i64.wrap (IntKind.i64.wrap (IntKind.i64.wrap (y1 + 1) + 1) + 1),x.2.1.2.2.2.1,x.2.1.2.2.2.2.1,x.2.1.2.2.2.2.2.1,x.2.1.2.2.2.2.2.2),x.2.2.1,x.2.2.2.1,x.2.2.2.2)) (Int.toNat y2) fun x => (x.1,(x.2.1.1,x.2.1.2.1,x.2.1.2.2.1,IntKind.i64.wrap (IntKind.i64.wrap (IntKind.i64.wrap (IntKind.i64.wrap (y1 + 1) + 1) + 1) + 1),x.2.1.2.2.2.2.1,x.2.1.2.2.2.2.2.1,x.2.1.2.2.2.2.2.2),x.2.2.1,x.2.2.2.1,x.2.2.2.2)) (Int.toNat y2) fun x => (x.1,(x.2.1.1,x.2.1.2.1,x.2.1.2.2.1,x.2.1.2.2.2.1,IntKind.i64.wrap (IntKind.i64.wrap (IntKind.i64.wrap (IntKind.i64.wrap (IntKind.i64.wrap (y1 + 1) + 1) + 1) + 1) + 1),x.2.1.2.2.2.2.2.1,x.2.1.2.2.2.2.2.2),x.2.2.1,x.2.2.2.1,x.2.2.2.2)))) (.br (true) (.br (decide (0 ≤ y2 ∧ y2 < (↑(List.length (updE yT0 (updE yT0 (updE yT0 (updE yT0 (updE yT0 (updE yT0 (updE yT0 y0 (Int.toNat y2) fun x => (y1,(x.2.1.1,x.2.1.2.1,x.2.1.2.2.1,x.2.1.2.2.2.1,x.2.1.2.2.2.2.1,x.2.1.2.2.2.2.2.1,x.2.1.2.2.2.2.2.2),x.2.2.1,x.2.2.2.1,x.2.2.2.2)) (Int.toNat y2) fun x => (x.1,(IntKind.i64.wrap (y1 + 1),x.2.1.2.1,x.2.1.2.2.1,x.2.1.2.2.2.1,x.2.1.2.2.2.2.1,x.2.1.2.2.2.2.2.1,x.2.1.2.2.2.2.2.2),x.2.2.1,x.2.2.2.1,x.2.2.2.2)) (Int.toNat y2) fun x => (x.1,(x.2.1.1,IntKind.i64.wrap (IntKind.i64.wrap (y1 + 1) + 1),x.2.1.2.2.1,x.2.1.2.2.2.1,x.2.1.2.2.2.2.1,x.2.1.2.2.2.2.2.1,x.2.1.2.2.2.2.2.2),x.2.2.1,x.2.2.2.1,x.2.2.2.2)) (Int.toNat y2) fun x => (x.1,(x.2.1.1,x.2.1.2.1,IntKind.i64.wrap (IntKind.i64.wrap (IntKind.i64.wrap (y1 + 1) + 1) + 1),x.2.1.2.2.2.1,x.2.1.2.2.2.2.1,x.2.1.2.2.2.2.2.1,x.2.1.2.2.2.2.2.2),x.2.2.1,x.2.2.2.1,x.2.2.2.2)) (Int.toNat y2) fun x => (x.1,(x.2.1.1,x.2.1.2.1,x.2.1.2.2.1,IntKind.i64.wrap (IntKind.i64.wrap (IntKind.i64.wrap (IntKind.i64.wrap (y1 + 1) + 1) + 1) + 1),x.2.1.2.2.2.2.1,x.2.1.2.2.2.2.2.1,x.2.1.2.2.2.2.2.2),x.2.2.1,x.2.2.2.1,x.2.2.2.2)) (Int.toNat y2) fun x => (x.1,(x.2.1.1,x.2.1.2.1,x.2.1.2.2.1,x.2.1.2.2.2.1,IntKind.i64.wrap (IntKind.i64.wrap (IntKind.i64.wrap (IntKind.i64.wrap (IntKind.i64.wrap (y1 + 1) + 1) + 1) + 1) + 1),x.2.1.2.2.2.2.2.1,x.2.1.2.2.2.2.2.2),x.2.2.1,x.2.2.2.1,x.2.2.2.2)) (Int.toNat y2) fun x => (x.1,(x.2.1.1,x.2.1.2.1,x.2.1.2.2.1,x.2.1.2.2.2.1,x.2.1.2.2.2.2.1,IntKind.i64.wrap (IntKind.i64.wrap (IntKind.i64.wrap (IntKind.i64.wrap (IntKind.i64.wrap (IntKind.i64.wrap (y1 + 1) + 1) + 1) + 1) + 1) + 1),x.2.1.2.2.2.2.2.2),x.2.2.1,x.2.2.2.1,x.2.2.2.2))):Int))) (.br (decide (Int.toNat y2 < List.length (updE yT0 (updE yT0 (updE yT0 (updE yT0 (updE yT0 (updE yT0 (updE yT0 y0 (Int.toNat y2) fun x => (y1,(x.2.1.1,x.2.1.2.1,x.2.1.2.2.1,x.2.1.2.2.2.1,x.2.1.2.2.2.2.1,x.2.1.2.2.2.2.2.1,x.2.1.2.2.2.2.2.2),x.2.2.1,x.2.2.2.1,x.2.2.2.2)) (Int.toNat y2) fun x => (x.1,(IntKind.i64.wrap (y1 + 1),x.2.1.2.1,x.2.1.2.2.1,x.2.1.2.2.2.1,x.2.1.2.2.2.2.1,x.2.1.2.2.2.2.2.1,x.2.1.2.2.2.2.2.2),x.2.2.1,x.2.2.2.1,x.2.2.2.2)) (Int.toNat y2) fun x => (x.1,(x.2.1.1,IntKind.i64.wrap (IntKind.i64.wrap (y1 + 1) + 1),x.2.1.2.2.1,x.2.1.2.2.2.1,x.2.1.2.2.2.2.1,x.2.1.2.2.2.2.2.1,x.2.1.2.2.2.2.2.2),x.2.2.1,x.2.2.2.1,x.2.2.2.2)) (Int.toNat y2) fun x => (x.1,(x.2.1.1,x.2.1.2.1,IntKind.i64.wrap (IntKind.i64.wrap (IntKind.i64.wrap (y1 + 1) + 1) + 1),x.2.1.2.2.2.1,x.2.1.2.2.2.2.1,x.2.1.2.2.2.2.2.1,x.2.1.2.2.2.2.2.2),x.2.2.1,x.2.2.2.1,x.2.2.2.2)) (Int.toNat y2) fun x => (x.1,(x.2.1.1,x.2.1.2.1,x.2.1.2.2.1,IntKind.i64.wrap (IntKind.i64.wrap (IntKind.i64.wrap (IntKind.i64.wrap (y1 + 1) + 1) + 1) + 1),x.2.1.2.2.2.2.1,x.2.1.2.2.2.2.2.1,x.2.1.2.2.2.2.2.2),x.2.2.1,x.2.2.2.1,x.2.2.2.2)) (Int.toNat y2) fun x => (x.1,(x.2.1.1,x.2.1.2.1,x.2.1.2.2.1,x.2.1.2.2.2.1,IntKind.i64.wrap (IntKind.i64.wrap (IntKind.i64.wrap (IntKind.i64.wrap (IntKind.i64.wrap (y1 + 1) + 1) + 1) + 1) + 1),x.2.1.2.2.2.2.2.1,x.2.1.2.2.2.2.2.2),x.2.2.1,x.2.2.2.1,x.2.2.2.2)) (Int.toNat y2) fun x => (x.1,(x.2.1.1,x.2.1.2.1,x.2.1.2.2.1,x.2.1.2.2.2.1,x.2.1.2.2.2.2.1,IntKind.i64.wrap (IntKind.i64.wrap (IntKind.i64.wrap (IntKind.i64.wrap (IntKind.i64.wrap (IntKind.i64.wrap (y1 + 1) + 1) + 1) + 1) + 1) + 1),x.2.1.2.2.2.2.2.2),x.2.2.1,x.2.2.2.1,x.2.2.2.2)))) (.br (true) (.br (true) (.br (true) (.br (decide (0 ≤ y2 ∧ y2 < (↑(List.length (updE yT0 (updE yT0 (updE yT0 (updE yT0 (updE yT0 (updE yT0 (updE yT0 (updE yT0 y0 (Int.toNat y2) fun x => (y1,(x.2.1.1,x.2.1.2.1,x.2.1.2.2.1,x.2.1.2.2.2.1,x.2.1.2.2.2.2.1,x.2.1.2.2.2.2.2.1,x.2.1.2.2.2.2.2.2),x.2.2.1,x.2.2.2.1,x.2.2.2.2)) (Int.toNat y2) fun x => (x.1,(IntKind.i64.wrap (y1 + 1),x.2.1.2.1,x.2.1.2.2.1,x.2.1.2.2.2.1,x.2.1.2.2.2.2.1,x.2.1.2.2.2.2.2.1,x.2.1.2.2.2.2.2.2),x.2.2.1,x.2.2.2.1,x.2.2.2.2)) (Int.toNat y2) fun x => (x.1,(x.2.1.1,IntKind.i64.wrap (IntKind.i64.wrap (y1 + 1) + 1),x.2.1.2.2.1,x.2.1.2.2.2.1,x.2.1.2.2.2.2.1,x.2.1.2.2.2.2.2.1,x.2.1.2.2.2.2.2.2),x.2.2.1,x.2.2.2.1,x.2.2.2.2)) (Int.toNat y2) fun x => (x.1,(x.2.1.1,x.2.1.2.1,IntKind.i64.wrap (IntKind.i64.wrap (IntKind.i64.wrap (y1 + 1) + 1) + 1),x.2.1.2.2.2.1,x.2.1.2.2.2.2.1,x.2.1.2.2.2.2.2.1,x.2.1.2.2.2.2.2.2),x.2.2.1,x.2.2.2.1,x.2.2.2.2)) (Int.toNat y2) fun x => (x.1,(x.2.1.1,x.2.1.2.1,x.2.1.2.2.1,IntKind.i64.wrap (IntKind.i64.wrap (IntKind.i64.wrap (IntKind.i64.wrap (y1 + 1) + 1) + 1) + 1),x.2.1.2.2.2.2.1,x.2.1.2.2.2.2.2.1,x.2.1.2.2.2.2.2.2),x.2.2.1,x.2.2.2.1,x.2.2.2.2)) (Int.toNat y2) fun x => (x.1,(x.2.1.1,x.2.1.2.1,x.2.1.2.2.1,x.2.1.2.2.2.1,IntKind.i64.wrap (IntKind.i64.wrap (IntKind.i64.wrap (IntKind.i64.wrap (IntKind.i64.wrap (y1 + 1) + 1) + 1) + 1) + 1),x.2.1.2.2.2.2.2.1,x.2.1.2.2.2.2.2.2),x.2.2.1,x.2.2.2.1,x.2.2.2.2)) (Int.toNat y2) fun x => (x.1,(x.2.1.1,x.2.1.2.1,x.2.1.2.2.1,x.2.1.2.2.2.1,x.2.1.2.2.2.2.1,IntKind.i64.wrap (IntKind.i64.wrap (IntKind.i64.wrap (IntKind.i64.wrap (IntKind.i64.wrap (IntKind.i64.wrap (y1 + 1) + 1) + 1) + 1) + 1) + 1),x.2.1.2.2.2.2.2.2),x.2.2.1,x.2.2.2.1,x.2.2.2.2)) (Int.toNat y2) fun x => (x.1,(x.2.1.1,x.2.1.2.1,x.2.1.2.2.1,x.2.1.2.2.2.1,x.2.1.2.2.2.2.1,x.2.1.2.2.2.2.2.1,IntKind.i64.wrap (IntKind.i64.wrap (IntKind.i64.wrap (IntKind.i64.wrap (IntKind.i64.wrap (IntKind.i64.wrap (IntKind.i64.wrap (y1 + 1) + 1) + 1) + 1) + 1) + 1) + 1)),x.2.2.1,x.2.2.2.1,x.2.2.2.2))):Int))) (.br (decide (Int.toNat y2 < List.length (updE yT0 (updE yT0 (updE yT0 (updE yT0 (updE yT0 (updE yT0 (updE yT0 (updE yT0 y0 (Int.toNat y2) fun x => (y1,(x.2.1.1,x.2.1.2.1,x.2.1.2.2.1,x.2.1.2.2.2.1,x.2.1.2.2.2.2.1,x.2.1.2.2.2.2.2.1,x.2.1.2.2.2.2.2.2),x.2.2.1,x.2.2.2.1,x.2.2.2.2)) (Int.toNat y2) fun x => (x.1,(IntKind.i64.wrap (y1 + 1),x.2.1.2.1,x.2.1.2.2.1,x.2.1.2.2.2.1,x.2.1.2.2.2.2.1,x.2.1.2.2.2.2.2.1,x.2.1.2.2.2.2.2.2),x.2.2.1,x.2.2.2.1,x.2.2.2.2)) (Int.toNat y2) fun x => (x.1,(x.2.1.1,IntKind.i64.wrap (IntKind.i64.wrap (y1 + 1) + 1),x.2.1.2.2.1,x.2.1.2.2.2.1,x.2.1.2.2.2.2.1,x.2.1.2.2.2.2.2.1,x.2.1.2.2.2.2.2.2),x.2.2.1,x.2.2.2.1,x.2.2.2.2)) (Int.toNat y2) fun x => (x.1,(x.2.1.1,x.2.1.2.1,IntKind.i64.wrap (IntKind.i64.wrap (IntKind.i64.wrap (y1 + 1) + 1) + 1),x.2.1.2.2.2.1,x.2.1.2.2.2.2.1,x.2.1.2.2.2.2.2.1,x.2.1.2.2.2.2.2.2),x.2.2.1,x.2.2.2.1,x.2.2.2.2)) (Int.toNat y2) fun x => (x.1,(x.2.1.1,x.2.1.2.1,x.2.1.2.2.1,IntKind.i64.wrap (IntKind.i64.wrap (IntKind.i64.wrap (IntKind.i64.wrap (y1 + 1) + 1) + 1) + 1),x.2.1.2.2.2.2.1,x.2.1.2.2.2.2.2.1,x.2.1.2.2.2.2.2.2),x.2.2.1,x.2.2.2.1,x.2.2.2.2)) (Int.toNat y2) fun x => (x.1,(x.2.1.1,x.2.1.2.1,x.2.1.2.2.1,x.2.1.2.2.2.1,IntKind.i64.wrap (IntKind.i64.wrap (IntKind.i64.wrap (IntKind.i64.wrap (IntKind.i64.wrap (y1 + 1) + 1) + 1) + 1) + 1),x.2.1.2.2.2.2.2.1,x.2.1.2.2.2.2.2.2),x.2.2.1,x.2.2.2.1,x.2.2.2.2)) (Int.toNat y2) fun x => (x.1,(x.2.1.1,x.2.1.2.1,x.2.1.2.2.1,x.2.1.2.2.2.1,x.2.1.2.2.2.2.1,IntKind.i64.wrap (IntKind.i64.wrap (IntKind.i64.wrap (IntKind.i64.wrap (IntKind.i64.wrap (IntKind.i64.wrap (y1 + 1) + 1) + 1) + 1) + 1) + 1),x.2.1.2.2.2.2.2.2),x.2.2.1,x.2.2.2.1,x.2.2.2.2)) (Int.toNat y2) fun x => (x.1,(x.2.1.1,x.2.1.2.1,x.2.1.2.2.1,x.2.1.2.2.2.1,x.2.1.2.2.2.2.1,x.2.1.2.2.2.2.2.1,IntKind.i64.wrap (IntKind.i64.wrap (IntKind.i64.wrap (IntKind.i64.wrap (IntKind.i64.wrap (IntKind.i64.wrap (IntKind.i64.wrap (y1 + 1) + 1) + 1) + 1) + 1) + 1) + 1)),x.2.2.1,x.2.2.2.1,x.2.2.2.2)))) (.br (true) (.br (decide (0 ≤ y2 ∧ y2 < (↑(List.length (updE yT0 (updE yT0 (updE yT0 (updE yT0 (updE yT0 (updE yT0 (updE yT0 (updE yT0 (updE yT0 y0 (Int.toNat y2) fun x => (y1,(x.2.1.1,x.2.1.2.1,x.2.1.2.2.1,x.2.1.2.2.2.1,x.2.1.2.2.2.2.1,x.2.1.2.2.2.2.2.1,x.2.1.2.2.2.2.2.2),x.2.2.1,x.2.2.2.1,x.2.2.2.2)) (Int.toNat y2) fun x => (x.1,(IntKind.i64.wrap (y1 + 1),x.2.1.2.1,x.2.1.2.2.1,x.2.1.2.2.2.1,x.2.1.2.2.2.2.1,x.2.1.2.2.2.2.2.1,x.2.1.2.2.2.2.2.2),x.2.2.1,x.2.2.2.1,x.2.2.2.2)) (Int.toNat y2) fun x => (x.1,(x.2.1.1,IntKind.i64.wrap (IntKind.i64.wrap (y1 + 1) + 1),x.2.1.2.2.1,x.2.1.2.2.2.1,x.2.1.2.2.2.2.1,x.2.1.2.2.2.2.2.1,x.2.1.2.2.2.2.2.2),x.2.2.1,x.2.2.2.1,x.2.2.2.2)) (Int.toNat y2) fun x => (x.1,(x.2.1.1,x.2.1.2.1,IntKind.i64.wrap (IntKind.i64.wrap (IntKind.i64.wrap (y1 + 1) + 1) + 1),x.2.1.2.2.2.1,x.2.1.2.2.2.2.1,x.2.1.2.2.2.2.2.1,x.2.1.2.2.2.2.2.2),x.2.2.1,x.2.2.2.1,x.2.2.2.2)) (Int.toNat y2) fun x => (x.1,(x.2.1.1,x.2.1.2.1,x.2.1.2.2.1,IntKind.i64.wrap (IntKind.i64.wrap (IntKind.i64.wrap (IntKind.i64.wrap (y1 + 1) + 1) + 1) + 1),x.2.1.2.2.2.2.1,x.2.1.2.2.2.2.2.1,x.2.1.2.2.2.2.2.2),x.2.2.1,x.2.2.2.1,x.2.2.2.2)) (Int.toNat y2) fun x => (x.1,(x.2.1.1,x.2.1.2.1,x.2.1.2.2.1,x.2.1.2.2.2.1,IntKind.i64.wrap (IntKind.i64.wrap (IntKind.i64.wrap (IntKind.i64.wrap (IntKind.i64.wrap (y1 + 1) + 1) + 1) + 1) + 1),x.2.1.2.2.2.2.2.1,x.2.1.2.2.2.2.2.2),x.2.2.1,x.2.2.2.1,x.2.2.2.2)) (Int.toNat y2) fun x => (x.1,(x.2.1.1,x.2.1.2.1,x.2.1.2.2.1,x.2.1.2.2.2.1,x.2.1.2.2.2.2.1,IntKind.i64.wrap (IntKind.i64.wrap (IntKind.i64.wrap (IntKind.i64.wrap (IntKind.i64.wrap (IntKind.i64.wrap (y1 + 1) + 1) + 1) + 1) + 1) + 1),x.2.1.2.2.2.2.2.2),x.2.2.1,x.2.2.2.1,x.2.2.2.2)) (Int.toNat y2) fun x => (x.1,(x.2.1.1,x.2.1.2.1,x.2.1.2.2.1,x.2.1.2.2.2.1,x.2.1.2.2.2.2.1,x.2.1.2.2.2.2.2.1,IntKind.i64.wrap (IntKind.i64.wrap (IntKind.i64.wrap (IntKind.i64.wrap (IntKind.i64.wrap (IntKind.i64.wrap (IntKind.i64.wrap (y1 + 1) + 1) + 1) + 1) + 1) + 1) + 1)),x.2.2.1,x.2.2.2.1,x.2.2.2.2)) (Int.toNat y2) fun x => (x.1,(x.2.1.1,x.2.1.2.1,x.2.1.2.2.1,x.2.1.2.2.2.1,x.2.1.2.2.2.2.1,x.2.1.2.2.2.2.2.1,x.2.1.2.2.2.2.2.2),Int.tmod (IntKind.i64.wrap (IntKind.i64.wrap (IntKind.i64.wrap (IntKind.i64.wrap (IntKind.i64.wrap (IntKind.i64.wrap (IntKind.i64.wrap (IntKind.i64.wrap (y1 + 1) + 1) + 1) + 1) + 1) + 1) + 1) + 1)) (3:Int) == (0:Int),x.2.2.2.1,x.2.2.2.2))):Int))) (.br (decide (Int.toNat y2 < List.length (updE yT0 (updE yT0 (updE yT0 (updE yT0 (updE yT0 (updE yT0 (updE yT0 (updE yT0 (updE yT0 y0 (Int.toNat y2) fun x => (y1,(x.2.1.1,x.2.1.2.1,x.2.1.2.2.1,x.2.1.2.2.2.1,x.2.1.2.2.2.2.1,x.2.1.2.2.2.2.2.1,x.2.1.2.2.2.2.2.2),x.2.2.1,x.2.2.2.1,x.2.2.2.2)) (Int.toNat y2) fun x => (x.1,(IntKind.i64.wrap (y1 + 1),x.2.1.2.1,x.2.1.2.2.1,x.2.1.2.2.2.1,x.2.1.2.2.2.2.1,x.2.1.2.2.2.2.2.1,x.2.1.2.2.2.2.2.2),x.2.2.1,x.2.2.2.1,x.2.2.2.2)) (Int.toNat y2) fun x => (x.1,(x.2.1.1,IntKind.i64.wrap (IntKind.i64.wrap (y1 + 1) + 1),x.2.1.2.2.1,x.2.1.2.2.2.1,x.2.1.2.2.2.2.1,x.2.1.2.2.2.2.2.1,x.2.1.2.2.2.2.2.2),x.2.2.1,x.2.2.2.1,x.2.2.2.2)) (Int.toNat y2) fun x => (x.1,(x.2.1.1,x.2.1.2.1,IntKind.i64.wrap (IntKind.i64.wrap (IntKind.i64.wrap (y1 + 1) + 1) + 1),x.2.1.2.2.2.1,x.2.1.2.2.2.2.1,x.2.1.2.2.2.2.2.1,x.2.1.2.2.2.2.2.2),x.2.2.1,x.2.2.2.1,x.2.2.2.2)) (Int.toNat y2) fun x => (x.1,(x.2.1.1,x.2.1.2.1,x.2.1.2.2.1,IntKind.i64.wrap (IntKind.i64.wrap (IntKind.i64.wrap (IntKind.i64.wrap (y1 + 1) + 1) + 1) + 1),x.2.1.2.2.2.2.1,x.2.1.2.2.2.2.2.1,x.2.1.2.2.2.2.2.2),x.2.2.1,x.2.2.2.1,x.2.2.2.2)) (Int.toNat y2) fun x => (x.1,(x.2.1.1,x.2.1.2.1,x.2.1.2.2.1,x.2.1.2.2.2.1,IntKind.i64.wrap (IntKind.i64.wrap (IntKind.i64.wrap (IntKind.i64.wrap (IntKind.i64.wrap (y1 + 1) + 1) + 1) + 1) + 1),x.2.1.2.2.2.2.2.1,x.2.1.2.2.2.2.2.2),x.2.2.1,x.2.2.2.1,x.2.2.2.2)) (Int.toNat y2) fun x => (x.1,(x.2.1.1,x.2.1.2.1,x.2.1.2.2.1,x.2.1.2.2.2.1,x.2.1.2.2.2.2.1,IntKind.i64.wrap (IntKind.i64.wrap (IntKind.i64.wrap (IntKind.i64.wrap (IntKind.i64.wrap (IntKind.i64.wrap (y1 + 1) + 1) + 1) + 1) + 1) + 1),x.2.1.2.2.2.2.2.2),x.2.2.1,x.2.2.2.1,x.2.2.2.2)) (Int.toNat y2) fun x => (x.1,(x.2.1.1,x.2.1.2.1,x.2.1.2.2.1,x.2.1.2.2.2.1,x.2.1.2.2.2.2.1,x.2.1.2.2.2.2.2.1,IntKind.i64.wrap (IntKind.i64.wrap (IntKind.i64.wrap (IntKind.i64.wrap (IntKind.i64.wrap (IntKind.i64.wrap (IntKind.i64.wrap (y1 + 1) + 1) + 1) + 1) + 1) + 1) + 1)),x.2.2.1,x.2.2.2.1,x.2.2.2.2)) (Int.toNat y2) fun x => (x.1,(x.2.1.1,x.2.1.2.1,x.2.1.2.2.1,x.2.1.2.2.2.1,x.2.1.2.2.2.2.1,x.2.1.2.2.2.2.2.1,x.2.1.2.2.2.2.2.2),Int.tmod (IntKind.i64.wrap (IntKind.i64.wrap (IntKind.i64.wrap (IntKind.i64.wrap (IntKind.i64.wrap (IntKind.i64.wrap (IntKind.i64.wrap (IntKind.i64.wrap (y1 + 1) + 1) + 1) + 1) + 1) + 1) + 1) + 1)) (3:Int) == (0:Int),x.2.2.2.1,x.2.2.2.2)))) (.br (g_Aw_markIntS (at_ yT0 (updE yT0 (updE yT0 (updE yT0 (updE yT0 (updE yT0 (updE yT0 (updE yT0 (updE yT0 (updE yT0 y0 (Int.toNat y2) fun x => (y1,(x.2.1.1,x.2.1.2.1,x.2.1.2.2.1,x.2.1.2.2.2.1,x.2.1.2.2.2.2.1,x.2.1.2.2.2.2.2.1,x.2.1.2.2.2.2.2.2),x.2.2.1,x.2.2.2.1,x.2.2.2.2)) (Int.toNat y2) fun x => (x.1,(IntKind.i64.wrap (y1 + 1),x.2.1.2.1,x.2.1.2.2.1,x.2.1.2.2.2.1,x.2.1.2.2.2.2.1,x.2.1.2.2.2.2.2.1,x.2.1.2.2.2.2.2.2),x.2.2.1,x.2.2.2.1,x.2.2.2.2)) (Int.toNat y2) fun x => (x.1,(x.2.1.1,IntKind.i64.wrap (IntKind.i64.wrap (y1 + 1) + 1),x.2.1.2.2.1,x.2.1.2.2.2.1,x.2.1.2.2.2.2.1,x.2.1.2.2.2.2.2.1,x.2.1.2.2.2.2.2.2),x.2.2.1,x.2.2.2.1,x.2.2.2.2)) (Int.toNat y2) fun x => (x.1,(x.2.1.1,x.2.1.2.1,IntKind.i64.wrap (IntKind.i64.wrap (IntKind.i64.wrap (y1 + 1) + 1) + 1),x.2.1.2.2.2.1,x.2.1.2.2.2.2.1,x.2.1.2.2.2.2.2.1,x.2.1.2.2.2.2.2.2),x.2.2.1,x.2.2.2.1,x.2.2.2.2)) (Int.toNat y2) fun x => (x.1,(x.2.1.1,x.2.1.2.1,x.2.1.2.2.1,IntKind.i64.wrap (IntKind.i64.wrap (IntKind.i64.wrap (IntKind.i64.wrap (y1 + 1) + 1) + 1) + 1),x.2.1.2.2.2.2.1,x.2.1.2.2.2.2.2.1,x.2.1.2.2.2.2.2.2),x.2.2.1,x.2.2.2.1,x.2.2.2.2)) (Int.toNat y2) fun x => (x.1,(x.2.1.1,x.2.1.2.1,x.2.1.2.2.1,x.2.1.2.2.2.1,IntKind.i64.wrap (IntKind.i64.wrap (IntKind.i64.wrap (IntKind.i64.wrap (IntKind.i64.wrap (y1 + 1) + 1) + 1) + 1) + 1),x.2.1.2.2.2.2.2.1,x.2.1.2.2.2.2.2.2),x.2.2.1,x.2.2.2.1,x.2.2.2.2)) (Int.toNat y2) fun x => (x.1,(x.2.1.1,x.2.1.2.1,x.2.1.2.2.1,x.2.1.2.2.2.1,x.2.1.2.2.2.2.1,IntKind.i64.wrap (IntKind.i64.wrap (IntKind.i64.wrap (IntKind.i64.wrap (IntKind.i64.wrap (IntKind.i64.wrap (y1 + 1) + 1) + 1) + 1) + 1) + 1),x.2.1.2.2.2.2.2.2),x.2.2.1,x.2.2.2.1,x.2.2.2.2)) (Int.toNat y2) fun x => (x.1,(x.2.1.1,x.2.1.2.1,x.2.1.2.2.1,x.2.1.2.2.2.1,x.2.1.2.2.2.2.1,x.2.1.2.2.2.2.2.1,IntKind.i64.wrap (IntKind.i64.wrap (IntKind.i64.wrap (IntKind.i64.wrap (IntKind.i64.wrap (IntKind.i64.wrap (IntKind.i64.wrap (y1 + 1) + 1) + 1) + 1) + 1) + 1) + 1)),x.2.2.1,x.2.2.2.1,x.2.2.2.2)) (Int.toNat y2) fun x => (x.1,(x.2.1.1,x.2.1.2.1,x.2.1.2.2.1,x.2.1.2.2.2.1,x.2.1.2.2.2.2.1,x.2.1.2.2.2.2.2.1,x.2.1.2.2.2.2.2.2),Int.tmod (IntKind.i64.wrap (IntKind.i64.wrap (IntKind.i64.wrap (IntKind.i64.wrap (IntKind.i64.wrap (IntKind.i64.wrap (IntKind.i64.wrap (IntKind.i64.wrap (y1 + 1) + 1) + 1) + 1) + 1) + 1) + 1) + 1)) (3:Int) == (0:Int),x.2.2.2.1,x.2.2.2.2)) (Int.toNat y2)).2.2.2.1 (IntKind.i64.wrap (IntKind.i64.wrap (IntKind.i64.wrap (IntKind.i64.wrap (IntKind.i64.wrap (IntKind.i64.wrap (IntKind.i64.wrap (IntKind.i64.wrap (IntKind.i64.wrap (y1 + 1) + 1) + 1) + 1) + 1) + 1) + 1) + 1) + 1))) (.br (decide (0 ≤ y2 ∧ y2 < (↑(List.length (updE yT0 (updE yT0 (updE yT0 (updE yT0 (updE yT0 (updE yT0 (updE yT0 (updE yT0 (updE yT0 (updE yT0 y0 (Int.toNat y2) fun x => (y1,(x.2.1.1,x.2.1.2.1,x.2.1.2.2.1,x.2.1.2.2.2.1,x.2.1.2.2.2.2.1,x.2.1.2.2.2.2.2.1,x.2.1.2.2.2.2.2.2),x.2.2.1,x.2.2.2.1,x.2.2.2.2)) (Int.toNat y2) fun x => (x.1,(IntKind.i64.wrap (y1 + 1),x.2.1.2.1,x.2.1.2.2.1,x.2.1.2.2.2.1,x.2.1.2.2.2.2.1,x.2.1.2.2.2.2.2.1,x.2.1.2.2.2.2.2.2),x.2.2.1,x.2.2.2.1,x.2.2.2.2)) (Int.toNat y2) fun x => (x.1,(x.2.1.1,IntKind.i64.wrap (IntKind.i64.wrap (y1 + 1) + 1),x.2.1.2.2.1,x.2.1.2.2.2.1,x.2.1.2.2.2.2.1,x.2.1.2.2.2.2.2.1,x.2.1.2.2.2.2.2.2),x.2.2.1,x.2.2.2.1,x.2.2.2.2)) (Int.toNat y2) fun x => (x.1,(x.2.1.1,x.2.1.2.1,IntKind.i64.wrap (IntKind.i64.wrap (IntKind.i64.wrap (y1 + 1) + 1) + 1),x.2.1.2.2.2.1,x.2.1.2.2.2.2.1,x.2.1.2.2.2.2.2.1,x.2.1.2.2.2.2.2.2),x.2.2.1,x.2.2.2.1,x.2.2.2.2)) (Int.toNat y2) fun x => (x.1,(x.2.1.1,x.2.1.2.1,x.2.1.2.2.1,IntKind.i64.wrap (IntKind.i64.wrap (IntKind.i64.wrap (IntKind.i64.wrap (y1 + 1) + 1) + 1) + 1),x.2.1.2.2.2.2.1,x.2.1.2.2.2.2.2.1,x.2.1.2.2.2.2.2.2),x.2.2.1,x.2.2.2.1,x.2.2.2.2)) (Int.toNat y2) fun x => (x.1,(x.2.1.1,x.2.1.2.1,x.2.1.2.2.1,x.2.1.2.2.2.1,IntKind.i64.wrap (IntKind.i64.wrap (IntKind.i64.wrap (IntKind.i64.wrap (IntKind.i64.wrap (y1 + 1) + 1) + 1) + 1) + 1),x.2.1.2.2.2.2.2.1,x.2.1.2.2.2.2.2.2),x.2.2.1,x.2.2.2.1,x.2.2.2.2)) (Int.toNat y2) fun x => (x.1,(x.2.1.1,x.2.1.2.1,x.2.1.2.2.1,x.2.1.2.2.2.1,x.2.1.2.2.2.2.1,IntKind.i64.wrap (IntKind.i64.wrap (IntKind.i64.wrap (IntKind.i64.wrap (IntKind.i64.wrap (IntKind.i64.wrap (y1 + 1) + 1) + 1) + 1) + 1) + 1),x.2.1.2.2.2.2.2.2),x.2.2.1,x.2.2.2.1,x.2.2.2.2)) (Int.toNat y2) fun x => (x.1,(x.2.1.1,x.2.1.2.1,x.2.1.2.2.1,x.2.1.2.2.2.1,x.2.1.2.2.2.2.1,x.2.1.2.2.2.2.2.1,IntKind.i64.wrap (IntKind.i64.wrap (IntKind.i64.wrap (IntKind.i64.wrap (IntKind.i64.wrap (IntKind.i64.wrap (IntKind.i64.wrap (y1 + 1) + 1) + 1) + 1) + 1) + 1) + 1)),x.2.2.1,x.2.2.2.1,x.2.2.2.2)) (Int.toNat y2) fun x => (x.1,(x.2.1.1,x.2.1.2.1,x.2.1.2.2.1,x.2.1.2.2.2.1,x.2.1.2.2.2.2.1,x.2.1.2.2.2.2.2.1,x.2.1.2.2.2.2.2.2),Int.tmod (IntKind.i64.wrap (IntKind.i64.wrap (IntKind.i64.wrap (IntKind.i64.wrap (IntKind.i64.wrap (IntKind.i64.wrap (IntKind.i64.wrap (IntKind.i64.wrap (y1 + 1) + 1) + 1) + 1) + 1) + 1) + 1) + 1)) (3:Int) == (0:Int),x.2.2.2.1,x.2.2.2.2)) (Int.toNat y2) fun q => (q.1,(q.2.1.1,q.2.1.2.1,q.2.1.2.2.1,q.2.1.2.2.2.1,q.2.1.2.2.2.2.1,q.2.1.2.2.2.2.2.1,q.2.1.2.2.2.2.2.2),q.2.2.1,g_Vw_markIntS_1 q.2.2.2.1 (IntKind.i64.wrap (IntKind.i64.wrap (IntKind.i64.wrap (IntKind.i64.wrap (IntKind.i64.wrap (IntKind.i64.wrap (IntKind.i64.wrap (IntKind.i64.wrap (IntKind.i64.wrap (y1 + 1) + 1) + 1) + 1) + 1) + 1) + 1) + 1) + 1)),q.2.2.2.2))):Int))) (.br (decide (Int.toNat y2 < List.length (updE yT0 (updE yT0 (updE yT0 (updE yT0 (updE yT0 (updE yT0 (updE yT0 (updE yT0 (updE yT0 (updE yT0 y0 (Int.toNat y2) fun x => (y1,(x.2.1.1,x.2.1.2.1,x.2.1.2.2.1,x.2.1.2.2.2.1,x.2.1.2.2.2.2.1,x.2.1.2.2.2.2.2.1,x.2.1.2.2.2.2.2.2),x.2.2.1,x.2.2.2.1,x.2.2.2.2)) (Int.toNat y2) fun x => (x.1,(IntKind.i64.wrap (y1 + 1),x.2.1.2.1,x.2.1.2.2.1,x.2.1.2.2.2.1,x.2.1.2.2.2.2.1,x.2.1.2.2.2.2.2.1,x.2.1.2.2.2.2.2.2),x.2.2.1,x.2.2.2.1,x.2.2.2.2)) (Int.toNat y2) fun x => (x.1,(x.2.1.1,IntKind.i64.wrap (IntKind.i64.wrap (y1 + 1) + 1),x.2.1.2.2.1,x.2.1.2.2.2.1,x.2.1.2.2.2.2.1,x.2.1.2.2.2.2.2.1,x.2.1.2.2.2.2.2.2),x.2.2.1,x.2.2.2.1,x.2.2.2.2)) (Int.toNat y2) fun x => (x.1,(x.2.1.1,x.2.1.2.1,IntKind.i64.wrap (IntKind.i64.wrap (IntKind.i64.wrap (y1 + 1) + 1) + 1),x.2.1.2.2.2.1,x.2.1.2.2.2.2.1,x.2.1.2.2.2.2.2.1,x.2.1.2.2.2.2.2.2),x.2.2.1,x.2.2.2.1,x.2.2.2.2)) (Int.toNat y2) fun x => (x.1,(x.2.1.1,x.2.1.2.1,x.2.1.2.2.1,IntKind.i64.wrap (IntKind.i64.wrap (IntKind.i64.wrap (IntKind.i64.wrap (y1 + 1) + 1) + 1) + 1),x.2.1.2.2.2.2.1,x.2.1.2.2.2.2.2.1,x.2.1.2.2.2.2.2.2),x.2.2.1,x.2.2.2.1,x.2.2.2.2)) (Int.toNat y2) fun x => (x.1,(x.2.1.1,x.2.1.2.1,x.2.1.2.2.1,x.2.1.2.2.2.1,IntKind.i64.wrap (IntKind.i64.wrap (IntKind.i64.wrap (IntKind.i64.wrap (IntKind.i64.wrap (y1 + 1) + 1) + 1) + 1) + 1),x.2.1.2.2.2.2.2.1,x.2.1.2.2.2.2.2.2),x.2.2.1,x.2.2.2.1,x.2.2.2.2)) (Int.toNat y2) fun x => (x.1,(x.2.1.1,x.2.1.2.1,x.2.1.2.2.1,x.2.1.2.2.2.1,x.2.1.2.2.2.2.1,IntKind.i64.wrap (IntKind.i64.wrap (IntKind.i64.wrap (IntKind.i64.wrap (IntKind.i64.wrap (IntKind.i64.wrap (y1 + 1) + 1) + 1) + 1) + 1) + 1),x.2.1.2.2.2.2.2.2),x.2.2.1,x.2.2.2.1,x.2.2.2.2)) (Int.toNat y2) fun x => (x.1,(x.2.1.1,x.2.1.2.1,x.2.1.2.2.1,x.2.1.2.2.2.1,x.2.1.2.2.2.2.1,x.2.1.2.2.2.2.2.1,IntKind.i64.wrap (IntKind.i64.wrap (IntKind.i64.wrap (IntKind.i64.wrap (IntKind.i64.wrap (IntKind.i64.wrap (IntKind.i64.wrap (y1 + 1) + 1) + 1) + 1) + 1) + 1) + 1)),x.2.2.1,x.2.2.2.1,x.2.2.2.2)) (Int.toNat y2) fun x => (x.1,(x.2.1.1,x.2.1.2.1,x.2.1.2.2.1,x.2.1.2.2.2.1,x.2.1.2.2.2.2.1,x.2.1.2.2.2.2.2.1,x.2.1.2.2.2.2.2.2),Int.tmod (IntKind.i64.wrap (IntKind.i64.wrap (IntKind.i64.wrap (IntKind.i64.wrap (IntKind.i64.wrap (IntKind.i64.wrap (IntKind.i64.wrap (IntKind.i64.wrap (y1 + 1) + 1) + 1) + 1) + 1) + 1) + 1) + 1)) (3:Int) == (0:Int),x.2.2.2.1,x.2.2.2.2)) (Int.toNat y2) fun q => (q.1,(q.2.1.1,q.2.1.2.1,q.2.1.2.2.1,q.2.1.2.2.2.1,q.2.1.2.2.2.2.1,q.2.1.2.2.2.2.2.1,q.2.1.2.2.2.2.2.2),q.2.2.1,g_Vw_markIntS_1 q.2.2.2.1 (IntKind.i64.wrap (IntKind.i64.wrap (IntKind.i64.wrap (IntKind.i64.wrap (IntKind.i64.wrap (IntKind.i64.wrap (IntKind.i64.wrap (IntKind.i64.wrap (IntKind.i64.wrap (y1 + 1) + 1) + 1) + 1) + 1) + 1) + 1) + 1) + 1)),q.2.2.2.2)))) (.br (g_Aw_markIntS (at_ yT0 (updE yT0 (updE yT0 (updE yT0 (updE yT0 (updE yT0 (updE yT0 (updE yT0 (updE yT0 (updE yT0 (updE yT0 y0 (Int.toNat y2) fun x => (y1,(x.2.1.1,x.2.1.2.1,x.2.1.2.2.1,x.2.1.2.2.2.1,x.2.1.2.2.2.2.1,x.2.1.2.2.2.2.2.1,x.2.1.2.2.2.2.2.2),x.2.2.1,x.2.2.2.1,x.2.2.2.2)) (Int.toNat y2) fun x => (x.1,(IntKind.i64.wrap (y1 + 1),x.2.1.2.1,x.2.1.2.2.1,x.2.1.2.2.2.1,x.2.1.2.2.2.2.1,x.2.1.2.2.2.2.2.1,x.2.1.2.2.2.2.2.2),x.2.2.1,x.2.2.2.1,x.2.2.2.2)) (Int.toNat y2) fun x => (x.1,(x.2.1.1,IntKind.i64.wrap (IntKind.i64.wrap (y1 + 1) + 1),x.2.1.2.2.1,x.2.1.2.2.2.1,x.2.1.2.2.2.2.1,x.2.1.2.2.2.2.2.1,x.2.1.2.2.2.2.2.2),x.2.2.1,x.2.2.2.1,x.2.2.2.2)) (Int.toNat y2) fun x => (x.1,(x.2.1.1,x.2.1.2.1,IntKind.i64.wrap (IntKind.i64.wrap (IntKind.i64.wrap (y1 + 1) + 1) + 1),x.2.1.2.2.2.1,x.2.1.2.2.2.2.1,x.2.1.2.2.2.2.2.1,x.2.1.2.2.2.2.2.2),x.2.2.1,x.2.2.2.1,x.2.2.2.2)) (Int.toNat y2) fun x => (x.1,(x.2.1.1,x.2.1.2.1,x.2.1.2.2.1,IntKind.i64.wrap (IntKind.i64.wrap (IntKind.i64.wrap (IntKind.i64.wrap (y1 + 1) + 1) + 1) + 1),x.2.1.2.2.2.2.1,x.2.1.2.2.2.2.2.1,x.2.1.2.2.2.2.2.2),x.2.2.1,x.2.2.2.1,x.2.2.2.2)) (Int.toNat y2) fun x => (x.1,(x.2.1.1,x.2.1.2.1,x.2.1.2.2.1,x.2.1.2.2.2.1,IntKind.i64.wrap (IntKind.i64.wrap (IntKind.i64.wrap (IntKind.i64.wrap (IntKind.i64.wrap (y1 + 1) + 1) + 1) + 1) + 1),x.2.1.2.2.2.2.2.1,x.2.1.2.2.2.2.2.2),x.2.2.1,x.2.2.2.1,x.2.2.2.2)) (Int.toNat y2) fun x => (x.1,(x.2.1.1,x.2.1.2.1,x.2.1.2.2.1,x.2.1.2.2.2.1,x.2.1.2.2.2.2.1,IntKind.i64.wrap (IntKind.i64.wrap (IntKind.i64.wrap (IntKind.i64.wrap (IntKind.i64.wrap (IntKind.i64.wrap (y1 + 1) + 1) + 1) + 1) + 1) + 1),x.2.1.2.2.2.2.2.2),x.2.2.1,x.2.2.2.1,x.2.2.2.2)) (Int.toNat y2) fun x => (x.1,(x.2.1.1,x.2.1.2.1,x.2.1.2.2.1,x.2.1.2.2.2.1,x.2.1.2.2.2.2.1,x.2.1.2.2.2.2.2.1,IntKind.i64.wrap (IntKind.i64.wrap (IntKind.i64.wrap (IntKind.i64.wrap (IntKind.i64.wrap (IntKind.i64.wrap (IntKind.i64.wrap (y1 + 1) + 1) + 1) + 1) + 1) + 1) + 1)),x.2.2.1,x.2.2.2.1,x.2.2.2.2)) (Int.toNat y2) fun x => (x.1,(x.2.1.1,x.2.1.2.1,x.2.1.2.2.1,x.2.1.2.2.2.1,x.2.1.2.2.2.2.1,x.2.1.2.2.2.2.2.1,x.2.1.2.2.2.2.2.2),Int.tmod (IntKind.i64.wrap (IntKind.i64.wrap (IntKind.i64.wrap (IntKind.i64.wrap (IntKind.i64.wrap (IntKind.i64.wrap (IntKind.i64.wrap (IntKind.i64.wrap (y1 + 1) + 1) + 1) + 1) + 1) + 1) + 1) + 1)) (3:Int) == (0:Int),x.2.2.2.1,x.2.2.2.2)) (Int.toNat y2) fun q => (q.1,(q.2.1.1,q.2.1.2.1,q.2.1.2.2.1,q.2.1.2.2.2.1,q.2.1.2.2.2.2.1,q.2.1.2.2.2.2.2.1,q.2.1.2.2.2.2.2.2),q.2.2.1,g_Vw_markIntS_1 q.2.2.2.1 (IntKind.i64.wrap (IntKind.i64.wrap (IntKind.i64.wrap (IntKind.i64.wrap (IntKind.i64.wrap (IntKind.i64.wrap (IntKind.i64.wrap (IntKind.i64.wrap (IntKind.i64.wrap (y1 + 1) + 1) + 1) + 1) + 1) + 1) + 1) + 1) + 1)),q.2.2.2.2)) (Int.toNat y2)).2.2.2.2 (g_Vw_markIntS_0 (at_ yT0 (updE yT0 (updE yT0 (updE yT0 (updE yT0 (updE yT0 (updE yT0 (updE yT0 (updE yT0 (updE yT0 y0 (Int.toNat y2) fun x => (y1,(x.2.1.1,x.2.1.2.1,x.2.1.2.2.1,x.2.1.2.2.2.1,x.2.1.2.2.2.2.1,x.2.1.2.2.2.2.2.1,x.2.1.2.2.2.2.2.2),x.2.2.1,x.2.2.2.1,x.2.2.2.2)) (Int.toNat y2) fun x => (x.1,(IntKind.i64.wrap (y1 + 1),x.2.1.2.1,x.2.1.2.2.1,x.2.1.2.2.2.1,x.2.1.2.2.2.2.1,x.2.1.2.2.2.2.2.1,x.2.1.2.2.2.2.2.2),x.2.2.1,x.2.2.2.1,x.2.2.2.2)) (Int.toNat y2) fun x => (x.1,(x.2.1.1,IntKind.i64.wrap (IntKind.i64.wrap (y1 + 1) + 1),x.2.1.2.2.1,x.2.1.2.2.2.1,x.2.1.2.2.2.2.1,x.2.1.2.2.2.2.2.1,x.2.1.2.2.2.2.2.2),x.2.2.1,x.2.2.2.1,x.2.2.2.2)) (Int.toNat y2) fun x => (x.1,(x.2.1.1,x.2.1.2.1,IntKind.i64.wrap (IntKind.i64.wrap (IntKind.i64.wrap (y1 + 1) + 1) + 1),x.2.1.2.2.2.1,x.2.1.2.2.2.2.1,x.2.1.2.2.2.2.2.1,x.2.1.2.2.2.2.2.2),x.2.2.1,x.2.2.2.1,x.2.2.2.2)) (Int.toNat y2) fun x => (x.1,(x.2.1.1,x.2.1.2.1,x.2.1.2.2.1,IntKind.i64.wrap (IntKind.i64.wrap (IntKind.i64.wrap (IntKind.i64.wrap (y1 + 1) + 1) + 1) + 1),x.2.1.2.2.2.2.1,x.2.1.2.2.2.2.2.1,x.2.1.2.2.2.2.2.2),x.2.2.1,x.2.2.2.1,x.2.2.2.2)) (Int.toNat y2) fun x => (x.1,(x.2.1.1,x.2.1.2.1,x.2.1.2.2.1,x.2.1.2.2.2.1,IntKind.i64.wrap (IntKind.i64.wrap (IntKind.i64.wrap (IntKind.i64.wrap (IntKind.i64.wrap (y1 + 1) + 1) + 1) + 1) + 1),x.2.1.2.2.2.2.2.1,x.2.1.2.2.2.2.2.2),x.2.2.1,x.2.2.2.1,x.2.2.2.2)) (Int.toNat y2) fun x => (x.1,(x.2.1.1,x.2.1.2.1,x.2.1.2.2.1,x.2.1.2.2.2.1,x.2.1.2.2.2.2.1,IntKind.i64.wrap (IntKind.i64.wrap (IntKind.i64.wrap (IntKind.i64.wrap (IntKind.i64.wrap (IntKind.i64.wrap (y1 + 1) + 1) + 1) + 1) + 1) + 1),x.2.1.2.2.2.2.2.2),x.2.2.1,x.2.2.2.1,x.2.2.2.2)) (Int.toNat y2) fun x => (x.1,(x.2.1.1,x.2.1.2.1,x.2.1.2.2.1,x.2.1.2.2.2.1,x.2.1.2.2.2.2.1,x.2.1.2.2.2.2.2.1,IntKind.i64.wrap (IntKind.i64.wrap (IntKind.i64.wrap (IntKind.i64.wrap (IntKind.i64.wrap (IntKind.i64.wrap (IntKind.i64.wrap (y1 + 1) + 1) + 1) + 1) + 1) + 1) + 1)),x.2.2.1,x.2.2.2.1,x.2.2.2.2)) (Int.toNat y2) fun x => (x.1,(x.2.1.1,x.2.1.2.1,x.2.1.2.2.1,x.2.1.2.2.2.1,x.2.1.2.2.2.2.1,x.2.1.2.2.2.2.2.1,x.2.1.2.2.2.2.2.2),Int.tmod (IntKind.i64.wrap (IntKind.i64.wrap (IntKind.i64.wrap (IntKind.i64.wrap (IntKind.i64.wrap (IntKind.i64.wrap (IntKind.i64.wrap (IntKind.i64.wrap (y1 + 1) + 1) + 1) + 1) + 1) + 1) + 1) + 1)) (3:Int) == (0:Int),x.2.2.2.1,x.2.2.2.2)) (Int.toNat y2)).2.2.2.1 (IntKind.i64.wrap (IntKind.i64.wrap (IntKind.i64.wrap (IntKind.i64.wrap (IntKind.i64.wrap (IntKind.i64.wrap (IntKind.i64.wrap (IntKind.i64.wrap (IntKind.i64.wrap (y1 + 1) + 1) + 1) + 1) + 1) + 1) + 1) + 1) + 1)))) (.br (true) (.go ((updE yT0 (updE yT0 (updE yT0 (updE yT0 (updE yT0 (updE yT0 (updE yT0 (updE yT0 (updE yT0 (updE yT0 (updE yT0 y0 (Int.toNat y2) fun x => (y1,(x.2.1.1,x.2.1.2.1,x.2.1.2.2.1,x.2.1.2.2.2.1,x.2.1.2.2.2.2.1,x.2.1.2.2.2.2.2.1,x.2.1.2.2.2.2.2.2),x.2.2.1,x.2.2.2.1,x.2.2.2.2)) (Int.toNat y2) fun x => (x.1,(IntKind.i64.wrap (y1 + 1),x.2.1.2.1,x.2.1.2.2.1,x.2.1.2.2.2.1,x.2.1.2.2.2.2.1,x.2.1.2.2.2.2.2.1,x.2.1.2.2.2.2.2.2),x.2.2.1,x.2.2.2.1,x.2.2.2.2)) (Int.toNat y2) fun x => (x.1,(x.2.1.1,IntKind.i64.wrap (IntKind.i64.wrap (y1 + 1) + 1),x.2.1.2.2.1,x.2.1.2.2.2.1,x.2.1.2.2.2.2.1,x.2.1.2.2.2.2.2.1,x.2.1.2.2.2.2.2.2),x.2.2.1,x.2.2.2.1,x.2.2.2.2)) (Int.toNat y2) fun x => (x.1,(x.2.1.1,x.2.1.2.1,IntKind.i64.wrap (IntKind.i64.wrap (IntKind.i64.wrap (y1 + 1) + 1) + 1),x.2.1.2.2.2.1,x.2.1.2.2.2.2.1,x.2.1.2.2.2.2.2.1,x.2.1.2.2.2.2.2.2),x.2.2.1,x.2.2.2.1,x.2.2.2.2)) (Int.toNat y2) fun x => (x.1,(x.2.1.1,x.2.1.2.1,x.2.1.2.2.1,IntKind.i64.wrap (IntKind.i64.wrap (IntKind.i64.wrap (IntKind.i64.wrap (y1 + 1) + 1) + 1) + 1),x.2.1.2.2.2.2.1,x.2.1.2.2.2.2.2.1,x.2.1.2.2.2.2.2.2),x.2.2.1,x.2.2.2.1,x.2.2.2.2)) (Int.toNat y2) fun x => (x.1,(x.2.1.1,x.2.1.2.1,x.2.1.2.2.1,x.2.1.2.2.2.1,IntKind.i64.wrap (IntKind.i64.wrap (IntKind.i64.wrap (IntKind.i64.wrap (IntKind.i64.wrap (y1 + 1) + 1) + 1) + 1) + 1),x.2.1.2.2.2.2.2.1,x.2.1.2.2.2.2.2.2),x.2.2.1,x.2.2.2.1,x.2.2.2.2)) (Int.toNat y2) fun x => (x.1,(x.2.1.1,x.2.1.2.1,x.2.1.2.2.1,x.2.1.2.2.2.1,x.2.1.2.2.2.2.1,IntKind.i64.wrap (IntKind.i64.wrap (IntKind.i64.wrap (IntKind.i64.wrap (IntKind.i64.wrap (IntKind.i64.wrap (y1 + 1) + 1) + 1) + 1) + 1) + 1),x.2.1.2.2.2.2.2.2),x.2.2.1,x.2.2.2.1,x.2.2.2.2)) (Int.toNat y2) fun x => (x.1,(x.2.1.1,x.2.1.2.1,x.2.1.2.2.1,x.2.1.2.2.2.1,x.2.1.2.2.2.2.1,x.2.1.2.2.2.2.2.1,IntKind.i64.wrap (IntKind.i64.wrap (IntKind.i64.wrap (IntKind.i64.wrap (IntKind.i64.wrap (IntKind.i64.wrap (IntKind.i64.wrap (y1 + 1) + 1) + 1) + 1) + 1) + 1) + 1)),x.2.2.1,x.2.2.2.1,x.2.2.2.2)) (Int.toNat y2) fun x => (x.1,(x.2.1.1,x.2.1.2.1,x.2.1.2.2.1,x.2.1.2.2.2.1,x.2.1.2.2.2.2.1,x.2.1.2.2.2.2.2.1,x.2.1.2.2.2.2.2.2),Int.tmod (IntKind.i64.wrap (IntKind.i64.wrap (IntKind.i64.wrap (IntKind.i64.wrap (IntKind.i64.wrap (IntKind.i64.wrap (IntKind.i64.wrap (IntKind.i64.wrap (y1 + 1) + 1) + 1) + 1) + 1) + 1) + 1) + 1)) (3:Int) == (0:Int),x.2.2.2.1,x.2.2.2.2)) (Int.toNat y2) fun q => (q.1,(q.2.1.1,q.2.1.2.1,q.2.1.2.2.1,q.2.1.2.2.2.1,q.2.1.2.2.2.2.1,q.2.1.2.2.2.2.2.1,q.2.1.2.2.2.2.2.2),q.2.2.1,g_Vw_markIntS_1 q.2.2.2.1 (IntKind.i64.wrap (IntKind.i64.wrap (IntKind.i64.wrap (IntKind.i64.wrap (IntKind.i64.wrap (IntKind.i64.wrap (IntKind.i64.wrap (IntKind.i64.wrap (IntKind.i64.wrap (y1 + 1) + 1) + 1) + 1) + 1) + 1) + 1) + 1) + 1)),q.2.2.2.2)) (Int.toNat y2) fun q => (q.1,(q.2.1.1,q.2.1.2.1,q.2.1.2.2.1,q.2.1.2.2.2.1,q.2.1.2.2.2.2.1,q.2.1.2.2.2.2.2.1,q.2.1.2.2.2.2.2.2),q.2.2.1,q.2.2.2.1,g_Vw_markIntS_1 q.2.2.2.2 (g_Vw_markIntS_0 (at_ yT0 (updE yT0 (updE yT0 (updE yT0 (updE yT0 (updE yT0 (updE yT0 (updE yT0 (updE yT0 (updE yT0 y0 (Int.toNat y2) fun x => (y1,(x.2.1.1,x.2.1.2.1,x.2.1.2.2.1,x.2.1.2.2.2.1,x.2.1.2.2.2.2.1,x.2.1.2.2.2.2.2.1,x.2.1.2.2.2.2.2.2),x.2.2.1,x.2.2.2.1,x.2.2.2.2)) (Int.toNat y2) fun x => (x.1,(IntKind.i64.wrap (y1 + 1),x.2.1.2.1,x.2.1.2.2.1,x.2.1.2.2.2.1,x.2.1.2.2.2.2.1,x.2.1.2.2.2.2.2.1,x.2.1.2.2.2.2.2.2),x.2.2.1,x.2.2.2.1,x.2.2.2.2)) (Int.toNat y2) fun x => (x.1,(x.2.1.1,IntKind.i64.wrap (IntKind.i64.wrap (y1 + 1) + 1),x.2.1.2.2.1,x.2.1.2.2.2.1,x.2.1.2.2.2.2.1,x.2.1.2.2.2.2.2.1,x.2.1.2.2.2.2.2.2),x.2.2.1,x.2.2.2.1,x.2.2.2.2)) (Int.toNat y2) fun x => (x.1,(x.2.1.1,x.2.1.2.1,IntKind.i64.wrap (IntKind.i64.wrap (IntKind.i64.wrap (y1 + 1) + 1) + 1),x.2.1.2.2.2.1,x.2.1.2.2.2.2.1,x.2.1.2.2.2.2.2.1,x.2.1.2.2.2.2.2.2),x.2.2.1,x.2.2.2.1,x.2.2.2.2)) (Int.toNat y2) fun x => (x.1,(x.2.1.1,x.2.1.2.1,x.2.1.2.2.1,IntKind.i64.wrap (IntKind.i64.wrap (IntKind.i64.wrap (IntKind.i64.wrap (y1 + 1) + 1) + 1) + 1),x.2.1.2.2.2.2.1,x.2.1.2.2.2.2.2.1,x.2.1.2.2.2.2.2.2),x.2.2.1,x.2.2.2.1,x.2.2.2.2)) (Int.toNat y2) fun x => (x.1,(x.2.1.1,x.2.1.2.1,x.2.1.2.2.1,x.2.1.2.2.2.1,IntKind.i64.wrap (IntKind.i64.wrap (IntKind.i64.wrap (IntKind.i64.wrap (IntKind.i64.wrap (y1 + 1) + 1) + 1) + 1) + 1),x.2.1.2.2.2.2.2.1,x.2.1.2.2.2.2.2.2),x.2.2.1,x.2.2.2.1,x.2.2.2.2)) (Int.toNat y2) fun x => (x.1,(x.2.1.1,x.2.1.2.1,x.2.1.2.2.1,x.2.1.2.2.2.1,x.2.1.2.2.2.2.1,IntKind.i64.wrap (IntKind.i64.wrap (IntKind.i64.wrap (IntKind.i64.wrap (IntKind.i64.wrap (IntKind.i64.wrap (y1 + 1) + 1) + 1) + 1) + 1) + 1),x.2.1.2.2.2.2.2.2),x.2.2.1,x.2.2.2.1,x.2.2.2.2)) (Int.toNat y2) fun x => (x.1,(x.2.1.1,x.2.1.2.1,x.2.1.2.2.1,x.2.1.2.2.2.1,x.2.1.2.2.2.2.1,x.2.1.2.2.2.2.2.1,IntKind.i64.wrap (IntKind.i64.wrap (IntKind.i64.wrap (IntKind.i64.wrap (IntKind.i64.wrap (IntKind.i64.wrap (IntKind.i64.wrap (y1 + 1) + 1) + 1) + 1) + 1) + 1) + 1)),x.2.2.1,x.2.2.2.1,x.2.2.2.2)) (Int.toNat y2) fun x => (x.1,(x.2.1.1,x.2.1.2.1,x.2.1.2.2.1,x.2.1.2.2.2.1,x.2.1.2.2.2.2.1,x.2.1.2.2.2.2.2.1,x.2.1.2.2.2.2.2.2),Int.tmod (IntKind.i64.wrap (IntKind.i64.wrap (IntKind.i64.wrap (IntKind.i64.wrap (IntKind.i64.wrap (IntKind.i64.wrap (IntKind.i64.wrap (IntKind.i64.wrap (y1 + 1) + 1) + 1) + 1) + 1) + 1) + 1) + 1)) (3:Int) == (0:Int),x.2.2.2.1,x.2.2.2.2)) (Int.toNat y2)).2.2.2.1 (IntKind.i64.wrap (IntKind.i64.wrap (IntKind.i64.wrap (IntKind.i64.wrap (IntKind.i64.wrap (IntKind.i64.wrap (IntKind.i64.wrap (IntKind.i64.wrap (IntKind.i64.wrap (y1 + 1) + 1) + 1) + 1) + 1) + 1) + 1) + 1) + 1)))),g_Vw_markIntS_0 (at_ yT0 (updE yT0 (updE yT0 (updE yT0 (updE yT0 (updE yT0 (updE yT0 (updE yT0 (updE yT0 (updE yT0 (updE yT0 y0 (Int.toNat y2) fun x => (y1,(x.2.1.1,x.2.1.2.1,x.2.1.2.2.1,x.2.1.2.2.2.1,x.2.1.2.2.2.2.1,x.2.1.2.2.2.2.2.1,x.2.1.2.2.2.2.2.2),x.2.2.1,x.2.2.2.1,x.2.2.2.2)) (Int.toNat y2) fun x => (x.1,(IntKind.i64.wrap (y1 + 1),x.2.1.2.1,x.2.1.2.2.1,x.2.1.2.2.2.1,x.2.1.2.2.2.2.1,x.2.1.2.2.2.2.2.1,x.2.1.2.2.2.2.2.2),x.2.2.1,x.2.2.2.1,x.2.2.2.2)) (Int.toNat y2) fun x => (x.1,(x.2.1.1,IntKind.i64.wrap (IntKind.i64.wrap (y1 + 1) + 1),x.2.1.2.2.1,x.2.1.2.2.2.1,x.2.1.2.2.2.2.1,x.2.1.2.2.2.2.2.1,x.2.1.2.2.2.2.2.2),x.2.2.1,x.2.2.2.1,x.2.2.2.2)) (Int.toNat y2) fun x => (x.1,(x.2.1.1,x.2.1.2.1,IntKind.i64.wrap (IntKind.i64.wrap (IntKind.i64.wrap (y1 + 1) + 1) + 1),x.2.1.2.2.2.1,x.2.1.2.2.2.2.1,x.2.1.2.2.2.2.2.1,x.2.1.2.2.2.2.2.2),x.2.2.1,x.2.2.2.1,x.2.2.2.2)) (Int.toNat y2) fun x => (x.1,(x.2.1.1,x.2.1.2.1,x.2.1.2.2.1,IntKind.i64.wrap (IntKind.i64.wrap (IntKind.i64.wrap (IntKind.i64.wrap (y1 + 1) + 1) + 1) + 1),x.2.1.2.2.2.2.1,x.2.1.2.2.2.2.2.1,x.2.1.2.2.2.2.2.2),x.2.2.1,x.2.2.2.1,x.2.2.2.2)) (Int.toNat y2) fun x => (x.1,(x.2.1.1,x.2.1.2.1,x.2.1.2.2.1,x.2.1.2.2.2.1,IntKind.i64.wrap (IntKind.i64.wrap (IntKind.i64.wrap (IntKind.i64.wrap (IntKind.i64.wrap (y1 + 1) + 1) + 1) + 1) + 1),x.2.1.2.2.2.2.2.1,x.2.1.2.2.2.2.2.2),x.2.2.1,x.2.2.2.1,x.2.2.2.2)) (Int.toNat y2) fun x => (x.1,(x.2.1.1,x.2.1.2.1,x.2.1.2.2.1,x.2.1.2.2.2.1,x.2.1.2.2.2.2.1,IntKind.i64.wrap (IntKind.i64.wrap (IntKind.i64.wrap (IntKind.i64.wrap (IntKind.i64.wrap (IntKind.i64.wrap (y1 + 1) + 1) + 1) + 1) + 1) + 1),x.2.1.2.2.2.2.2.2),x.2.2.1,x.2.2.2.1,x.2.2.2.2)) (Int.toNat y2) fun x => (x.1,(x.2.1.1,x.2.1.2.1,x.2.1.2.2.1,x.2.1.2.2.2.1,x.2.1.2.2.2.2.1,x.2.1.2.2.2.2.2.1,IntKind.i64.wrap (IntKind.i64.wrap (IntKind.i64.wrap (IntKind.i64.wrap (IntKind.i64.wrap (IntKind.i64.wrap (IntKind.i64.wrap (y1 + 1) + 1) + 1) + 1) + 1) + 1) + 1)),x.2.2.1,x.2.2.2.1,x.2.2.2.2)) (Int.toNat y2) fun x => (x.1,(x.2.1.1,x.2.1.2.1,x.2.1.2.2.1,x.2.1.2.2.2.1,x.2.1.2.2.2.2.1,x.2.1.2.2.2.2.2.1,x.2.1.2.2.2.2.2.2),Int.tmod (IntKind.i64.wrap (IntKind.i64.wrap (IntKind.i64.wrap (IntKind.i64.wrap (IntKind.i64.wrap (IntKind.i64.wrap (IntKind.i64.wrap (IntKind.i64.wrap (y1 + 1) + 1) + 1) + 1) + 1) + 1) + 1) + 1)) (3:Int) == (0:Int),x.2.2.2.1,x.2.2.2.2)) (Int.toNat y2) fun q => (q.1,(q.2.1.1,q.2.1.2.1,q.2.1.2.2.1,q.2.1.2.2.2.1,q.2.1.2.2.2.2.1,q.2.1.2.2.2.2.2.1,q.2.1.2.2.2.2.2.2),q.2.2.1,g_Vw_markIntS_1 q.2.2.2.1 (IntKind.i64.wrap (IntKind.i64.wrap (IntKind.i64.wrap (IntKind.i64.wrap (IntKind.i64.wrap (IntKind.i64.wrap (IntKind.i64.wrap (IntKind.i64.wrap (IntKind.i64.wrap (y1 + 1) + 1) + 1) + 1) + 1) + 1) + 1) + 1) + 1)),q.2.2.2.2)) (Int.toNat y2)).2.2.2.2 (g_Vw_markIntS_0 (at_ yT0 (updE yT0 (updE yT0 (updE yT0 (updE yT0 (updE yT0 (updE yT0 (updE yT0 (updE yT0 (updE yT0 y0 (Int.toNat y2) fun x => (y1,(x.2.1.1,x.2.1.2.1,x.2.1.2.2.1,x.2.1.2.2.2.1,x.2.1.2.2.2.2.1,x.2.1.2.2.2.2.2.1,x.2.1.2.2.2.2.2.2),x.2.2.1,x.2.2.2.1,x.2.2.2.2)) (Int.toNat y2) fun x => (x.1,(IntKind.i64.wrap (y1 + 1),x.2.1.2.1,x.2.1.2.2.1,x.2.1.2.2.2.1,x.2.1.2.2.2.2.1,x.2.1.2.2.2.2.2.1,x.2.1.2.2.2.2.2.2),x.2.2.1,x.2.2.2.1,x.2.2.2.2)) (Int.toNat y2) fun x => (x.1,(x.2.1.1,IntKind.i64.wrap (IntKind.i64.wrap (y1 + 1) + 1),x.2.1.2.2.1,x.2.1.2.2.2.1,x.2.1.2.2.2.2.1,x.2.1.2.2.2.2.2.1,x.2.1.2.2.2.2.2.2),x.2.2.1,x.2.2.2.1,x.2.2.2.2)) (Int.toNat y2) fun x => (x.1,(x.2.1.1,x.2.1.2.1,IntKind.i64.wrap (IntKind.i64.wrap (IntKind.i64.wrap (y1 + 1) + 1) + 1),x.2.1.2.2.2.1,x.2.1.2.2.2.2.1,x.2.1.2.2.2.2.2.1,x.2.1.2.2.2.2.2.2),x.2.2.1,x.2.2.2.1,x.2.2.2.2)) (Int.toNat y2) fun x => (x.1,(x.2.1.1,x.2.1.2.1,x.2.1.2.2.1,IntKind.i64.wrap (IntKind.i64.wrap (IntKind.i64.wrap (IntKind.i64.wrap (y1 + 1) + 1) + 1) + 1),x.2.1.2.2.2.2.1,x.2.1.2.2.2.2.2.1,x.2.1.2.2.2.2.2.2),x.2.2.1,x.2.2.2.1,x.2.2.2.2)) (Int.toNat y2) fun x => (x.1,(x.2.1.1,x.2.1.2.1,x.2.1.2.2.1,x.2.1.2.2.2.1,IntKind.i64.wrap (IntKind.i64.wrap (IntKind.i64.wrap (IntKind.i64.wrap (IntKind.i64.wrap (y1 + 1) + 1) + 1) + 1) + 1),x.2.1.2.2.2.2.2.1,x.2.1.2.2.2.2.2.2),x.2.2.1,x.2.2.2.1,x.2.2.2.2)) (Int.toNat y2) fun x => (x.1,(x.2.1.1,x.2.1.2.1,x.2.1.2.2.1,x.2.1.2.2.2.1,x.2.1.2.2.2.2.1,IntKind.i64.wrap (IntKind.i64.wrap (IntKind.i64.wrap (IntKind.i64.wrap (IntKind.i64.wrap (IntKind.i64.wrap (y1 + 1) + 1) + 1) + 1) + 1) + 1),x.2.1.2.2.2.2.2.2),x.2.2.1,x.2.2.2.1,x.2.2.2.2)) (Int.toNat y2) fun x => (x.1,(x.2.1.1,x.2.1.2.1,x.2.1.2.2.1,x.2.1.2.2.2.1,x.2.1.2.2.2.2.1,x.2.1.2.2.2.2.2.1,IntKind.i64.wrap (IntKind.i64.wrap (IntKind.i64.wrap (IntKind.i64.wrap (IntKind.i64.wrap (IntKind.i64.wrap (IntKind.i64.wrap (y1 + 1) + 1) + 1) + 1) + 1) + 1) + 1)),x.2.2.1,x.2.2.2.1,x.2.2.2.2)) (Int.toNat y2) fun x => (x.1,(x.2.1.1,x.2.1.2.1,x.2.1.2.2.1,x.2.1.2.2.2.1,x.2.1.2.2.2.2.1,x.2.1.2.2.2.2.2.1,x.2.1.2.2.2.2.2.2),Int.tmod (IntKind.i64.wrap (IntKind.i64.wrap (IntKind.i64.wrap (IntKind.i64.wrap (IntKind.i64.wrap (IntKind.i64.wrap (IntKind.i64.wrap (IntKind.i64.wrap (y1 + 1) + 1) + 1) + 1) + 1) + 1) + 1) + 1)) (3:Int) == (0:Int),x.2.2.2.1,x.2.2.2.2)) (Int.toNat y2)).2.2.2.1 (IntKind.i64.wrap (IntKind.i64.wrap (IntKind.i64.wrap (IntKind.i64.wrap (IntKind.i64.wrap (IntKind.i64.wrap (IntKind.i64.wrap (IntKind.i64.wrap (IntKind.i64.wrap (y1 + 1) + 1) + 1) + 1) + 1) + 1) + 1) + 1) + 1))),IntKind.i64.wrap (y2 + 1)))) .bad) .bad) .bad) .bad) .bad) .bad) .bad) .bad) .bad) .bad) .bad) .bad) .bad) .bad) .bad) .bad) .bad) .bad) .bad) .bad) .bad) .bad) .bad) .bad) .bad) .bad) .bad) .bad) .bad) .bad) .bad) .bad) .bad) .bad) .bad) .bad) (.out ((y0,y1)))) .bad
def g_Lw_markFroTxS_0 (x:tL1×Int×Int):Option ((tL1×Int)) := loopO (g_Sw_markFroTxS_0) x
def xw_markFroTxS_0:((tL1×Int)) → Ex×List (Pl×LV) := fun r => (.exit 0,[(.T 0,.t (.val false [.row 0 0 0])),(.R 0 0,.r 0 (some ⟨false,.any,true,73,(.pair (.int .i64) (.pair (.pair (.int .i64) (.pair (.int .i64) (.pair (.int .i64) (.pair (.int .i64) (.pair (.int .i64) (.pair (.int .i64) (.int .i64))))))) (.pair .bool (.pair (.sl 3 (.int .i64)) (.sl 3 (.int .i64)))))),r.1⟩)),(.T 1,.t (.val false [.int .i64 r.2]))])
def Ow_markFroTxS_1:Orc := fun b h => match b,h with
 | 0,[(.T 0,.t (.val false [.row 0 0 0])),(.R 0 0,.r 0 (some ⟨false,.any,true,73,(.pair (.int .i64) (.pair (.pair (.int .i64) (.pair (.int .i64) (.pair (.int .i64) (.pair (.int .i64) (.pair (.int .i64) (.pair (.int .i64) (.int .i64))))))) (.pair .bool (.pair (.sl 3 (.int .i64)) (.sl 3 (.int .i64)))))),y0⟩)),(.T 1,.t (.val false [.int .i64 y1])),(.T 5,.t (.val false [.int .i64 y2]))] => some (okO (g_Lw_markFroTxS_0 (y0,y1,y2)),(.leaf (.exit 0) [(.T 0,.t (.val false [.row 0 0 0])),(.R 0 0,.r 0 (some ⟨false,.any,true,73,(.pair (.int .i64) (.pair (.pair (.int .i64) (.pair (.int .i64) (.pair (.int .i64) (.pair (.int .i64) (.pair (.int .i64) (.pair (.int .i64) (.int .i64))))))) (.pair .bool (.pair (.sl 3 (.int .i64)) (.sl 3 (.int .i64)))))),(valO (g_Lw_markFroTxS_0 (y0,y1,y2))).1⟩)),(.T 1,.t (.val false [.int .i64 (valO (g_Lw_markFroTxS_0 (y0,y1,y2))).2]))]))
 | b,h => Ow_markFroTxS_0 b h
theorem bw_markFroTxS_0 (y0:tL1) (y1:Int) (y2:Int):Tr.bt Ew_markFroTxS Ow_markFroTxS_0 (exec Ew_markFroTxS 0 cw_markFroTxS_0 (St.of (hw_markFroTxS_0 y0 y1 y2)) (leafRd Ew_markFroTxS 0)) = (g_Sw_markFroTxS_0 (y0,y1,y2)).bt (fun ((y0,y1,y2):tL1×Int×Int) => (hw_markFroTxS_0 y0 y1 y2)) (xw_markFroTxS_0) := by kernel_rfl
theorem kw_markFroTxS_1:OrcOk Ew_markFroTxS Ow_markFroTxS_1 lsw_markFroTxS 1 := orc_add kw_markFroTxS_0 (fun n p hp h ex h' ho => by
 obtain ⟨b,c⟩ := p
 obtain ⟨xt,h1,h2⟩ := ho
 have h1:Ow_markFroTxS_1 b h = some (true,xt) := h1
 unfold Ow_markFroTxS_1 at h1
 split at h1
 ·injection h1 with h1
  injection h1 with e1 e2
  subst e2
  have hc:c = cw_markFroTxS_0 := mw_markFroTxS_0 _ hp rfl
  subst hc
  right
  rename_i y0 y1 y2
  have key := LT_step kw_markFroTxS_0 hp (fun q hq => loopsAll_in _ _ _ _ hp hq) (fun ((y0,y1,y2):tL1×Int×Int) => (hw_markFroTxS_0 y0 y1 y2)) (xw_markFroTxS_0) (g_Sw_markFroTxS_0) (fun x => by first | exact bw_markFroTxS_0 x.1 x.2.1 x.2.2) n (x := (y0,y1,y2)) (okO_some e1)
  have hx:∀ r,XT.sel (.leaf (.exit 0) [(.T 0,.t (.val false [.row 0 0 0])),(.R 0 0,.r 0 (some ⟨false,.any,true,73,(.pair (.int .i64) (.pair (.pair (.int .i64) (.pair (.int .i64) (.pair (.int .i64) (.pair (.int .i64) (.pair (.int .i64) (.pair (.int .i64) (.int .i64))))))) (.pair .bool (.pair (.sl 3 (.int .i64)) (.sl 3 (.int .i64)))))),r.1⟩)),(.T 1,.t (.val false [.int .i64 r.2]))]) = xw_markFroTxS_0 r := fun r => by first | rfl | rcases r with r | r <;> rfl | rcases r with r | r | r <;> rfl | rcases r with r | r | r | r <;> rfl
  have h3 := (hx (valO (g_Lw_markFroTxS_0 (y0,y1,y2)))).symm.trans h2
  have e3 := congrArg Prod.fst h3
  have e4 := congrArg Prod.snd h3
  simp only at e3 e4
  rw [← e3,← e4]
  exact key
 ·exact .inl ⟨xt,h1,h2⟩)
def g_Aw_markFroTxS (a0:tL1) (a1:Int):Bool := okO (g_Lw_markFroTxS_0 (a0,a1,(0:Int)))
def g_Vw_markFroTxS_0 (a0:tL1) (a1:Int):Int := (valO (g_Lw_markFroTxS_0 (a0,a1,(0:Int)))).2
def g_Vw_markFroTxS_1 (a0:tL1) (a1:Int):tL1 := (valO (g_Lw_markFroTxS_0 (a0,a1,(0:Int)))).1
def Fw_markFroTxS:FSem := fun ys => match ys with
 | [.val false [.own .any true 73 (.pair (.int .i64) (.pair (.pair (.int .i64) (.pair (.int .i64) (.pair (.int .i64) (.pair (.int .i64) (.pair (.int .i64) (.pair (.int .i64) (.int .i64))))))) (.pair .bool (.pair (.sl 3 (.int .i64)) (.sl 3 (.int .i64)))))) a0],.val false [.int .i64 a1]] => some ((g_Aw_markFroTxS a0 a1),.val false [.int .i64 (g_Vw_markFroTxS_0 a0 a1)],[[.own .any true 73 (.pair (.int .i64) (.pair (.pair (.int .i64) (.pair (.int .i64) (.pair (.int .i64) (.pair (.int .i64) (.pair (.int .i64) (.pair (.int .i64) (.int .i64))))))) (.pair .bool (.pair (.sl 3 (.int .i64)) (.sl 3 (.int .i64)))))) (g_Vw_markFroTxS_1 a0 a1)]])
 | _ => none
theorem vw_markFroTxS (a0:tL1) (a1:Int):collapseH .std Ew_markFroTxS Ow_markFroTxS_1 (execFn Ew_markFroTxS Tryz.f45 msw_markFroTxS [.val false [.own .any true 73 (.pair (.int .i64) (.pair (.pair (.int .i64) (.pair (.int .i64) (.pair (.int .i64) (.pair (.int .i64) (.pair (.int .i64) (.pair (.int .i64) (.int .i64))))))) (.pair .bool (.pair (.sl 3 (.int .i64)) (.sl 3 (.int .i64)))))) a0],.val false [.int .i64 a1]]) = some ((g_Aw_markFroTxS a0 a1),.val false [.int .i64 (g_Vw_markFroTxS_0 a0 a1)],[[.own .any true 73 (.pair (.int .i64) (.pair (.pair (.int .i64) (.pair (.int .i64) (.pair (.int .i64) (.pair (.int .i64) (.pair (.int .i64) (.pair (.int .i64) (.int .i64))))))) (.pair .bool (.pair (.sl 3 (.int .i64)) (.sl 3 (.int .i64)))))) (g_Vw_markFroTxS_1 a0 a1)]]) := by kernel_rfl
theorem sw_markFroTxS:Sound Tryz.prog 45 msw_markFroTxS Fw_markFroTxS := by
 refine fn_gen goodw_markFroTxS (by kernel_rfl) .std (fn := Tryz.f45) (c := (Tryz.f45.body.getD .skip)) (o := Ow_markFroTxS_1) (k := 1) (by kernel_rfl) (by kernel_rfl) (by kernel_rfl) (by kernel_rfl) (by decide) kw_markFroTxS_1 ?_
 intro ys r outs h
 unfold Fw_markFroTxS at h
 split at h
 ·exact (vw_markFroTxS _ _).trans h
 ·cases h
def Ew_markStoWriteS:Env where
 tt := mkTI Tryz.prog
 fn := fun f => match f with
  | 106 => some (msw_markIntS,FSem.wk msw_markIntS Fw_markIntS)
  | 168 => some (msw_markText,FSem.wk msw_markText Fw_markText)
  | _ => none
 bxf := fun _ => none
 mv := []
 keep := fun b => match b with
  | 0 => [(0,false),(1,false),(5,false)]
  | _ => []
 keepB := fun b => match b with
  | 0 => []
  | _ => []
 keepX := fun b => match b with
  | 0 => [(0,false),(1,false)]
  | _ => []
 keepXB := fun b => match b with
  | 0 => []
  | _ => []
 nest := [33]
theorem goodFw_markStoWriteS:∀ f ms F,Ew_markStoWriteS.fn f = some (ms,F) → Sound Tryz.prog f ms F := fun f ms F h => by
 unfold Ew_markStoWriteS at h
 dsimp only at h
 split at h
 ·exact gF sw_markIntS h
 ·exact gF sw_markText h
 ·cases h
theorem goodw_markStoWriteS:Good Tryz.prog Ew_markStoWriteS := ⟨rfl,goodFw_markStoWriteS,fun f ms F h => by cases h⟩
def Ow_markStoWriteS_0:Orc := fun _ _ => none
def msw_markStoWriteS:List PM := [.«mut»,.own]
def lsw_markStoWriteS:List (Nat×Code) := loopsAll 0 (Tryz.f144.body.getD .skip)
def cw_markStoWriteS_0:Code := (loopOf 0 (Tryz.f144.body.getD .skip)).getD .skip
theorem lseqw_markStoWriteS:lsw_markStoWriteS = [(0,cw_markStoWriteS_0)] := by kernel_rfl
theorem mw_markStoWriteS_0:∀ p,p ∈ lsw_markStoWriteS → p.1 = 0 → p.2 = cw_markStoWriteS_0 := by
 intro p hp
 rw [lseqw_markStoWriteS] at hp
 simp only [List.mem_cons,List.not_mem_nil,or_false] at hp
 subst hp; simp
theorem kw_markStoWriteS_0:OrcOk Ew_markStoWriteS Ow_markStoWriteS_0 lsw_markStoWriteS 0 := orcOk_none
def hw_markStoWriteS_0 (y0:tL2) (y1:Int) (y2:Int):List (Pl×LV) := [(.T 0,.t (.val false [.row 0 0 0])),(.R 0 0,.r 0 (some ⟨false,.any,true,155,(.pair .str (.pair .bool (.sl 3 (.int .i64)))),y0⟩)),(.T 1,.t (.val false [.int .i64 y1])),(.T 5,.t (.val false [.int .i64 y2]))]
def g_Sw_markStoWriteS_0:(tL2×Int×Int) → RT (tL2×Int×Int) ((tL2×Int))
 | (y0,y1,y2) => .br (true) (.br (decide (y2 < (y0.length:Int))) (.br (g_Aw_markText y1) (.br (decide (0 ≤ y2 ∧ y2 < (y0.length:Int))) (.br (decide (Int.toNat y2 < List.length y0)) (.br (true) (.br (true) (.br (true) (.br (decide (0 ≤ y2 ∧ y2 < (↑(List.length (updE yT3 y0 (Int.toNat y2) fun x => (g_Vw_markText_0 y1,x.2.1,x.2.2))):Int))) (.br (decide (Int.toNat y2 < List.length (updE yT3 y0 (Int.toNat y2) fun x => (g_Vw_markText_0 y1,x.2.1,x.2.2)))) (.br (true) (.br (decide (0 ≤ y2 ∧ y2 < (↑(List.length (updE yT3 (updE yT3 y0 (Int.toNat y2) fun x => (g_Vw_markText_0 y1,x.2.1,x.2.2)) (Int.toNat y2) fun x => (x.1,Int.tmod (IntKind.i64.wrap (y1 + 1)) (3:Int) == (0:Int),x.2.2))):Int))) (.br (decide (Int.toNat y2 < List.length (updE yT3 (updE yT3 y0 (Int.toNat y2) fun x => (g_Vw_markText_0 y1,x.2.1,x.2.2)) (Int.toNat y2) fun x => (x.1,Int.tmod (IntKind.i64.wrap (y1 + 1)) (3:Int) == (0:Int),x.2.2)))) (.br (g_Aw_markIntS (at_ yT3 (updE yT3 (updE yT3 y0 (Int.toNat y2) fun x => (g_Vw_markText_0 y1,x.2.1,x.2.2)) (Int.toNat y2) fun x => (x.1,Int.tmod (IntKind.i64.wrap (y1 + 1)) (3:Int) == (0:Int),x.2.2)) (Int.toNat y2)).2.2 (IntKind.i64.wrap (IntKind.i64.wrap (y1 + 1) + 1))) (.br (true) (.go ((updE yT3 (updE yT3 (updE yT3 y0 (Int.toNat y2) fun x => (g_Vw_markText_0 y1,x.2.1,x.2.2)) (Int.toNat y2) fun x => (x.1,Int.tmod (IntKind.i64.wrap (y1 + 1)) (3:Int) == (0:Int),x.2.2)) (Int.toNat y2) fun q => (q.1,q.2.1,g_Vw_markIntS_1 q.2.2 (IntKind.i64.wrap (IntKind.i64.wrap (y1 + 1) + 1))),g_Vw_markIntS_0 (at_ yT3 (updE yT3 (updE yT3 y0 (Int.toNat y2) fun x => (g_Vw_markText_0 y1,x.2.1,x.2.2)) (Int.toNat y2) fun x => (x.1,Int.tmod (IntKind.i64.wrap (y1 + 1)) (3:Int) == (0:Int),x.2.2)) (Int.toNat y2)).2.2 (IntKind.i64.wrap (IntKind.i64.wrap (y1 + 1) + 1)),IntKind.i64.wrap (y2 + 1)))) .bad) .bad) .bad) .bad) .bad) .bad) .bad) .bad) .bad) .bad) .bad) .bad) .bad) (.out ((y0,y1)))) .bad
def g_Lw_markStoWriteS_0 (x:tL2×Int×Int):Option ((tL2×Int)) := loopO (g_Sw_markStoWriteS_0) x
def xw_markStoWriteS_0:((tL2×Int)) → Ex×List (Pl×LV) := fun r => (.exit 0,[(.T 0,.t (.val false [.row 0 0 0])),(.R 0 0,.r 0 (some ⟨false,.any,true,155,(.pair .str (.pair .bool (.sl 3 (.int .i64)))),r.1⟩)),(.T 1,.t (.val false [.int .i64 r.2]))])
def Ow_markStoWriteS_1:Orc := fun b h => match b,h with
 | 0,[(.T 0,.t (.val false [.row 0 0 0])),(.R 0 0,.r 0 (some ⟨false,.any,true,155,(.pair .str (.pair .bool (.sl 3 (.int .i64)))),y0⟩)),(.T 1,.t (.val false [.int .i64 y1])),(.T 5,.t (.val false [.int .i64 y2]))] => some (okO (g_Lw_markStoWriteS_0 (y0,y1,y2)),(.leaf (.exit 0) [(.T 0,.t (.val false [.row 0 0 0])),(.R 0 0,.r 0 (some ⟨false,.any,true,155,(.pair .str (.pair .bool (.sl 3 (.int .i64)))),(valO (g_Lw_markStoWriteS_0 (y0,y1,y2))).1⟩)),(.T 1,.t (.val false [.int .i64 (valO (g_Lw_markStoWriteS_0 (y0,y1,y2))).2]))]))
 | b,h => Ow_markStoWriteS_0 b h
theorem bw_markStoWriteS_0 (y0:tL2) (y1:Int) (y2:Int):Tr.bt Ew_markStoWriteS Ow_markStoWriteS_0 (exec Ew_markStoWriteS 0 cw_markStoWriteS_0 (St.of (hw_markStoWriteS_0 y0 y1 y2)) (leafRd Ew_markStoWriteS 0)) = (g_Sw_markStoWriteS_0 (y0,y1,y2)).bt (fun ((y0,y1,y2):tL2×Int×Int) => (hw_markStoWriteS_0 y0 y1 y2)) (xw_markStoWriteS_0) := by kernel_rfl
theorem kw_markStoWriteS_1:OrcOk Ew_markStoWriteS Ow_markStoWriteS_1 lsw_markStoWriteS 1 := orc_add kw_markStoWriteS_0 (fun n p hp h ex h' ho => by
 obtain ⟨b,c⟩ := p
 obtain ⟨xt,h1,h2⟩ := ho
 have h1:Ow_markStoWriteS_1 b h = some (true,xt) := h1
 unfold Ow_markStoWriteS_1 at h1
 split at h1
 ·injection h1 with h1
  injection h1 with e1 e2
  subst e2
  have hc:c = cw_markStoWriteS_0 := mw_markStoWriteS_0 _ hp rfl
  subst hc
  right
  rename_i y0 y1 y2
  have key := LT_step kw_markStoWriteS_0 hp (fun q hq => loopsAll_in _ _ _ _ hp hq) (fun ((y0,y1,y2):tL2×Int×Int) => (hw_markStoWriteS_0 y0 y1 y2)) (xw_markStoWriteS_0) (g_Sw_markStoWriteS_0) (fun x => by first | exact bw_markStoWriteS_0 x.1 x.2.1 x.2.2) n (x := (y0,y1,y2)) (okO_some e1)
  have hx:∀ r,XT.sel (.leaf (.exit 0) [(.T 0,.t (.val false [.row 0 0 0])),(.R 0 0,.r 0 (some ⟨false,.any,true,155,(.pair .str (.pair .bool (.sl 3 (.int .i64)))),r.1⟩)),(.T 1,.t (.val false [.int .i64 r.2]))]) = xw_markStoWriteS_0 r := fun r => by first | rfl | rcases r with r | r <;> rfl | rcases r with r | r | r <;> rfl | rcases r with r | r | r | r <;> rfl
  have h3 := (hx (valO (g_Lw_markStoWriteS_0 (y0,y1,y2)))).symm.trans h2
  have e3 := congrArg Prod.fst h3
  have e4 := congrArg Prod.snd h3
  simp only at e3 e4
  rw [← e3,← e4]
  exact key
 ·exact .inl ⟨xt,h1,h2⟩)
def g_Aw_markStoWriteS (a0:tL2) (a1:Int):Bool := okO (g_Lw_markStoWriteS_0 (a0,a1,(0:Int)))
def g_Vw_markStoWriteS_0 (a0:tL2) (a1:Int):Int := (valO (g_Lw_markStoWriteS_0 (a0,a1,(0:Int)))).2
def g_Vw_markStoWriteS_1 (a0:tL2) (a1:Int):tL2 := (valO (g_Lw_markStoWriteS_0 (a0,a1,(0:Int)))).1
def Fw_markStoWriteS:FSem := fun ys => match ys with
 | [.val false [.own .any true 155 (.pair .str (.pair .bool (.sl 3 (.int .i64)))) a0],.val false [.int .i64 a1]] => some ((g_Aw_markStoWriteS a0 a1),.val false [.int .i64 (g_Vw_markStoWriteS_0 a0 a1)],[[.own .any true 155 (.pair .str (.pair .bool (.sl 3 (.int .i64)))) (g_Vw_markStoWriteS_1 a0 a1)]])
 | _ => none
theorem vw_markStoWriteS (a0:tL2) (a1:Int):collapseH .std Ew_markStoWriteS Ow_markStoWriteS_1 (execFn Ew_markStoWriteS Tryz.f144 msw_markStoWriteS [.val false [.own .any true 155 (.pair .str (.pair .bool (.sl 3 (.int .i64)))) a0],.val false [.int .i64 a1]]) = some ((g_Aw_markStoWriteS a0 a1),.val false [.int .i64 (g_Vw_markStoWriteS_0 a0 a1)],[[.own .any true 155 (.pair .str (.pair .bool (.sl 3 (.int .i64)))) (g_Vw_markStoWriteS_1 a0 a1)]]) := by kernel_rfl
theorem sw_markStoWriteS:Sound Tryz.prog 144 msw_markStoWriteS Fw_markStoWriteS := by
 refine fn_gen goodw_markStoWriteS (by kernel_rfl) .std (fn := Tryz.f144) (c := (Tryz.f144.body.getD .skip)) (o := Ow_markStoWriteS_1) (k := 1) (by kernel_rfl) (by kernel_rfl) (by kernel_rfl) (by kernel_rfl) (by decide) kw_markStoWriteS_1 ?_
 intro ys r outs h
 unfold Fw_markStoWriteS at h
 split at h
 ·exact (vw_markStoWriteS _ _).trans h
 ·cases h
def Ew_markStringS:Env where
 tt := mkTI Tryz.prog
 fn := fun f => match f with
  | 168 => some (msw_markText,FSem.wk msw_markText Fw_markText)
  | _ => none
 bxf := fun _ => none
 mv := []
 keep := fun b => match b with
  | 0 => [(0,false),(1,false),(5,false)]
  | _ => []
 keepB := fun b => match b with
  | 0 => []
  | _ => []
 keepX := fun b => match b with
  | 0 => [(0,false),(1,false)]
  | _ => []
 keepXB := fun b => match b with
  | 0 => []
  | _ => []
theorem goodFw_markStringS:∀ f ms F,Ew_markStringS.fn f = some (ms,F) → Sound Tryz.prog f ms F := fun f ms F h => by
 unfold Ew_markStringS at h
 dsimp only at h
 split at h
 ·exact gF sw_markText h
 ·cases h
theorem goodw_markStringS:Good Tryz.prog Ew_markStringS := ⟨rfl,goodFw_markStringS,fun f ms F h => by cases h⟩
def Ow_markStringS_0:Orc := fun _ _ => none
def msw_markStringS:List PM := [.«mut»,.own]
def lsw_markStringS:List (Nat×Code) := loopsAll 0 (Tryz.f143.body.getD .skip)
def cw_markStringS_0:Code := (loopOf 0 (Tryz.f143.body.getD .skip)).getD .skip
theorem lseqw_markStringS:lsw_markStringS = [(0,cw_markStringS_0)] := by kernel_rfl
theorem mw_markStringS_0:∀ p,p ∈ lsw_markStringS → p.1 = 0 → p.2 = cw_markStringS_0 := by
 intro p hp
 rw [lseqw_markStringS] at hp
 simp only [List.mem_cons,List.not_mem_nil,or_false] at hp
 subst hp; simp
theorem kw_markStringS_0:OrcOk Ew_markStringS Ow_markStringS_0 lsw_markStringS 0 := orcOk_none
def hw_markStringS_0 (y0:List ByteArray) (y1:Int) (y2:Int):List (Pl×LV) := [(.T 0,.t (.val false [.row 0 0 0])),(.R 0 0,.r 0 (some ⟨false,.any,true,9,.str,y0⟩)),(.T 1,.t (.val false [.int .i64 y1])),(.T 5,.t (.val false [.int .i64 y2]))]
def g_Sw_markStringS_0:((List ByteArray)×Int×Int) → RT ((List ByteArray)×Int×Int) (((List ByteArray)×Int))
 | (y0,y1,y2) => .br (true) (.br (decide (y2 < (y0.length:Int))) (.br (g_Aw_markText y1) (.br (decide (0 ≤ y2 ∧ y2 < (y0.length:Int))) (.br (decide (Int.toNat y2 < List.length y0)) (.br (true) (.br (true) (.go ((List.set y0 (Int.toNat y2) (g_Vw_markText_0 y1),IntKind.i64.wrap (y1 + 1),IntKind.i64.wrap (y2 + 1)))) .bad) .bad) .bad) .bad) .bad) (.out ((y0,y1)))) .bad
def g_Lw_markStringS_0 (x:(List ByteArray)×Int×Int):Option (((List ByteArray)×Int)) := loopO (g_Sw_markStringS_0) x
def xw_markStringS_0:(((List ByteArray)×Int)) → Ex×List (Pl×LV) := fun r => (.exit 0,[(.T 0,.t (.val false [.row 0 0 0])),(.R 0 0,.r 0 (some ⟨false,.any,true,9,.str,r.1⟩)),(.T 1,.t (.val false [.int .i64 r.2]))])
def Ow_markStringS_1:Orc := fun b h => match b,h with
 | 0,[(.T 0,.t (.val false [.row 0 0 0])),(.R 0 0,.r 0 (some ⟨false,.any,true,9,.str,y0⟩)),(.T 1,.t (.val false [.int .i64 y1])),(.T 5,.t (.val false [.int .i64 y2]))] => some (okO (g_Lw_markStringS_0 (y0,y1,y2)),(.leaf (.exit 0) [(.T 0,.t (.val false [.row 0 0 0])),(.R 0 0,.r 0 (some ⟨false,.any,true,9,.str,(valO (g_Lw_markStringS_0 (y0,y1,y2))).1⟩)),(.T 1,.t (.val false [.int .i64 (valO (g_Lw_markStringS_0 (y0,y1,y2))).2]))]))
 | b,h => Ow_markStringS_0 b h
theorem bw_markStringS_0 (y0:List ByteArray) (y1:Int) (y2:Int):Tr.bt Ew_markStringS Ow_markStringS_0 (exec Ew_markStringS 0 cw_markStringS_0 (St.of (hw_markStringS_0 y0 y1 y2)) (leafRd Ew_markStringS 0)) = (g_Sw_markStringS_0 (y0,y1,y2)).bt (fun ((y0,y1,y2):(List ByteArray)×Int×Int) => (hw_markStringS_0 y0 y1 y2)) (xw_markStringS_0) := by kernel_rfl
theorem kw_markStringS_1:OrcOk Ew_markStringS Ow_markStringS_1 lsw_markStringS 1 := orc_add kw_markStringS_0 (fun n p hp h ex h' ho => by
 obtain ⟨b,c⟩ := p
 obtain ⟨xt,h1,h2⟩ := ho
 have h1:Ow_markStringS_1 b h = some (true,xt) := h1
 unfold Ow_markStringS_1 at h1
 split at h1
 ·injection h1 with h1
  injection h1 with e1 e2
  subst e2
  have hc:c = cw_markStringS_0 := mw_markStringS_0 _ hp rfl
  subst hc
  right
  rename_i y0 y1 y2
  have key := LT_step kw_markStringS_0 hp (fun q hq => loopsAll_in _ _ _ _ hp hq) (fun ((y0,y1,y2):(List ByteArray)×Int×Int) => (hw_markStringS_0 y0 y1 y2)) (xw_markStringS_0) (g_Sw_markStringS_0) (fun x => by first | exact bw_markStringS_0 x.1 x.2.1 x.2.2) n (x := (y0,y1,y2)) (okO_some e1)
  have hx:∀ r,XT.sel (.leaf (.exit 0) [(.T 0,.t (.val false [.row 0 0 0])),(.R 0 0,.r 0 (some ⟨false,.any,true,9,.str,r.1⟩)),(.T 1,.t (.val false [.int .i64 r.2]))]) = xw_markStringS_0 r := fun r => by first | rfl | rcases r with r | r <;> rfl | rcases r with r | r | r <;> rfl | rcases r with r | r | r | r <;> rfl
  have h3 := (hx (valO (g_Lw_markStringS_0 (y0,y1,y2)))).symm.trans h2
  have e3 := congrArg Prod.fst h3
  have e4 := congrArg Prod.snd h3
  simp only at e3 e4
  rw [← e3,← e4]
  exact key
 ·exact .inl ⟨xt,h1,h2⟩)
def g_Aw_markStringS (a0:List ByteArray) (a1:Int):Bool := okO (g_Lw_markStringS_0 (a0,a1,(0:Int)))
def g_Vw_markStringS_0 (a0:List ByteArray) (a1:Int):Int := (valO (g_Lw_markStringS_0 (a0,a1,(0:Int)))).2
def g_Vw_markStringS_1 (a0:List ByteArray) (a1:Int):List ByteArray := (valO (g_Lw_markStringS_0 (a0,a1,(0:Int)))).1
def Fw_markStringS:FSem := fun ys => match ys with
 | [.val false [.own .any true 9 .str a0],.val false [.int .i64 a1]] => some ((g_Aw_markStringS a0 a1),.val false [.int .i64 (g_Vw_markStringS_0 a0 a1)],[[.own .any true 9 .str (g_Vw_markStringS_1 a0 a1)]])
 | _ => none
theorem vw_markStringS (a0:List ByteArray) (a1:Int):collapseH .std Ew_markStringS Ow_markStringS_1 (execFn Ew_markStringS Tryz.f143 msw_markStringS [.val false [.own .any true 9 .str a0],.val false [.int .i64 a1]]) = some ((g_Aw_markStringS a0 a1),.val false [.int .i64 (g_Vw_markStringS_0 a0 a1)],[[.own .any true 9 .str (g_Vw_markStringS_1 a0 a1)]]) := by kernel_rfl
theorem sw_markStringS:Sound Tryz.prog 143 msw_markStringS Fw_markStringS := by
 refine fn_gen goodw_markStringS (by kernel_rfl) .std (fn := Tryz.f143) (c := (Tryz.f143.body.getD .skip)) (o := Ow_markStringS_1) (k := 1) (by kernel_rfl) (by kernel_rfl) (by kernel_rfl) (by kernel_rfl) (by decide) kw_markStringS_1 ?_
 intro ys r outs h
 unfold Fw_markStringS at h
 split at h
 ·exact (vw_markStringS _ _).trans h
 ·cases h
def Ew_markLogNoteS:Env where
 tt := mkTI Tryz.prog
 fn := fun f => match f with
  | 143 => some (msw_markStringS,FSem.wk msw_markStringS Fw_markStringS)
  | 144 => some (msw_markStoWriteS,FSem.wk msw_markStoWriteS Fw_markStoWriteS)
  | _ => none
 bxf := fun _ => none
 mv := []
 keep := fun b => match b with
  | 0 => [(0,false),(1,false),(5,false)]
  | _ => []
 keepB := fun b => match b with
  | 0 => []
  | _ => []
 keepX := fun b => match b with
  | 0 => [(0,false),(1,false)]
  | _ => []
 keepXB := fun b => match b with
  | 0 => []
  | _ => []
 nest := [30,37]
theorem goodFw_markLogNoteS:∀ f ms F,Ew_markLogNoteS.fn f = some (ms,F) → Sound Tryz.prog f ms F := fun f ms F h => by
 unfold Ew_markLogNoteS at h
 dsimp only at h
 split at h
 ·exact gF sw_markStringS h
 ·exact gF sw_markStoWriteS h
 ·cases h
theorem goodw_markLogNoteS:Good Tryz.prog Ew_markLogNoteS := ⟨rfl,goodFw_markLogNoteS,fun f ms F h => by cases h⟩
def Ow_markLogNoteS_0:Orc := fun _ _ => none
def msw_markLogNoteS:List PM := [.«mut»,.own]
def lsw_markLogNoteS:List (Nat×Code) := loopsAll 0 (Tryz.f105.body.getD .skip)
def cw_markLogNoteS_0:Code := (loopOf 0 (Tryz.f105.body.getD .skip)).getD .skip
theorem lseqw_markLogNoteS:lsw_markLogNoteS = [(0,cw_markLogNoteS_0)] := by kernel_rfl
theorem mw_markLogNoteS_0:∀ p,p ∈ lsw_markLogNoteS → p.1 = 0 → p.2 = cw_markLogNoteS_0 := by
 intro p hp
 rw [lseqw_markLogNoteS] at hp
 simp only [List.mem_cons,List.not_mem_nil,or_false] at hp
 subst hp; simp
theorem kw_markLogNoteS_0:OrcOk Ew_markLogNoteS Ow_markLogNoteS_0 lsw_markLogNoteS 0 := orcOk_none
def hw_markLogNoteS_0 (y0:tL0) (y1:Int) (y2:Int):List (Pl×LV) := [(.T 0,.t (.val false [.row 0 0 0])),(.R 0 0,.r 0 (some ⟨false,.any,true,92,(.pair (.int .i64) (.pair (.int .i64) (.pair (.sl 9 .str) (.sl 155 (.pair .str (.pair .bool (.sl 3 (.int .i64)))))))),y0⟩)),(.T 1,.t (.val false [.int .i64 y1])),(.T 5,.t (.val false [.int .i64 y2]))]
def g_Sw_markLogNoteS_0:(tL0×Int×Int) → RT (tL0×Int×Int) ((tL0×Int))
 | (y0,y1,y2) => .br (true) (.br (decide (y2 < (y0.length:Int))) (.br (decide (0 ≤ y2 ∧ y2 < (y0.length:Int))) (.br (decide (Int.toNat y2 < List.length y0)) (.br (true) (.br (decide (0 ≤ y2 ∧ y2 < (↑(List.length (updE yT2 y0 (Int.toNat y2) fun x => (y1,x.2.1,x.2.2.1,x.2.2.2))):Int))) (.br (decide (Int.toNat y2 < List.length (updE yT2 y0 (Int.toNat y2) fun x => (y1,x.2.1,x.2.2.1,x.2.2.2)))) (.br (true) (.br (decide (0 ≤ y2 ∧ y2 < (↑(List.length (updE yT2 (updE yT2 y0 (Int.toNat y2) fun x => (y1,x.2.1,x.2.2.1,x.2.2.2)) (Int.toNat y2) fun x => (x.1,IntKind.i64.wrap (y1 + 1),x.2.2.1,x.2.2.2))):Int))) (.br (decide (Int.toNat y2 < List.length (updE yT2 (updE yT2 y0 (Int.toNat y2) fun x => (y1,x.2.1,x.2.2.1,x.2.2.2)) (Int.toNat y2) fun x => (x.1,IntKind.i64.wrap (y1 + 1),x.2.2.1,x.2.2.2)))) (.br (g_Aw_markStringS (at_ yT2 (updE yT2 (updE yT2 y0 (Int.toNat y2) fun x => (y1,x.2.1,x.2.2.1,x.2.2.2)) (Int.toNat y2) fun x => (x.1,IntKind.i64.wrap (y1 + 1),x.2.2.1,x.2.2.2)) (Int.toNat y2)).2.2.1 (IntKind.i64.wrap (IntKind.i64.wrap (y1 + 1) + 1))) (.br (decide (0 ≤ y2 ∧ y2 < (↑(List.length (updE yT2 (updE yT2 (updE yT2 y0 (Int.toNat y2) fun x => (y1,x.2.1,x.2.2.1,x.2.2.2)) (Int.toNat y2) fun x => (x.1,IntKind.i64.wrap (y1 + 1),x.2.2.1,x.2.2.2)) (Int.toNat y2) fun q => (q.1,q.2.1,g_Vw_markStringS_1 q.2.2.1 (IntKind.i64.wrap (IntKind.i64.wrap (y1 + 1) + 1)),q.2.2.2))):Int))) (.br (decide (Int.toNat y2 < List.length (updE yT2 (updE yT2 (updE yT2 y0 (Int.toNat y2) fun x => (y1,x.2.1,x.2.2.1,x.2.2.2)) (Int.toNat y2) fun x => (x.1,IntKind.i64.wrap (y1 + 1),x.2.2.1,x.2.2.2)) (Int.toNat y2) fun q => (q.1,q.2.1,g_Vw_markStringS_1 q.2.2.1 (IntKind.i64.wrap (IntKind.i64.wrap (y1 + 1) + 1)),q.2.2.2)))) (.br (g_Aw_markStoWriteS (at_ yT2 (updE yT2 (updE yT2 (updE yT2 y0 (Int.toNat y2) fun x => (y1,x.2.1,x.2.2.1,x.2.2.2)) (Int.toNat y2) fun x => (x.1,IntKind.i64.wrap (y1 + 1),x.2.2.1,x.2.2.2)) (Int.toNat y2) fun q => (q.1,q.2.1,g_Vw_markStringS_1 q.2.2.1 (IntKind.i64.wrap (IntKind.i64.wrap (y1 + 1) + 1)),q.2.2.2)) (Int.toNat y2)).2.2.2 (g_Vw_markStringS_0 (at_ yT2 (updE yT2 (updE yT2 y0 (Int.toNat y2) fun x => (y1,x.2.1,x.2.2.1,x.2.2.2)) (Int.toNat y2) fun x => (x.1,IntKind.i64.wrap (y1 + 1),x.2.2.1,x.2.2.2)) (Int.toNat y2)).2.2.1 (IntKind.i64.wrap (IntKind.i64.wrap (y1 + 1) + 1)))) (.br (true) (.go ((updE yT2 (updE yT2 (updE yT2 (updE yT2 y0 (Int.toNat y2) fun x => (y1,x.2.1,x.2.2.1,x.2.2.2)) (Int.toNat y2) fun x => (x.1,IntKind.i64.wrap (y1 + 1),x.2.2.1,x.2.2.2)) (Int.toNat y2) fun q => (q.1,q.2.1,g_Vw_markStringS_1 q.2.2.1 (IntKind.i64.wrap (IntKind.i64.wrap (y1 + 1) + 1)),q.2.2.2)) (Int.toNat y2) fun q => (q.1,q.2.1,q.2.2.1,g_Vw_markStoWriteS_1 q.2.2.2 (g_Vw_markStringS_0 (at_ yT2 (updE yT2 (updE yT2 y0 (Int.toNat y2) fun x => (y1,x.2.1,x.2.2.1,x.2.2.2)) (Int.toNat y2) fun x => (x.1,IntKind.i64.wrap (y1 + 1),x.2.2.1,x.2.2.2)) (Int.toNat y2)).2.2.1 (IntKind.i64.wrap (IntKind.i64.wrap (y1 + 1) + 1)))),g_Vw_markStoWriteS_0 (at_ yT2 (updE yT2 (updE yT2 (updE yT2 y0 (Int.toNat y2) fun x => (y1,x.2.1,x.2.2.1,x.2.2.2)) (Int.toNat y2) fun x => (x.1,IntKind.i64.wrap (y1 + 1),x.2.2.1,x.2.2.2)) (Int.toNat y2) fun q => (q.1,q.2.1,g_Vw_markStringS_1 q.2.2.1 (IntKind.i64.wrap (IntKind.i64.wrap (y1 + 1) + 1)),q.2.2.2)) (Int.toNat y2)).2.2.2 (g_Vw_markStringS_0 (at_ yT2 (updE yT2 (updE yT2 y0 (Int.toNat y2) fun x => (y1,x.2.1,x.2.2.1,x.2.2.2)) (Int.toNat y2) fun x => (x.1,IntKind.i64.wrap (y1 + 1),x.2.2.1,x.2.2.2)) (Int.toNat y2)).2.2.1 (IntKind.i64.wrap (IntKind.i64.wrap (y1 + 1) + 1))),IntKind.i64.wrap (y2 + 1)))) .bad) .bad) .bad) .bad) .bad) .bad) .bad) .bad) .bad) .bad) .bad) .bad) .bad) (.out ((y0,y1)))) .bad
def g_Lw_markLogNoteS_0 (x:tL0×Int×Int):Option ((tL0×Int)) := loopO (g_Sw_markLogNoteS_0) x
def xw_markLogNoteS_0:((tL0×Int)) → Ex×List (Pl×LV) := fun r => (.exit 0,[(.T 0,.t (.val false [.row 0 0 0])),(.R 0 0,.r 0 (some ⟨false,.any,true,92,(.pair (.int .i64) (.pair (.int .i64) (.pair (.sl 9 .str) (.sl 155 (.pair .str (.pair .bool (.sl 3 (.int .i64)))))))),r.1⟩)),(.T 1,.t (.val false [.int .i64 r.2]))])
def Ow_markLogNoteS_1:Orc := fun b h => match b,h with
 | 0,[(.T 0,.t (.val false [.row 0 0 0])),(.R 0 0,.r 0 (some ⟨false,.any,true,92,(.pair (.int .i64) (.pair (.int .i64) (.pair (.sl 9 .str) (.sl 155 (.pair .str (.pair .bool (.sl 3 (.int .i64)))))))),y0⟩)),(.T 1,.t (.val false [.int .i64 y1])),(.T 5,.t (.val false [.int .i64 y2]))] => some (okO (g_Lw_markLogNoteS_0 (y0,y1,y2)),(.leaf (.exit 0) [(.T 0,.t (.val false [.row 0 0 0])),(.R 0 0,.r 0 (some ⟨false,.any,true,92,(.pair (.int .i64) (.pair (.int .i64) (.pair (.sl 9 .str) (.sl 155 (.pair .str (.pair .bool (.sl 3 (.int .i64)))))))),(valO (g_Lw_markLogNoteS_0 (y0,y1,y2))).1⟩)),(.T 1,.t (.val false [.int .i64 (valO (g_Lw_markLogNoteS_0 (y0,y1,y2))).2]))]))
 | b,h => Ow_markLogNoteS_0 b h
theorem bw_markLogNoteS_0 (y0:tL0) (y1:Int) (y2:Int):Tr.bt Ew_markLogNoteS Ow_markLogNoteS_0 (exec Ew_markLogNoteS 0 cw_markLogNoteS_0 (St.of (hw_markLogNoteS_0 y0 y1 y2)) (leafRd Ew_markLogNoteS 0)) = (g_Sw_markLogNoteS_0 (y0,y1,y2)).bt (fun ((y0,y1,y2):tL0×Int×Int) => (hw_markLogNoteS_0 y0 y1 y2)) (xw_markLogNoteS_0) := by kernel_rfl
theorem kw_markLogNoteS_1:OrcOk Ew_markLogNoteS Ow_markLogNoteS_1 lsw_markLogNoteS 1 := orc_add kw_markLogNoteS_0 (fun n p hp h ex h' ho => by
 obtain ⟨b,c⟩ := p
 obtain ⟨xt,h1,h2⟩ := ho
 have h1:Ow_markLogNoteS_1 b h = some (true,xt) := h1
 unfold Ow_markLogNoteS_1 at h1
 split at h1
 ·injection h1 with h1
  injection h1 with e1 e2
  subst e2
  have hc:c = cw_markLogNoteS_0 := mw_markLogNoteS_0 _ hp rfl
  subst hc
  right
  rename_i y0 y1 y2
  have key := LT_step kw_markLogNoteS_0 hp (fun q hq => loopsAll_in _ _ _ _ hp hq) (fun ((y0,y1,y2):tL0×Int×Int) => (hw_markLogNoteS_0 y0 y1 y2)) (xw_markLogNoteS_0) (g_Sw_markLogNoteS_0) (fun x => by first | exact bw_markLogNoteS_0 x.1 x.2.1 x.2.2) n (x := (y0,y1,y2)) (okO_some e1)
  have hx:∀ r,XT.sel (.leaf (.exit 0) [(.T 0,.t (.val false [.row 0 0 0])),(.R 0 0,.r 0 (some ⟨false,.any,true,92,(.pair (.int .i64) (.pair (.int .i64) (.pair (.sl 9 .str) (.sl 155 (.pair .str (.pair .bool (.sl 3 (.int .i64)))))))),r.1⟩)),(.T 1,.t (.val false [.int .i64 r.2]))]) = xw_markLogNoteS_0 r := fun r => by first | rfl | rcases r with r | r <;> rfl | rcases r with r | r | r <;> rfl | rcases r with r | r | r | r <;> rfl
  have h3 := (hx (valO (g_Lw_markLogNoteS_0 (y0,y1,y2)))).symm.trans h2
  have e3 := congrArg Prod.fst h3
  have e4 := congrArg Prod.snd h3
  simp only at e3 e4
  rw [← e3,← e4]
  exact key
 ·exact .inl ⟨xt,h1,h2⟩)
def g_Aw_markLogNoteS (a0:tL0) (a1:Int):Bool := okO (g_Lw_markLogNoteS_0 (a0,a1,(0:Int)))
def g_Vw_markLogNoteS_0 (a0:tL0) (a1:Int):Int := (valO (g_Lw_markLogNoteS_0 (a0,a1,(0:Int)))).2
def g_Vw_markLogNoteS_1 (a0:tL0) (a1:Int):tL0 := (valO (g_Lw_markLogNoteS_0 (a0,a1,(0:Int)))).1
def Fw_markLogNoteS:FSem := fun ys => match ys with
 | [.val false [.own .any true 92 (.pair (.int .i64) (.pair (.int .i64) (.pair (.sl 9 .str) (.sl 155 (.pair .str (.pair .bool (.sl 3 (.int .i64)))))))) a0],.val false [.int .i64 a1]] => some ((g_Aw_markLogNoteS a0 a1),.val false [.int .i64 (g_Vw_markLogNoteS_0 a0 a1)],[[.own .any true 92 (.pair (.int .i64) (.pair (.int .i64) (.pair (.sl 9 .str) (.sl 155 (.pair .str (.pair .bool (.sl 3 (.int .i64)))))))) (g_Vw_markLogNoteS_1 a0 a1)]])
 | _ => none
theorem vw_markLogNoteS (a0:tL0) (a1:Int):collapseH .std Ew_markLogNoteS Ow_markLogNoteS_1 (execFn Ew_markLogNoteS Tryz.f105 msw_markLogNoteS [.val false [.own .any true 92 (.pair (.int .i64) (.pair (.int .i64) (.pair (.sl 9 .str) (.sl 155 (.pair .str (.pair .bool (.sl 3 (.int .i64)))))))) a0],.val false [.int .i64 a1]]) = some ((g_Aw_markLogNoteS a0 a1),.val false [.int .i64 (g_Vw_markLogNoteS_0 a0 a1)],[[.own .any true 92 (.pair (.int .i64) (.pair (.int .i64) (.pair (.sl 9 .str) (.sl 155 (.pair .str (.pair .bool (.sl 3 (.int .i64)))))))) (g_Vw_markLogNoteS_1 a0 a1)]]) := by kernel_rfl
theorem sw_markLogNoteS:Sound Tryz.prog 105 msw_markLogNoteS Fw_markLogNoteS := by
 refine fn_gen goodw_markLogNoteS (by kernel_rfl) .std (fn := Tryz.f105) (c := (Tryz.f105.body.getD .skip)) (o := Ow_markLogNoteS_1) (k := 1) (by kernel_rfl) (by kernel_rfl) (by kernel_rfl) (by kernel_rfl) (by decide) kw_markLogNoteS_1 ?_
 intro ys r outs h
 unfold Fw_markLogNoteS at h
 split at h
 ·exact (vw_markLogNoteS _ _).trans h
 ·cases h
def Ew_markLogDisk:Env where
 tt := mkTI Tryz.prog
 fn := fun f => match f with
  | 105 => some (msw_markLogNoteS,FSem.wk msw_markLogNoteS Fw_markLogNoteS)
  | _ => none
 bxf := fun _ => none
 mv := []
 keep := fun _ => []
 keepB := fun _ => []
 keepX := fun _ => []
 keepXB := fun _ => []
theorem goodFw_markLogDisk:∀ f ms F,Ew_markLogDisk.fn f = some (ms,F) → Sound Tryz.prog f ms F := fun f ms F h => by
 unfold Ew_markLogDisk at h
 dsimp only at h
 split at h
 ·exact gF sw_markLogNoteS h
 ·cases h
theorem goodw_markLogDisk:Good Tryz.prog Ew_markLogDisk := ⟨rfl,goodFw_markLogDisk,fun f ms F h => by cases h⟩
def Ow_markLogDisk_0:Orc := fun _ _ => none
def msw_markLogDisk:List PM := [.«mut»,.own]
def lsw_markLogDisk:List (Nat×Code) := loopsAll 0 (Tryz.f44.body.getD .skip)
theorem kw_markLogDisk_0:OrcOk Ew_markLogDisk Ow_markLogDisk_0 lsw_markLogDisk 0 := orcOk_none
def g_Aw_markLogDisk (a0:tL0) (a1:Int) (a2:Int):Bool := g_Aw_markLogNoteS a0 a2
def Fw_markLogDisk:FSem := fun ys => match ys with
 | [.val true [.own .any true 92 (.pair (.int .i64) (.pair (.int .i64) (.pair (.sl 9 .str) (.sl 155 (.pair .str (.pair .bool (.sl 3 (.int .i64)))))))) a0,.int .i64 a1],.val false [.int .i64 a2]] => some ((g_Aw_markLogDisk a0 a1 a2),.val false [.int .i64 (g_Vw_markLogNoteS_0 a0 a2)],[[.own .any true 92 (.pair (.int .i64) (.pair (.int .i64) (.pair (.sl 9 .str) (.sl 155 (.pair .str (.pair .bool (.sl 3 (.int .i64)))))))) (g_Vw_markLogNoteS_1 a0 a2),.int .i64 a1]])
 | _ => none
theorem vw_markLogDisk (a0:tL0) (a1:Int) (a2:Int):collapseH .std Ew_markLogDisk Ow_markLogDisk_0 (execFn Ew_markLogDisk Tryz.f44 msw_markLogDisk [.val true [.own .any true 92 (.pair (.int .i64) (.pair (.int .i64) (.pair (.sl 9 .str) (.sl 155 (.pair .str (.pair .bool (.sl 3 (.int .i64)))))))) a0,.int .i64 a1],.val false [.int .i64 a2]]) = some ((g_Aw_markLogDisk a0 a1 a2),.val false [.int .i64 (g_Vw_markLogNoteS_0 a0 a2)],[[.own .any true 92 (.pair (.int .i64) (.pair (.int .i64) (.pair (.sl 9 .str) (.sl 155 (.pair .str (.pair .bool (.sl 3 (.int .i64)))))))) (g_Vw_markLogNoteS_1 a0 a2),.int .i64 a1]]) := by kernel_rfl
theorem sw_markLogDisk:Sound Tryz.prog 44 msw_markLogDisk Fw_markLogDisk := by
 refine fn_gen goodw_markLogDisk (by kernel_rfl) .std (fn := Tryz.f44) (c := (Tryz.f44.body.getD .skip)) (o := Ow_markLogDisk_0) (k := 0) (by kernel_rfl) (by kernel_rfl) (by kernel_rfl) (by kernel_rfl) (by decide) kw_markLogDisk_0 ?_
 intro ys r outs h
 unfold Fw_markLogDisk at h
 split at h
 ·exact (vw_markLogDisk _ _ _).trans h
 ·cases h
def Ew_markFroState:Env where
 tt := mkTI Tryz.prog
 fn := fun f => match f with
  | 44 => some (msw_markLogDisk,FSem.wk msw_markLogDisk Fw_markLogDisk)
  | 45 => some (msw_markFroTxS,FSem.wk msw_markFroTxS Fw_markFroTxS)
  | _ => none
 bxf := fun _ => none
 mv := []
 keep := fun _ => []
 keepB := fun _ => []
 keepX := fun _ => []
 keepXB := fun _ => []
theorem goodFw_markFroState:∀ f ms F,Ew_markFroState.fn f = some (ms,F) → Sound Tryz.prog f ms F := fun f ms F h => by
 unfold Ew_markFroState at h
 dsimp only at h
 split at h
 ·exact gF sw_markLogDisk h
 ·exact gF sw_markFroTxS h
 ·cases h
theorem goodw_markFroState:Good Tryz.prog Ew_markFroState := ⟨rfl,goodFw_markFroState,fun f ms F h => by cases h⟩
def Ow_markFroState_0:Orc := fun _ _ => none
def msw_markFroState:List PM := [.«mut»,.own]
def lsw_markFroState:List (Nat×Code) := loopsAll 0 (Tryz.f13.body.getD .skip)
theorem kw_markFroState_0:OrcOk Ew_markFroState Ow_markFroState_0 lsw_markFroState 0 := orcOk_none
def g_Aw_markFroState (a0:tL0) (a1:Int) (a2:tL1) (a3:Int):Bool := g_Aw_markLogDisk a0 a1 a3&&g_Aw_markFroTxS a2 (g_Vw_markLogNoteS_0 a0 a3)
def Fw_markFroState:FSem := fun ys => match ys with
 | [.val true [.own .any true 92 (.pair (.int .i64) (.pair (.int .i64) (.pair (.sl 9 .str) (.sl 155 (.pair .str (.pair .bool (.sl 3 (.int .i64)))))))) a0,.int .i64 a1,.own .any true 73 (.pair (.int .i64) (.pair (.pair (.int .i64) (.pair (.int .i64) (.pair (.int .i64) (.pair (.int .i64) (.pair (.int .i64) (.pair (.int .i64) (.int .i64))))))) (.pair .bool (.pair (.sl 3 (.int .i64)) (.sl 3 (.int .i64)))))) a2],.val false [.int .i64 a3]] => some ((g_Aw_markFroState a0 a1 a2 a3),.val false [.int .i64 (g_Vw_markFroTxS_0 a2 (g_Vw_markLogNoteS_0 a0 a3))],[[.own .any true 92 (.pair (.int .i64) (.pair (.int .i64) (.pair (.sl 9 .str) (.sl 155 (.pair .str (.pair .bool (.sl 3 (.int .i64)))))))) (g_Vw_markLogNoteS_1 a0 a3),.int .i64 a1,.own .any true 73 (.pair (.int .i64) (.pair (.pair (.int .i64) (.pair (.int .i64) (.pair (.int .i64) (.pair (.int .i64) (.pair (.int .i64) (.pair (.int .i64) (.int .i64))))))) (.pair .bool (.pair (.sl 3 (.int .i64)) (.sl 3 (.int .i64)))))) (g_Vw_markFroTxS_1 a2 (g_Vw_markLogNoteS_0 a0 a3))]])
 | _ => none
theorem vw_markFroState (a0:tL0) (a1:Int) (a2:tL1) (a3:Int):collapseH .std Ew_markFroState Ow_markFroState_0 (execFn Ew_markFroState Tryz.f13 msw_markFroState [.val true [.own .any true 92 (.pair (.int .i64) (.pair (.int .i64) (.pair (.sl 9 .str) (.sl 155 (.pair .str (.pair .bool (.sl 3 (.int .i64)))))))) a0,.int .i64 a1,.own .any true 73 (.pair (.int .i64) (.pair (.pair (.int .i64) (.pair (.int .i64) (.pair (.int .i64) (.pair (.int .i64) (.pair (.int .i64) (.pair (.int .i64) (.int .i64))))))) (.pair .bool (.pair (.sl 3 (.int .i64)) (.sl 3 (.int .i64)))))) a2],.val false [.int .i64 a3]]) = some ((g_Aw_markFroState a0 a1 a2 a3),.val false [.int .i64 (g_Vw_markFroTxS_0 a2 (g_Vw_markLogNoteS_0 a0 a3))],[[.own .any true 92 (.pair (.int .i64) (.pair (.int .i64) (.pair (.sl 9 .str) (.sl 155 (.pair .str (.pair .bool (.sl 3 (.int .i64)))))))) (g_Vw_markLogNoteS_1 a0 a3),.int .i64 a1,.own .any true 73 (.pair (.int .i64) (.pair (.pair (.int .i64) (.pair (.int .i64) (.pair (.int .i64) (.pair (.int .i64) (.pair (.int .i64) (.pair (.int .i64) (.int .i64))))))) (.pair .bool (.pair (.sl 3 (.int .i64)) (.sl 3 (.int .i64)))))) (g_Vw_markFroTxS_1 a2 (g_Vw_markLogNoteS_0 a0 a3))]]) := by kernel_rfl
theorem sw_markFroState:Sound Tryz.prog 13 msw_markFroState Fw_markFroState := by
 refine fn_gen goodw_markFroState (by kernel_rfl) .std (fn := Tryz.f13) (c := (Tryz.f13.body.getD .skip)) (o := Ow_markFroState_0) (k := 0) (by kernel_rfl) (by kernel_rfl) (by kernel_rfl) (by kernel_rfl) (by decide) kw_markFroState_0 ?_
 intro ys r outs h
 unfold Fw_markFroState at h
 split at h
 ·exact (vw_markFroState _ _ _ _).trans h
 ·cases h
def Ew_markMsgMsgS:Env where
 tt := mkTI Tryz.prog
 fn := fun _ => none
 bxf := fun _ => none
 mv := []
 keep := fun b => match b with
  | 0 => [(0,false),(1,false),(5,false)]
  | _ => []
 keepB := fun b => match b with
  | 0 => []
  | _ => []
 keepX := fun b => match b with
  | 0 => [(0,false),(1,false)]
  | _ => []
 keepXB := fun b => match b with
  | 0 => []
  | _ => []
theorem goodFw_markMsgMsgS:∀ f ms F,Ew_markMsgMsgS.fn f = some (ms,F) → Sound Tryz.prog f ms F := fun f ms F h => by cases h
theorem goodw_markMsgMsgS:Good Tryz.prog Ew_markMsgMsgS := ⟨rfl,goodFw_markMsgMsgS,fun f ms F h => by cases h⟩
def Ow_markMsgMsgS_0:Orc := fun _ _ => none
def msw_markMsgMsgS:List PM := [.«mut»,.own]
def lsw_markMsgMsgS:List (Nat×Code) := loopsAll 0 (Tryz.f14.body.getD .skip)
def cw_markMsgMsgS_0:Code := (loopOf 0 (Tryz.f14.body.getD .skip)).getD .skip
theorem lseqw_markMsgMsgS:lsw_markMsgMsgS = [(0,cw_markMsgMsgS_0)] := by kernel_rfl
theorem mw_markMsgMsgS_0:∀ p,p ∈ lsw_markMsgMsgS → p.1 = 0 → p.2 = cw_markMsgMsgS_0 := by
 intro p hp
 rw [lseqw_markMsgMsgS] at hp
 simp only [List.mem_cons,List.not_mem_nil,or_false] at hp
 subst hp; simp
theorem kw_markMsgMsgS_0:OrcOk Ew_markMsgMsgS Ow_markMsgMsgS_0 lsw_markMsgMsgS 0 := orcOk_none
def hw_markMsgMsgS_0 (y0:tL3) (y1:Int) (y2:Int):List (Pl×LV) := [(.T 0,.t (.val false [.row 0 0 0])),(.R 0 0,.r 0 (some ⟨false,.any,true,83,(.pair (.int .i64) (.pair (.int .i64) (.pair (.int .i64) (.pair (.int .i64) (.pair (.int .i64) (.pair (.int .i64) (.pair (.int .i64) (.pair (.int .i64) (.pair (.int .i64) (.pair (.int .i64) (.int .i64))))))))))),y0⟩)),(.T 1,.t (.val false [.int .i64 y1])),(.T 5,.t (.val false [.int .i64 y2]))]
def g_Sw_markMsgMsgS_0:(tL3×Int×Int) → RT (tL3×Int×Int) ((tL3×Int))
 | (y0,y1,y2) => .br (true) (.br (decide (y2 < (y0.length:Int))) (.br (decide (0 ≤ y2 ∧ y2 < (y0.length:Int))) (.br (decide (Int.toNat y2 < List.length y0)) (.br (true) (.br (decide (0 ≤ y2 ∧ y2 < (↑(List.length (updE yT1 y0 (Int.toNat y2) fun x => (y1,x.2.1,x.2.2.1,x.2.2.2.1,x.2.2.2.2.1,x.2.2.2.2.2.1,x.2.2.2.2.2.2.1,x.2.2.2.2.2.2.2.1,x.2.2.2.2.2.2.2.2.1,x.2.2.2.2.2.2.2.2.2.1,x.2.2.2.2.2.2.2.2.2.2))):Int))) (.br (decide (Int.toNat y2 < List.length (updE yT1 y0 (Int.toNat y2) fun x => (y1,x.2.1,x.2.2.1,x.2.2.2.1,x.2.2.2.2.1,x.2.2.2.2.2.1,x.2.2.2.2.2.2.1,x.2.2.2.2.2.2.2.1,x.2.2.2.2.2.2.2.2.1,x.2.2.2.2.2.2.2.2.2.1,x.2.2.2.2.2.2.2.2.2.2)))) (.br (true) (.br (decide (0 ≤ y2 ∧ y2 < (↑(List.length (updE yT1 (updE yT1 y0 (Int.toNat y2) fun x => (y1,x.2.1,x.2.2.1,x.2.2.2.1,x.2.2.2.2.1,x.2.2.2.2.2.1,x.2.2.2.2.2.2.1,x.2.2.2.2.2.2.2.1,x.2.2.2.2.2.2.2.2.1,x.2.2.2.2.2.2.2.2.2.1,x.2.2.2.2.2.2.2.2.2.2)) (Int.toNat y2) fun x => (x.1,IntKind.i64.wrap (y1 + 1),x.2.2.1,x.2.2.2.1,x.2.2.2.2.1,x.2.2.2.2.2.1,x.2.2.2.2.2.2.1,x.2.2.2.2.2.2.2.1,x.2.2.2.2.2.2.2.2.1,x.2.2.2.2.2.2.2.2.2.1,x.2.2.2.2.2.2.2.2.2.2))):Int))) (.br (decide (Int.toNat y2 < List.length (updE yT1 (updE yT1 y0 (Int.toNat y2) fun x => (y1,x.2.1,x.2.2.1,x.2.2.2.1,x.2.2.2.2.1,x.2.2.2.2.2.1,x.2.2.2.2.2.2.1,x.2.2.2.2.2.2.2.1,x.2.2.2.2.2.2.2.2.1,x.2.2.2.2.2.2.2.2.2.1,x.2.2.2.2.2.2.2.2.2.2)) (Int.toNat y2) fun x => (x.1,IntKind.i64.wrap (y1 + 1),x.2.2.1,x.2.2.2.1,x.2.2.2.2.1,x.2.2.2.2.2.1,x.2.2.2.2.2.2.1,x.2.2.2.2.2.2.2.1,x.2.2.2.2.2.2.2.2.1,x.2.2.2.2.2.2.2.2.2.1,x.2.2.2.2.2.2.2.2.2.2)))) (.br (true) (.br (decide (0 ≤ y2 ∧ y2 < (↑(List.length (updE yT1 (updE yT1 (updE yT1 y0 (Int.toNat y2) fun x => (y1,x.2.1,x.2.2.1,x.2.2.2.1,x.2.2.2.2.1,x.2.2.2.2.2.1,x.2.2.2.2.2.2.1,x.2.2.2.2.2.2.2.1,x.2.2.2.2.2.2.2.2.1,x.2.2.2.2.2.2.2.2.2.1,x.2.2.2.2.2.2.2.2.2.2)) (Int.toNat y2) fun x => (x.1,IntKind.i64.wrap (y1 + 1),x.2.2.1,x.2.2.2.1,x.2.2.2.2.1,x.2.2.2.2.2.1,x.2.2.2.2.2.2.1,x.2.2.2.2.2.2.2.1,x.2.2.2.2.2.2.2.2.1,x.2.2.2.2.2.2.2.2.2.1,x.2.2.2.2.2.2.2.2.2.2)) (Int.toNat y2) fun x => (x.1,x.2.1,IntKind.i64.wrap (IntKind.i64.wrap (y1 + 1) + 1),x.2.2.2.1,x.2.2.2.2.1,x.2.2.2.2.2.1,x.2.2.2.2.2.2.1,x.2.2.2.2.2.2.2.1,x.2.2.2.2.2.2.2.2.1,x.2.2.2.2.2.2.2.2.2.1,x.2.2.2.2.2.2.2.2.2.2))):Int))) (.br (decide (Int.toNat y2 < List.length (updE yT1 (updE yT1 (updE yT1 y0 (Int.toNat y2) fun x => (y1,x.2.1,x.2.2.1,x.2.2.2.1,x.2.2.2.2.1,x.2.2.2.2.2.1,x.2.2.2.2.2.2.1,x.2.2.2.2.2.2.2.1,x.2.2.2.2.2.2.2.2.1,x.2.2.2.2.2.2.2.2.2.1,x.2.2.2.2.2.2.2.2.2.2)) (Int.toNat y2) fun x => (x.1,IntKind.i64.wrap (y1 + 1),x.2.2.1,x.2.2.2.1,x.2.2.2.2.1,x.2.2.2.2.2.1,x.2.2.2.2.2.2.1,x.2.2.2.2.2.2.2.1,x.2.2.2.2.2.2.2.2.1,x.2.2.2.2.2.2.2.2.2.1,x.2.2.2.2.2.2.2.2.2.2)) (Int.toNat y2) fun x => (x.1,x.2.1,IntKind.i64.wrap (IntKind.i64.wrap (y1 + 1) + 1),x.2.2.2.1,x.2.2.2.2.1,x.2.2.2.2.2.1,x.2.2.2.2.2.2.1,x.2.2.2.2.2.2.2.1,x.2.2.2.2.2.2.2.2.1,x.2.2.2.2.2.2.2.2.2.1,x.2.2.2.2.2.2.2.2.2.2)))) (.br (true) (.br (decide (0 ≤ y2 ∧ y2 < (↑(List.length (updE yT1 (updE yT1 (updE yT1 (updE yT1 y0 (Int.toNat y2) fun x => (y1,x.2.1,x.2.2.1,x.2.2.2.1,x.2.2.2.2.1,x.2.2.2.2.2.1,x.2.2.2.2.2.2.1,x.2.2.2.2.2.2.2.1,x.2.2.2.2.2.2.2.2.1,x.2.2.2.2.2.2.2.2.2.1,x.2.2.2.2.2.2.2.2.2.2)) (Int.toNat y2) fun x => (x.1,IntKind.i64.wrap (y1 + 1),x.2.2.1,x.2.2.2.1,x.2.2.2.2.1,x.2.2.2.2.2.1,x.2.2.2.2.2.2.1,x.2.2.2.2.2.2.2.1,x.2.2.2.2.2.2.2.2.1,x.2.2.2.2.2.2.2.2.2.1,x.2.2.2.2.2.2.2.2.2.2)) (Int.toNat y2) fun x => (x.1,x.2.1,IntKind.i64.wrap (IntKind.i64.wrap (y1 + 1) + 1),x.2.2.2.1,x.2.2.2.2.1,x.2.2.2.2.2.1,x.2.2.2.2.2.2.1,x.2.2.2.2.2.2.2.1,x.2.2.2.2.2.2.2.2.1,x.2.2.2.2.2.2.2.2.2.1,x.2.2.2.2.2.2.2.2.2.2)) (Int.toNat y2) fun x => (x.1,x.2.1,x.2.2.1,IntKind.i64.wrap (IntKind.i64.wrap (IntKind.i64.wrap (y1 + 1) + 1) + 1),x.2.2.2.2.1,x.2.2.2.2.2.1,x.2.2.2.2.2.2.1,x.2.2.2.2.2.2.2.1,x.2.2.2.2.2.2.2.2.1,x.2.2.2.2.2.2.2.2.2.1,x.2.2.2.2.2.2.2.2.2.2))):Int))) (.br (decide (Int.toNat y2 < List.length (updE yT1 (updE yT1 (updE yT1 (updE yT1 y0 (Int.toNat y2) fun x => (y1,x.2.1,x.2.2.1,x.2.2.2.1,x.2.2.2.2.1,x.2.2.2.2.2.1,x.2.2.2.2.2.2.1,x.2.2.2.2.2.2.2.1,x.2.2.2.2.2.2.2.2.1,x.2.2.2.2.2.2.2.2.2.1,x.2.2.2.2.2.2.2.2.2.2)) (Int.toNat y2) fun x => (x.1,IntKind.i64.wrap (y1 + 1),x.2.2.1,x.2.2.2.1,x.2.2.2.2.1,x.2.2.2.2.2.1,x.2.2.2.2.2.2.1,x.2.2.2.2.2.2.2.1,x.2.2.2.2.2.2.2.2.1,x.2.2.2.2.2.2.2.2.2.1,x.2.2.2.2.2.2.2.2.2.2)) (Int.toNat y2) fun x => (x.1,x.2.1,IntKind.i64.wrap (IntKind.i64.wrap (y1 + 1) + 1),x.2.2.2.1,x.2.2.2.2.1,x.2.2.2.2.2.1,x.2.2.2.2.2.2.1,x.2.2.2.2.2.2.2.1,x.2.2.2.2.2.2.2.2.1,x.2.2.2.2.2.2.2.2.2.1,x.2.2.2.2.2.2.2.2.2.2)) (Int.toNat y2) fun x => (x.1,x.2.1,x.2.2.1,IntKind.i64.wrap (IntKind.i64.wrap (IntKind.i64.wrap (y1 + 1) + 1) + 1),x.2.2.2.2.1,x.2.2.2.2.2.1,x.2.2.2.2.2.2.1,x.2.2.2.2.2.2.2.1,x.2.2.2.2.2.2.2.2.1,x.2.2.2.2.2.2.2.2.2.1,x.2.2.2.2.2.2.2.2.2.2)))) (.br (true) (.br (decide (0 ≤ y2 ∧ y2 < (↑(List.length (updE yT1 (updE yT1 (updE yT1 (updE yT1 (updE yT1 y0 (Int.toNat y2) fun x => (y1,x.2.1,x.2.2.1,x.2.2.2.1,x.2.2.2.2.1,x.2.2.2.2.2.1,x.2.2.2.2.2.2.1,x.2.2.2.2.2.2.2.1,x.2.2.2.2.2.2.2.2.1,x.2.2.2.2.2.2.2.2.2.1,x.2.2.2.2.2.2.2.2.2.2)) (Int.toNat y2) fun x => (x.1,IntKind.i64.wrap (y1 + 1),x.2.2.1,x.2.2.2.1,x.2.2.2.2.1,x.2.2.2.2.2.1,x.2.2.2.2.2.2.1,x.2.2.2.2.2.2.2.1,x.2.2.2.2.2.2.2.2.1,x.2.2.2.2.2.2.2.2.2.1,x.2.2.2.2.2.2.2.2.2.2)) (Int.toNat y2) fun x => (x.1,x.2.1,IntKind.i64.wrap (IntKind.i64.wrap (y1 + 1) + 1),x.2.2.2.1,x.2.2.2.2.1,x.2.2.2.2.2.1,x.2.2.2.2.2.2.1,x.2.2.2.2.2.2.2.1,x.2.2.2.2.2.2.2.2.1,x.2.2.2.2.2.2.2.2.2.1,x.2.2.2.2.2.2.2.2.2.2)) (Int.toNat y2) fun x => (x.1,x.2.1,x.2.2.1,IntKind.i64.wrap (IntKind.i64.wrap (IntKind.i64.wrap (y1 + 1) + 1) + 1),x.2.2.2.2.1,x.2.2.2.2.2.1,x.2.2.2.2.2.2.1,x.2.2.2.2.2.2.2.1,x.2.2.2.2.2.2.2.2.1,x.2.2.2.2.2.2.2.2.2.1,x.2.2.2.2.2.2.2.2.2.2)) (Int.toNat y2) fun x => (x.1,x.2.1,x.2.2.1,x.2.2.2.1,IntKind.i64.wrap (IntKind.i64.wrap (IntKind.i64.wrap (IntKind.i64.wrap (y1 + 1) + 1) + 1) + 1),x.2.2.2.2.2.1,x.2.2.2.2.2.2.1,x.2.2.2.2.2.2.2.1,x.2.2.2.2.2.2.2.2.1,x.2.2.2.2.2.2.2.2.2.1,x.2.2.2.2.2.2.2.2.2.2))):Int))) (.br (decide (Int.toNat y2 < List.length (updE yT1 (updE yT1 (updE yT1 (updE yT1 (updE yT1 y0 (Int.toNat y2) fun x => (y1,x.2.1,x.2.2.1,x.2.2.2.1,x.2.2.2.2.1,x.2.2.2.2.2.1,x.2.2.2.2.2.2.1,x.2.2.2.2.2.2.2.1,x.2.2.2.2.2.2.2.2.1,x.2.2.2.2.2.2.2.2.2.1,x.2.2.2.2.2.2.2.2.2.2)) (Int.toNat y2) fun x => (x.1,IntKind.i64.wrap (y1 + 1),x.2.2.1,x.2.2.2.1,x.2.2.2.2.1,x.2.2.2.2.2.1,x.2.2.2.2.2.2.1,x.2.2.2.2.2.2.2.1,x.2.2.2.2.2.2.2.2.1,x.2.2.2.2.2.2.2.2.2.1,x.2.2.2.2.2.2.2.2.2.2)) (Int.toNat y2) fun x => (x.1,x.2.1,IntKind.i64.wrap (IntKind.i64.wrap (y1 + 1) + 1),x.2.2.2.1,x.2.2.2.2.1,x.2.2.2.2.2.1,x.2.2.2.2.2.2.1,x.2.2.2.2.2.2.2.1,x.2.2.2.2.2.2.2.2.1,x.2.2.2.2.2.2.2.2.2.1,x.2.2.2.2.2.2.2.2.2.2)) (Int.toNat y2) fun x => (x.1,x.2.1,x.2.2.1,IntKind.i64.wrap (IntKind.i64.wrap (IntKind.i64.wrap (y1 + 1) + 1) + 1),x.2.2.2.2.1,x.2.2.2.2.2.1,x.2.2.2.2.2.2.1,x.2.2.2.2.2.2.2.1,x.2.2.2.2.2.2.2.2.1,x.2.2.2.2.2.2.2.2.2.1,x.2.2.2.2.2.2.2.2.2.2)) (Int.toNat y2) fun x => (x.1,x.2.1,x.2.2.1,x.2.2.2.1,IntKind.i64.wrap (IntKind.i64.wrap (IntKind.i64.wrap (IntKind.i64.wrap (y1 + 1) + 1) + 1) + 1),x.2.2.2.2.2.1,x.2.2.2.2.2.2.1,x.2.2.2.2.2.2.2.1,x.2.2.2.2.2.2.2.2.1,x.2.2.2.2.2.2.2.2.2.1,x.2.2.2.2.2.2.2.2.2.2)))) (.br (true) (.br (decide (0 ≤ y2 ∧ y2 < (↑(List.length (updE yT1 (updE yT1 (updE yT1 (updE yT1 (updE yT1 (updE yT1 y0 (Int.toNat y2) fun x => (y1,x.2.1,x.2.2.1,x.2.2.2.1,x.2.2.2.2.1,x.2.2.2.2.2.1,x.2.2.2.2.2.2.1,x.2.2.2.2.2.2.2.1,x.2.2.2.2.2.2.2.2.1,x.2.2.2.2.2.2.2.2.2.1,x.2.2.2.2.2.2.2.2.2.2)) (Int.toNat y2) fun x => (x.1,IntKind.i64.wrap (y1 + 1),x.2.2.1,x.2.2.2.1,x.2.2.2.2.1,x.2.2.2.2.2.1,x.2.2.2.2.2.2.1,x.2.2.2.2.2.2.2.1,x.2.2.2.2.2.2.2.2.1,x.2.2.2.2.2.2.2.2.2.1,x.2.2.2.2.2.2.2.2.2.2)) (Int.toNat y2) fun x => (x.1,x.2.1,IntKind.i64.wrap (IntKind.i64.wrap (y1 + 1) + 1),x.2.2.2.1,x.2.2.2.2.1,x.2.2.2.2.2.1,x.2.2.2.2.2.2.1,x.2.2.2.2.2.2.2.1,x.2.2.2.2.2.2.2.2.1,x.2.2.2.2.2.2.2.2.2.1,x.2.2.2.2.2.2.2.2.2.2)) (Int.toNat y2) fun x => (x.1,x.2.1,x.2.2.1,IntKind.i64.wrap (IntKind.i64.wrap (IntKind.i64.wrap (y1 + 1) + 1) + 1),x.2.2.2.2.1,x.2.2.2.2.2.1,x.2.2.2.2.2.2.1,x.2.2.2.2.2.2.2.1,x.2.2.2.2.2.2.2.2.1,x.2.2.2.2.2.2.2.2.2.1,x.2.2.2.2.2.2.2.2.2.2)) (Int.toNat y2) fun x => (x.1,x.2.1,x.2.2.1,x.2.2.2.1,IntKind.i64.wrap (IntKind.i64.wrap (IntKind.i64.wrap (IntKind.i64.wrap (y1 + 1) + 1) + 1) + 1),x.2.2.2.2.2.1,x.2.2.2.2.2.2.1,x.2.2.2.2.2.2.2.1,x.2.2.2.2.2.2.2.2.1,x.2.2.2.2.2.2.2.2.2.1,x.2.2.2.2.2.2.2.2.2.2)) (Int.toNat y2) fun x => (x.1,x.2.1,x.2.2.1,x.2.2.2.1,x.2.2.2.2.1,IntKind.i64.wrap (IntKind.i64.wrap (IntKind.i64.wrap (IntKind.i64.wrap (IntKind.i64.wrap (y1 + 1) + 1) + 1) + 1) + 1),x.2.2.2.2.2.2.1,x.2.2.2.2.2.2.2.1,x.2.2.2.2.2.2.2.2.1,x.2.2.2.2.2.2.2.2.2.1,x.2.2.2.2.2.2.2.2.2.2))):Int))) (.br (decide (Int.toNat y2 < List.length (updE yT1 (updE yT1 (updE yT1 (updE yT1 (updE yT1 (updE yT1 y0 (Int.toNat y2) fun x => (y1,x.2.1,x.2.2.1,x.2.2.2.1,x.2.2.2.2.1,x.2.2.2.2.2.1,x.2.2.2.2.2.2.1,x.2.2.2.2.2.2.2.1,x.2.2.2.2.2.2.2.2.1,x.2.2.2.2.2.2.2.2.2.1,x.2.2.2.2.2.2.2.2.2.2)) (Int.toNat y2) fun x => (x.1,IntKind.i64.wrap (y1 + 1),x.2.2.1,x.2.2.2.1,x.2.2.2.2.1,x.2.2.2.2.2.1,x.2.2.2.2.2.2.1,x.2.2.2.2.2.2.2.1,x.2.2.2.2.2.2.2.2.1,x.2.2.2.2.2.2.2.2.2.1,x.2.2.2.2.2.2.2.2.2.2)) (Int.toNat y2) fun x => (x.1,x.2.1,IntKind.i64.wrap (IntKind.i64.wrap (y1 + 1) + 1),x.2.2.2.1,x.2.2.2.2.1,x.2.2.2.2.2.1,x.2.2.2.2.2.2.1,x.2.2.2.2.2.2.2.1,x.2.2.2.2.2.2.2.2.1,x.2.2.2.2.2.2.2.2.2.1,x.2.2.2.2.2.2.2.2.2.2)) (Int.toNat y2) fun x => (x.1,x.2.1,x.2.2.1,IntKind.i64.wrap (IntKind.i64.wrap (IntKind.i64.wrap (y1 + 1) + 1) + 1),x.2.2.2.2.1,x.2.2.2.2.2.1,x.2.2.2.2.2.2.1,x.2.2.2.2.2.2.2.1,x.2.2.2.2.2.2.2.2.1,x.2.2.2.2.2.2.2.2.2.1,x.2.2.2.2.2.2.2.2.2.2)) (Int.toNat y2) fun x => (x.1,x.2.1,x.2.2.1,x.2.2.2.1,IntKind.i64.wrap (IntKind.i64.wrap (IntKind.i64.wrap (IntKind.i64.wrap (y1 + 1) + 1) + 1) + 1),x.2.2.2.2.2.1,x.2.2.2.2.2.2.1,x.2.2.2.2.2.2.2.1,x.2.2.2.2.2.2.2.2.1,x.2.2.2.2.2.2.2.2.2.1,x.2.2.2.2.2.2.2.2.2.2)) (Int.toNat y2) fun x => (x.1,x.2.1,x.2.2.1,x.2.2.2.1,x.2.2.2.2.1,IntKind.i64.wrap (IntKind.i64.wrap (IntKind.i64.wrap (IntKind.i64.wrap (IntKind.i64.wrap (y1 + 1) + 1) + 1) + 1) + 1),x.2.2.2.2.2.2.1,x.2.2.2.2.2.2.2.1,x.2.2.2.2.2.2.2.2.1,x.2.2.2.2.2.2.2.2.2.1,x.2.2.2.2.2.2.2.2.2.2)))) (.br (true) (.br (decide (0 ≤ y2 ∧ y2 < (↑(List.length (updE yT1 (updE yT1 (updE yT1 (updE yT1 (updE yT1 (updE yT1 (updE yT1 y0 (Int.toNat y2) fun x => (y1,x.2.1,x.2.2.1,x.2.2.2.1,x.2.2.2.2.1,x.2.2.2.2.2.1,x.2.2.2.2.2.2.1,x.2.2.2.2.2.2.2.1,x.2.2.2.2.2.2.2.2.1,x.2.2.2.2.2.2.2.2.2.1,x.2.2.2.2.2.2.2.2.2.2)) (Int.toNat y2) fun x => (x.1,IntKind.i64.wrap (y1 + 1),x.2.2.1,x.2.2.2.1,x.2.2.2.2.1,x.2.2.2.2.2.1,x.2.2.2.2.2.2.1,x.2.2.2.2.2.2.2.1,x.2.2.2.2.2.2.2.2.1,x.2.2.2.2.2.2.2.2.2.1,x.2.2.2.2.2.2.2.2.2.2)) (Int.toNat y2) fun x => (x.1,x.2.1,IntKind.i64.wrap (IntKind.i64.wrap (y1 + 1) + 1),x.2.2.2.1,x.2.2.2.2.1,x.2.2.2.2.2.1,x.2.2.2.2.2.2.1,x.2.2.2.2.2.2.2.1,x.2.2.2.2.2.2.2.2.1,x.2.2.2.2.2.2.2.2.2.1,x.2.2.2.2.2.2.2.2.2.2)) (Int.toNat y2) fun x => (x.1,x.2.1,x.2.2.1,IntKind.i64.wrap (IntKind.i64.wrap (IntKind.i64.wrap (y1 + 1) + 1) + 1),x.2.2.2.2.1,x.2.2.2.2.2.1,x.2.2.2.2.2.2.1,x.2.2.2.2.2.2.2.1,x.2.2.2.2.2.2.2.2.1,x.2.2.2.2.2.2.2.2.2.1,x.2.2.2.2.2.2.2.2.2.2)) (Int.toNat y2) fun x => (x.1,x.2.1,x.2.2.1,x.2.2.2.1,IntKind.i64.wrap (IntKind.i64.wrap (IntKind.i64.wrap (IntKind.i64.wrap (y1 + 1) + 1) + 1) + 1),x.2.2.2.2.2.1,x.2.2.2.2.2.2.1,x.2.2.2.2.2.2.2.1,x.2.2.2.2.2.2.2.2.1,x.2.2.2.2.2.2.2.2.2.1,x.2.2.2.2.2.2.2.2.2.2)) (Int.toNat y2) fun x => (x.1,x.2.1,x.2.2.1,x.2.2.2.1,x.2.2.2.2.1,IntKind.i64.wrap (IntKind.i64.wrap (IntKind.i64.wrap (IntKind.i64.wrap (IntKind.i64.wrap (y1 + 1) + 1) + 1) + 1) + 1),x.2.2.2.2.2.2.1,x.2.2.2.2.2.2.2.1,x.2.2.2.2.2.2.2.2.1,x.2.2.2.2.2.2.2.2.2.1,x.2.2.2.2.2.2.2.2.2.2)) (Int.toNat y2) fun x => (x.1,x.2.1,x.2.2.1,x.2.2.2.1,x.2.2.2.2.1,x.2.2.2.2.2.1,IntKind.i64.wrap (IntKind.i64.wrap (IntKind.i64.wrap (IntKind.i64.wrap (IntKind.i64.wrap (IntKind.i64.wrap (y1 + 1) + 1) + 1) + 1) + 1) + 1),x.2.2.2.2.2.2.2.1,x.2.2.2.2.2.2.2.2.1,x.2.2.2.2.2.2.2.2.2.1,x.2.2.2.2.2.2.2.2.2.2))):Int))) (.br (decide (Int.toNat y2 < List.length (updE yT1 (updE yT1 (updE yT1 (updE yT1 (updE yT1 (updE yT1 (updE yT1 y0 (Int.toNat y2) fun x => (y1,x.2.1,x.2.2.1,x.2.2.2.1,x.2.2.2.2.1,x.2.2.2.2.2.1,x.2.2.2.2.2.2.1,x.2.2.2.2.2.2.2.1,x.2.2.2.2.2.2.2.2.1,x.2.2.2.2.2.2.2.2.2.1,x.2.2.2.2.2.2.2.2.2.2)) (Int.toNat y2) fun x => (x.1,IntKind.i64.wrap (y1 + 1),x.2.2.1,x.2.2.2.1,x.2.2.2.2.1,x.2.2.2.2.2.1,x.2.2.2.2.2.2.1,x.2.2.2.2.2.2.2.1,x.2.2.2.2.2.2.2.2.1,x.2.2.2.2.2.2.2.2.2.1,x.2.2.2.2.2.2.2.2.2.2)) (Int.toNat y2) fun x => (x.1,x.2.1,IntKind.i64.wrap (IntKind.i64.wrap (y1 + 1) + 1),x.2.2.2.1,x.2.2.2.2.1,x.2.2.2.2.2.1,x.2.2.2.2.2.2.1,x.2.2.2.2.2.2.2.1,x.2.2.2.2.2.2.2.2.1,x.2.2.2.2.2.2.2.2.2.1,x.2.2.2.2.2.2.2.2.2.2)) (Int.toNat y2) fun x => (x.1,x.2.1,x.2.2.1,IntKind.i64.wrap (IntKind.i64.wrap (IntKind.i64.wrap (y1 + 1) + 1) + 1),x.2.2.2.2.1,x.2.2.2.2.2.1,x.2.2.2.2.2.2.1,x.2.2.2.2.2.2.2.1,x.2.2.2.2.2.2.2.2.1,x.2.2.2.2.2.2.2.2.2.1,x.2.2.2.2.2.2.2.2.2.2)) (Int.toNat y2) fun x => (x.1,x.2.1,x.2.2.1,x.2.2.2.1,IntKind.i64.wrap (IntKind.i64.wrap (IntKind.i64.wrap (IntKind.i64.wrap (y1 + 1) + 1) + 1) + 1),x.2.2.2.2.2.1,x.2.2.2.2.2.2.1,x.2.2.2.2.2.2.2.1,x.2.2.2.2.2.2.2.2.1,x.2.2.2.2.2.2.2.2.2.1,x.2.2.2.2.2.2.2.2.2.2)) (Int.toNat y2) fun x => (x.1,x.2.1,x.2.2.1,x.2.2.2.1,x.2.2.2.2.1,IntKind.i64.wrap (IntKind.i64.wrap (IntKind.i64.wrap (IntKind.i64.wrap (IntKind.i64.wrap (y1 + 1) + 1) + 1) + 1) + 1),x.2.2.2.2.2.2.1,x.2.2.2.2.2.2.2.1,x.2.2.2.2.2.2.2.2.1,x.2.2.2.2.2.2.2.2.2.1,x.2.2.2.2.2.2.2.2.2.2)) (Int.toNat y2) fun x => (x.1,x.2.1,x.2.2.1,x.2.2.2.1,x.2.2.2.2.1,x.2.2.2.2.2.1,IntKind.i64.wrap (IntKind.i64.wrap (IntKind.i64.wrap (IntKind.i64.wrap (IntKind.i64.wrap (IntKind.i64.wrap (y1 + 1) + 1) + 1) + 1) + 1) + 1),x.2.2.2.2.2.2.2.1,x.2.2.2.2.2.2.2.2.1,x.2.2.2.2.2.2.2.2.2.1,x.2.2.2.2.2.2.2.2.2.2)))) (.br (true) (.br (decide (0 ≤ y2 ∧ y2 < (↑(List.length (updE yT1 (updE yT1 (updE yT1 (updE yT1 (updE yT1 (updE yT1 (updE yT1 (updE yT1 y0 (Int.toNat y2) fun x => (y1,x.2.1,x.2.2.1,x.2.2.2.1,x.2.2.2.2.1,x.2.2.2.2.2.1,x.2.2.2.2.2.2.1,x.2.2.2.2.2.2.2.1,x.2.2.2.2.2.2.2.2.1,x.2.2.2.2.2.2.2.2.2.1,x.2.2.2.2.2.2.2.2.2.2)) (Int.toNat y2) fun x => (x.1,IntKind.i64.wrap (y1 + 1),x.2.2.1,x.2.2.2.1,x.2.2.2.2.1,x.2.2.2.2.2.1,x.2.2.2.2.2.2.1,x.2.2.2.2.2.2.2.1,x.2.2.2.2.2.2.2.2.1,x.2.2.2.2.2.2.2.2.2.1,x.2.2.2.2.2.2.2.2.2.2)) (Int.toNat y2) fun x => (x.1,x.2.1,IntKind.i64.wrap (IntKind.i64.wrap (y1 + 1) + 1),x.2.2.2.1,x.2.2.2.2.1,x.2.2.2.2.2.1,x.2.2.2.2.2.2.1,x.2.2.2.2.2.2.2.1,x.2.2.2.2.2.2.2.2.1,x.2.2.2.2.2.2.2.2.2.1,x.2.2.2.2.2.2.2.2.2.2)) (Int.toNat y2) fun x => (x.1,x.2.1,x.2.2.1,IntKind.i64.wrap (IntKind.i64.wrap (IntKind.i64.wrap (y1 + 1) + 1) + 1),x.2.2.2.2.1,x.2.2.2.2.2.1,x.2.2.2.2.2.2.1,x.2.2.2.2.2.2.2.1,x.2.2.2.2.2.2.2.2.1,x.2.2.2.2.2.2.2.2.2.1,x.2.2.2.2.2.2.2.2.2.2)) (Int.toNat y2) fun x => (x.1,x.2.1,x.2.2.1,x.2.2.2.1,IntKind.i64.wrap (IntKind.i64.wrap (IntKind.i64.wrap (IntKind.i64.wrap (y1 + 1) + 1) + 1) + 1),x.2.2.2.2.2.1,x.2.2.2.2.2.2.1,x.2.2.2.2.2.2.2.1,x.2.2.2.2.2.2.2.2.1,x.2.2.2.2.2.2.2.2.2.1,x.2.2.2.2.2.2.2.2.2.2)) (Int.toNat y2) fun x => (x.1,x.2.1,x.2.2.1,x.2.2.2.1,x.2.2.2.2.1,IntKind.i64.wrap (IntKind.i64.wrap (IntKind.i64.wrap (IntKind.i64.wrap (IntKind.i64.wrap (y1 + 1) + 1) + 1) + 1) + 1),x.2.2.2.2.2.2.1,x.2.2.2.2.2.2.2.1,x.2.2.2.2.2.2.2.2.1,x.2.2.2.2.2.2.2.2.2.1,x.2.2.2.2.2.2.2.2.2.2)) (Int.toNat y2) fun x => (x.1,x.2.1,x.2.2.1,x.2.2.2.1,x.2.2.2.2.1,x.2.2.2.2.2.1,IntKind.i64.wrap (IntKind.i64.wrap (IntKind.i64.wrap (IntKind.i64.wrap (IntKind.i64.wrap (IntKind.i64.wrap (y1 + 1) + 1) + 1) + 1) + 1) + 1),x.2.2.2.2.2.2.2.1,x.2.2.2.2.2.2.2.2.1,x.2.2.2.2.2.2.2.2.2.1,x.2.2.2.2.2.2.2.2.2.2)) (Int.toNat y2) fun x => (x.1,x.2.1,x.2.2.1,x.2.2.2.1,x.2.2.2.2.1,x.2.2.2.2.2.1,x.2.2.2.2.2.2.1,IntKind.i64.wrap (IntKind.i64.wrap (IntKind.i64.wrap (IntKind.i64.wrap (IntKind.i64.wrap (IntKind.i64.wrap (IntKind.i64.wrap (y1 + 1) + 1) + 1) + 1) + 1) + 1) + 1),x.2.2.2.2.2.2.2.2.1,x.2.2.2.2.2.2.2.2.2.1,x.2.2.2.2.2.2.2.2.2.2))):Int))) (.br (decide (Int.toNat y2 < List.length (updE yT1 (updE yT1 (updE yT1 (updE yT1 (updE yT1 (updE yT1 (updE yT1 (updE yT1 y0 (Int.toNat y2) fun x => (y1,x.2.1,x.2.2.1,x.2.2.2.1,x.2.2.2.2.1,x.2.2.2.2.2.1,x.2.2.2.2.2.2.1,x.2.2.2.2.2.2.2.1,x.2.2.2.2.2.2.2.2.1,x.2.2.2.2.2.2.2.2.2.1,x.2.2.2.2.2.2.2.2.2.2)) (Int.toNat y2) fun x => (x.1,IntKind.i64.wrap (y1 + 1),x.2.2.1,x.2.2.2.1,x.2.2.2.2.1,x.2.2.2.2.2.1,x.2.2.2.2.2.2.1,x.2.2.2.2.2.2.2.1,x.2.2.2.2.2.2.2.2.1,x.2.2.2.2.2.2.2.2.2.1,x.2.2.2.2.2.2.2.2.2.2)) (Int.toNat y2) fun x => (x.1,x.2.1,IntKind.i64.wrap (IntKind.i64.wrap (y1 + 1) + 1),x.2.2.2.1,x.2.2.2.2.1,x.2.2.2.2.2.1,x.2.2.2.2.2.2.1,x.2.2.2.2.2.2.2.1,x.2.2.2.2.2.2.2.2.1,x.2.2.2.2.2.2.2.2.2.1,x.2.2.2.2.2.2.2.2.2.2)) (Int.toNat y2) fun x => (x.1,x.2.1,x.2.2.1,IntKind.i64.wrap (IntKind.i64.wrap (IntKind.i64.wrap (y1 + 1) + 1) + 1),x.2.2.2.2.1,x.2.2.2.2.2.1,x.2.2.2.2.2.2.1,x.2.2.2.2.2.2.2.1,x.2.2.2.2.2.2.2.2.1,x.2.2.2.2.2.2.2.2.2.1,x.2.2.2.2.2.2.2.2.2.2)) (Int.toNat y2) fun x => (x.1,x.2.1,x.2.2.1,x.2.2.2.1,IntKind.i64.wrap (IntKind.i64.wrap (IntKind.i64.wrap (IntKind.i64.wrap (y1 + 1) + 1) + 1) + 1),x.2.2.2.2.2.1,x.2.2.2.2.2.2.1,x.2.2.2.2.2.2.2.1,x.2.2.2.2.2.2.2.2.1,x.2.2.2.2.2.2.2.2.2.1,x.2.2.2.2.2.2.2.2.2.2)) (Int.toNat y2) fun x => (x.1,x.2.1,x.2.2.1,x.2.2.2.1,x.2.2.2.2.1,IntKind.i64.wrap (IntKind.i64.wrap (IntKind.i64.wrap (IntKind.i64.wrap (IntKind.i64.wrap (y1 + 1) + 1) + 1) + 1) + 1),x.2.2.2.2.2.2.1,x.2.2.2.2.2.2.2.1,x.2.2.2.2.2.2.2.2.1,x.2.2.2.2.2.2.2.2.2.1,x.2.2.2.2.2.2.2.2.2.2)) (Int.toNat y2) fun x => (x.1,x.2.1,x.2.2.1,x.2.2.2.1,x.2.2.2.2.1,x.2.2.2.2.2.1,IntKind.i64.wrap (IntKind.i64.wrap (IntKind.i64.wrap (IntKind.i64.wrap (IntKind.i64.wrap (IntKind.i64.wrap (y1 + 1) + 1) + 1) + 1) + 1) + 1),x.2.2.2.2.2.2.2.1,x.2.2.2.2.2.2.2.2.1,x.2.2.2.2.2.2.2.2.2.1,x.2.2.2.2.2.2.2.2.2.2)) (Int.toNat y2) fun x => (x.1,x.2.1,x.2.2.1,x.2.2.2.1,x.2.2.2.2.1,x.2.2.2.2.2.1,x.2.2.2.2.2.2.1,IntKind.i64.wrap (IntKind.i64.wrap (IntKind.i64.wrap (IntKind.i64.wrap (IntKind.i64.wrap (IntKind.i64.wrap (IntKind.i64.wrap (y1 + 1) + 1) + 1) + 1) + 1) + 1) + 1),x.2.2.2.2.2.2.2.2.1,x.2.2.2.2.2.2.2.2.2.1,x.2.2.2.2.2.2.2.2.2.2)))) (.br (true) (.br (decide (0 ≤ y2 ∧ y2 < (↑(List.length (updE yT1 (updE yT1 (updE yT1 (updE yT1 (updE yT1 (updE yT1 (updE yT1 (updE yT1 (updE yT1 y0 (Int.toNat y2) fun x => (y1,x.2.1,x.2.2.1,x.2.2.2.1,x.2.2.2.2.1,x.2.2.2.2.2.1,x.2.2.2.2.2.2.1,x.2.2.2.2.2.2.2.1,x.2.2.2.2.2.2.2.2.1,x.2.2.2.2.2.2.2.2.2.1,x.2.2.2.2.2.2.2.2.2.2)) (Int.toNat y2) fun x => (x.1,IntKind.i64.wrap (y1 + 1),x.2.2.1,x.2.2.2.1,x.2.2.2.2.1,x.2.2.2.2.2.1,x.2.2.2.2.2.2.1,x.2.2.2.2.2.2.2.1,x.2.2.2.2.2.2.2.2.1,x.2.2.2.2.2.2.2.2.2.1,x.2.2.2.2.2.2.2.2.2.2)) (Int.toNat y2) fun x => (x.1,x.2.1,IntKind.i64.wrap (IntKind.i64.wrap (y1 + 1) + 1),x.2.2.2.1,x.2.2.2.2.1,x.2.2.2.2.2.1,x.2.2.2.2.2.2.1,x.2.2.2.2.2.2.2.1,x.2.2.2.2.2.2.2.2.1,x.2.2.2.2.2.2.2.2.2.1,x.2.2.2.2.2.2.2.2.2.2)) (Int.toNat y2) fun x => (x.1,x.2.1,x.2.2.1,IntKind.i64.wrap (IntKind.i64.wrap (IntKind.i64.wrap (y1 + 1) + 1) + 1),x.2.2.2.2.1,x.2.2.2.2.2.1,x.2.2.2.2.2.2.1,x.2.2.2.2.2.2.2.1,x.2.2.2.2.2.2.2.2.1,x.2.2.2.2.2.2.2.2.2.1,x.2.2.2.2.2.2.2.2.2.2)) (Int.toNat y2) fun x => (x.1,x.2.1,x.2.2.1,x.2.2.2.1,IntKind.i64.wrap (IntKind.i64.wrap (IntKind.i64.wrap (IntKind.i64.wrap (y1 + 1) + 1) + 1) + 1),x.2.2.2.2.2.1,x.2.2.2.2.2.2.1,x.2.2.2.2.2.2.2.1,x.2.2.2.2.2.2.2.2.1,x.2.2.2.2.2.2.2.2.2.1,x.2.2.2.2.2.2.2.2.2.2)) (Int.toNat y2) fun x => (x.1,x.2.1,x.2.2.1,x.2.2.2.1,x.2.2.2.2.1,IntKind.i64.wrap (IntKind.i64.wrap (IntKind.i64.wrap (IntKind.i64.wrap (IntKind.i64.wrap (y1 + 1) + 1) + 1) + 1) + 1),x.2.2.2.2.2.2.1,x.2.2.2.2.2.2.2.1,x.2.2.2.2.2.2.2.2.1,x.2.2.2.2.2.2.2.2.2.1,x.2.2.2.2.2.2.2.2.2.2)) (Int.toNat y2) fun x => (x.1,x.2.1,x.2.2.1,x.2.2.2.1,x.2.2.2.2.1,x.2.2.2.2.2.1,IntKind.i64.wrap (IntKind.i64.wrap (IntKind.i64.wrap (IntKind.i64.wrap (IntKind.i64.wrap (IntKind.i64.wrap (y1 + 1) + 1) + 1) + 1) + 1) + 1),x.2.2.2.2.2.2.2.1,x.2.2.2.2.2.2.2.2.1,x.2.2.2.2.2.2.2.2.2.1,x.2.2.2.2.2.2.2.2.2.2)) (Int.toNat y2) fun x => (x.1,x.2.1,x.2.2.1,x.2.2.2.1,x.2.2.2.2.1,x.2.2.2.2.2.1,x.2.2.2.2.2.2.1,IntKind.i64.wrap (IntKind.i64.wrap (IntKind.i64.wrap (IntKind.i64.wrap (IntKind.i64.wrap (IntKind.i64.wrap (IntKind.i64.wrap (y1 + 1) + 1) + 1) + 1) + 1) + 1) + 1),x.2.2.2.2.2.2.2.2.1,x.2.2.2.2.2.2.2.2.2.1,x.2.2.2.2.2.2.2.2.2.2)) (Int.toNat y2) fun x => (x.1,x.2.1,x.2.2.1,x.2.2.2.1,x.2.2.2.2.1,x.2.2.2.2.2.1,x.2.2.2.2.2.2.1,x.2.2.2.2.2.2.2.1,IntKind.i64.wrap (IntKind.i64.wrap (IntKind.i64.wrap (IntKind.i64.wrap (IntKind.i64.wrap (IntKind.i64.wrap (IntKind.i64.wrap (IntKind.i64.wrap (y1 + 1) + 1) + 1) + 1) + 1) + 1) + 1) + 1),x.2.2.2.2.2.2.2.2.2.1,x.2.2.2.2.2.2.2.2.2.2))):Int))) (.br (decide (Int.toNat y2 < List.length (updE yT1 (updE yT1 (updE yT1 (updE yT1 (updE yT1 (updE yT1 (updE yT1 (updE yT1 (updE yT1 y0 (Int.toNat y2) fun x => (y1,x.2.1,x.2.2.1,x.2.2.2.1,x.2.2.2.2.1,x.2.2.2.2.2.1,x.2.2.2.2.2.2.1,x.2.2.2.2.2.2.2.1,x.2.2.2.2.2.2.2.2.1,x.2.2.2.2.2.2.2.2.2.1,x.2.2.2.2.2.2.2.2.2.2)) (Int.toNat y2) fun x => (x.1,IntKind.i64.wrap (y1 + 1),x.2.2.1,x.2.2.2.1,x.2.2.2.2.1,x.2.2.2.2.2.1,x.2.2.2.2.2.2.1,x.2.2.2.2.2.2.2.1,x.2.2.2.2.2.2.2.2.1,x.2.2.2.2.2.2.2.2.2.1,x.2.2.2.2.2.2.2.2.2.2)) (Int.toNat y2) fun x => (x.1,x.2.1,IntKind.i64.wrap (IntKind.i64.wrap (y1 + 1) + 1),x.2.2.2.1,x.2.2.2.2.1,x.2.2.2.2.2.1,x.2.2.2.2.2.2.1,x.2.2.2.2.2.2.2.1,x.2.2.2.2.2.2.2.2.1,x.2.2.2.2.2.2.2.2.2.1,x.2.2.2.2.2.2.2.2.2.2)) (Int.toNat y2) fun x => (x.1,x.2.1,x.2.2.1,IntKind.i64.wrap (IntKind.i64.wrap (IntKind.i64.wrap (y1 + 1) + 1) + 1),x.2.2.2.2.1,x.2.2.2.2.2.1,x.2.2.2.2.2.2.1,x.2.2.2.2.2.2.2.1,x.2.2.2.2.2.2.2.2.1,x.2.2.2.2.2.2.2.2.2.1,x.2.2.2.2.2.2.2.2.2.2)) (Int.toNat y2) fun x => (x.1,x.2.1,x.2.2.1,x.2.2.2.1,IntKind.i64.wrap (IntKind.i64.wrap (IntKind.i64.wrap (IntKind.i64.wrap (y1 + 1) + 1) + 1) + 1),x.2.2.2.2.2.1,x.2.2.2.2.2.2.1,x.2.2.2.2.2.2.2.1,x.2.2.2.2.2.2.2.2.1,x.2.2.2.2.2.2.2.2.2.1,x.2.2.2.2.2.2.2.2.2.2)) (Int.toNat y2) fun x => (x.1,x.2.1,x.2.2.1,x.2.2.2.1,x.2.2.2.2.1,IntKind.i64.wrap (IntKind.i64.wrap (IntKind.i64.wrap (IntKind.i64.wrap (IntKind.i64.wrap (y1 + 1) + 1) + 1) + 1) + 1),x.2.2.2.2.2.2.1,x.2.2.2.2.2.2.2.1,x.2.2.2.2.2.2.2.2.1,x.2.2.2.2.2.2.2.2.2.1,x.2.2.2.2.2.2.2.2.2.2)) (Int.toNat y2) fun x => (x.1,x.2.1,x.2.2.1,x.2.2.2.1,x.2.2.2.2.1,x.2.2.2.2.2.1,IntKind.i64.wrap (IntKind.i64.wrap (IntKind.i64.wrap (IntKind.i64.wrap (IntKind.i64.wrap (IntKind.i64.wrap (y1 + 1) + 1) + 1) + 1) + 1) + 1),x.2.2.2.2.2.2.2.1,x.2.2.2.2.2.2.2.2.1,x.2.2.2.2.2.2.2.2.2.1,x.2.2.2.2.2.2.2.2.2.2)) (Int.toNat y2) fun x => (x.1,x.2.1,x.2.2.1,x.2.2.2.1,x.2.2.2.2.1,x.2.2.2.2.2.1,x.2.2.2.2.2.2.1,IntKind.i64.wrap (IntKind.i64.wrap (IntKind.i64.wrap (IntKind.i64.wrap (IntKind.i64.wrap (IntKind.i64.wrap (IntKind.i64.wrap (y1 + 1) + 1) + 1) + 1) + 1) + 1) + 1),x.2.2.2.2.2.2.2.2.1,x.2.2.2.2.2.2.2.2.2.1,x.2.2.2.2.2.2.2.2.2.2)) (Int.toNat y2) fun x => (x.1,x.2.1,x.2.2.1,x.2.2.2.1,x.2.2.2.2.1,x.2.2.2.2.2.1,x.2.2.2.2.2.2.1,x.2.2.2.2.2.2.2.1,IntKind.i64.wrap (IntKind.i64.wrap (IntKind.i64.wrap (IntKind.i64.wrap (IntKind.i64.wrap (IntKind.i64.wrap (IntKind.i64.wrap (IntKind.i64.wrap (y1 + 1) + 1) + 1) + 1) + 1) + 1) + 1) + 1),x.2.2.2.2.2.2.2.2.2.1,x.2.2.2.2.2.2.2.2.2.2)))) (.br (true) (.br (decide (0 ≤ y2 ∧ y2 < (↑(List.length (updE yT1 (updE yT1 (updE yT1 (updE yT1 (updE yT1 (updE yT1 (updE yT1 (updE yT1 (updE yT1 (updE yT1 y0 (Int.toNat y2) fun x => (y1,x.2.1,x.2.2.1,x.2.2.2.1,x.2.2.2.2.1,x.2.2.2.2.2.1,x.2.2.2.2.2.2.1,x.2.2.2.2.2.2.2.1,x.2.2.2.2.2.2.2.2.1,x.2.2.2.2.2.2.2.2.2.1,x.2.2.2.2.2.2.2.2.2.2)) (Int.toNat y2) fun x => (x.1,IntKind.i64.wrap (y1 + 1),x.2.2.1,x.2.2.2.1,x.2.2.2.2.1,x.2.2.2.2.2.1,x.2.2.2.2.2.2.1,x.2.2.2.2.2.2.2.1,x.2.2.2.2.2.2.2.2.1,x.2.2.2.2.2.2.2.2.2.1,x.2.2.2.2.2.2.2.2.2.2)) (Int.toNat y2) fun x => (x.1,x.2.1,IntKind.i64.wrap (IntKind.i64.wrap (y1 + 1) + 1),x.2.2.2.1,x.2.2.2.2.1,x.2.2.2.2.2.1,x.2.2.2.2.2.2.1,x.2.2.2.2.2.2.2.1,x.2.2.2.2.2.2.2.2.1,x.2.2.2.2.2.2.2.2.2.1,x.2.2.2.2.2.2.2.2.2.2)) (Int.toNat y2) fun x => (x.1,x.2.1,x.2.2.1,IntKind.i64.wrap (IntKind.i64.wrap (IntKind.i64.wrap (y1 + 1) + 1) + 1),x.2.2.2.2.1,x.2.2.2.2.2.1,x.2.2.2.2.2.2.1,x.2.2.2.2.2.2.2.1,x.2.2.2.2.2.2.2.2.1,x.2.2.2.2.2.2.2.2.2.1,x.2.2.2.2.2.2.2.2.2.2)) (Int.toNat y2) fun x => (x.1,x.2.1,x.2.2.1,x.2.2.2.1,IntKind.i64.wrap (IntKind.i64.wrap (IntKind.i64.wrap (IntKind.i64.wrap (y1 + 1) + 1) + 1) + 1),x.2.2.2.2.2.1,x.2.2.2.2.2.2.1,x.2.2.2.2.2.2.2.1,x.2.2.2.2.2.2.2.2.1,x.2.2.2.2.2.2.2.2.2.1,x.2.2.2.2.2.2.2.2.2.2)) (Int.toNat y2) fun x => (x.1,x.2.1,x.2.2.1,x.2.2.2.1,x.2.2.2.2.1,IntKind.i64.wrap (IntKind.i64.wrap (IntKind.i64.wrap (IntKind.i64.wrap (IntKind.i64.wrap (y1 + 1) + 1) + 1) + 1) + 1),x.2.2.2.2.2.2.1,x.2.2.2.2.2.2.2.1,x.2.2.2.2.2.2.2.2.1,x.2.2.2.2.2.2.2.2.2.1,x.2.2.2.2.2.2.2.2.2.2)) (Int.toNat y2) fun x => (x.1,x.2.1,x.2.2.1,x.2.2.2.1,x.2.2.2.2.1,x.2.2.2.2.2.1,IntKind.i64.wrap (IntKind.i64.wrap (IntKind.i64.wrap (IntKind.i64.wrap (IntKind.i64.wrap (IntKind.i64.wrap (y1 + 1) + 1) + 1) + 1) + 1) + 1),x.2.2.2.2.2.2.2.1,x.2.2.2.2.2.2.2.2.1,x.2.2.2.2.2.2.2.2.2.1,x.2.2.2.2.2.2.2.2.2.2)) (Int.toNat y2) fun x => (x.1,x.2.1,x.2.2.1,x.2.2.2.1,x.2.2.2.2.1,x.2.2.2.2.2.1,x.2.2.2.2.2.2.1,IntKind.i64.wrap (IntKind.i64.wrap (IntKind.i64.wrap (IntKind.i64.wrap (IntKind.i64.wrap (IntKind.i64.wrap (IntKind.i64.wrap (y1 + 1) + 1) + 1) + 1) + 1) + 1) + 1),x.2.2.2.2.2.2.2.2.1,x.2.2.2.2.2.2.2.2.2.1,x.2.2.2.2.2.2.2.2.2.2)) (Int.toNat y2) fun x => (x.1,x.2.1,x.2.2.1,x.2.2.2.1,x.2.2.2.2.1,x.2.2.2.2.2.1,x.2.2.2.2.2.2.1,x.2.2.2.2.2.2.2.1,IntKind.i64.wrap (IntKind.i64.wrap (IntKind.i64.wrap (IntKind.i64.wrap (IntKind.i64.wrap (IntKind.i64.wrap (IntKind.i64.wrap (IntKind.i64.wrap (y1 + 1) + 1) + 1) + 1) + 1) + 1) + 1) + 1),x.2.2.2.2.2.2.2.2.2.1,x.2.2.2.2.2.2.2.2.2.2)) (Int.toNat y2) fun x => (x.1,x.2.1,x.2.2.1,x.2.2.2.1,x.2.2.2.2.1,x.2.2.2.2.2.1,x.2.2.2.2.2.2.1,x.2.2.2.2.2.2.2.1,x.2.2.2.2.2.2.2.2.1,IntKind.i64.wrap (IntKind.i64.wrap (IntKind.i64.wrap (IntKind.i64.wrap (IntKind.i64.wrap (IntKind.i64.wrap (IntKind.i64.wrap (IntKind.i64.wrap (IntKind.i64.wrap (y1 + 1) + 1) + 1) + 1) + 1) + 1) + 1) + 1) + 1),x.2.2.2.2.2.2.2.2.2.2))):Int))) (.br (decide (Int.toNat y2 < List.length (updE yT1 (updE yT1 (updE yT1 (updE yT1 (updE yT1 (updE yT1 (updE yT1 (updE yT1 (updE yT1 (updE yT1 y0 (Int.toNat y2) fun x => (y1,x.2.1,x.2.2.1,x.2.2.2.1,x.2.2.2.2.1,x.2.2.2.2.2.1,x.2.2.2.2.2.2.1,x.2.2.2.2.2.2.2.1,x.2.2.2.2.2.2.2.2.1,x.2.2.2.2.2.2.2.2.2.1,x.2.2.2.2.2.2.2.2.2.2)) (Int.toNat y2) fun x => (x.1,IntKind.i64.wrap (y1 + 1),x.2.2.1,x.2.2.2.1,x.2.2.2.2.1,x.2.2.2.2.2.1,x.2.2.2.2.2.2.1,x.2.2.2.2.2.2.2.1,x.2.2.2.2.2.2.2.2.1,x.2.2.2.2.2.2.2.2.2.1,x.2.2.2.2.2.2.2.2.2.2)) (Int.toNat y2) fun x => (x.1,x.2.1,IntKind.i64.wrap (IntKind.i64.wrap (y1 + 1) + 1),x.2.2.2.1,x.2.2.2.2.1,x.2.2.2.2.2.1,x.2.2.2.2.2.2.1,x.2.2.2.2.2.2.2.1,x.2.2.2.2.2.2.2.2.1,x.2.2.2.2.2.2.2.2.2.1,x.2.2.2.2.2.2.2.2.2.2)) (Int.toNat y2) fun x => (x.1,x.2.1,x.2.2.1,IntKind.i64.wrap (IntKind.i64.wrap (IntKind.i64.wrap (y1 + 1) + 1) + 1),x.2.2.2.2.1,x.2.2.2.2.2.1,x.2.2.2.2.2.2.1,x.2.2.2.2.2.2.2.1,x.2.2.2.2.2.2.2.2.1,x.2.2.2.2.2.2.2.2.2.1,x.2.2.2.2.2.2.2.2.2.2)) (Int.toNat y2) fun x => (x.1,x.2.1,x.2.2.1,x.2.2.2.1,IntKind.i64.wrap (IntKind.i64.wrap (IntKind.i64.wrap (IntKind.i64.wrap (y1 + 1) + 1) + 1) + 1),x.2.2.2.2.2.1,x.2.2.2.2.2.2.1,x.2.2.2.2.2.2.2.1,x.2.2.2.2.2.2.2.2.1,x.2.2.2.2.2.2.2.2.2.1,x.2.2.2.2.2.2.2.2.2.2)) (Int.toNat y2) fun x => (x.1,x.2.1,x.2.2.1,x.2.2.2.1,x.2.2.2.2.1,IntKind.i64.wrap (IntKind.i64.wrap (IntKind.i64.wrap (IntKind.i64.wrap (IntKind.i64.wrap (y1 + 1) + 1) + 1) + 1) + 1),x.2.2.2.2.2.2.1,x.2.2.2.2.2.2.2.1,x.2.2.2.2.2.2.2.2.1,x.2.2.2.2.2.2.2.2.2.1,x.2.2.2.2.2.2.2.2.2.2)) (Int.toNat y2) fun x => (x.1,x.2.1,x.2.2.1,x.2.2.2.1,x.2.2.2.2.1,x.2.2.2.2.2.1,IntKind.i64.wrap (IntKind.i64.wrap (IntKind.i64.wrap (IntKind.i64.wrap (IntKind.i64.wrap (IntKind.i64.wrap (y1 + 1) + 1) + 1) + 1) + 1) + 1),x.2.2.2.2.2.2.2.1,x.2.2.2.2.2.2.2.2.1,x.2.2.2.2.2.2.2.2.2.1,x.2.2.2.2.2.2.2.2.2.2)) (Int.toNat y2) fun x => (x.1,x.2.1,x.2.2.1,x.2.2.2.1,x.2.2.2.2.1,x.2.2.2.2.2.1,x.2.2.2.2.2.2.1,IntKind.i64.wrap (IntKind.i64.wrap (IntKind.i64.wrap (IntKind.i64.wrap (IntKind.i64.wrap (IntKind.i64.wrap (IntKind.i64.wrap (y1 + 1) + 1) + 1) + 1) + 1) + 1) + 1),x.2.2.2.2.2.2.2.2.1,x.2.2.2.2.2.2.2.2.2.1,x.2.2.2.2.2.2.2.2.2.2)) (Int.toNat y2) fun x => (x.1,x.2.1,x.2.2.1,x.2.2.2.1,x.2.2.2.2.1,x.2.2.2.2.2.1,x.2.2.2.2.2.2.1,x.2.2.2.2.2.2.2.1,IntKind.i64.wrap (IntKind.i64.wrap (IntKind.i64.wrap (IntKind.i64.wrap (IntKind.i64.wrap (IntKind.i64.wrap (IntKind.i64.wrap (IntKind.i64.wrap (y1 + 1) + 1) + 1) + 1) + 1) + 1) + 1) + 1),x.2.2.2.2.2.2.2.2.2.1,x.2.2.2.2.2.2.2.2.2.2)) (Int.toNat y2) fun x => (x.1,x.2.1,x.2.2.1,x.2.2.2.1,x.2.2.2.2.1,x.2.2.2.2.2.1,x.2.2.2.2.2.2.1,x.2.2.2.2.2.2.2.1,x.2.2.2.2.2.2.2.2.1,IntKind.i64.wrap (IntKind.i64.wrap (IntKind.i64.wrap (IntKind.i64.wrap (IntKind.i64.wrap (IntKind.i64.wrap (IntKind.i64.wrap (IntKind.i64.wrap (IntKind.i64.wrap (y1 + 1) + 1) + 1) + 1) + 1) + 1) + 1) + 1) + 1),x.2.2.2.2.2.2.2.2.2.2)))) (.br (true) (.br (true) (.go ((updE yT1 (updE yT1 (updE yT1 (updE yT1 (updE yT1 (updE yT1 (updE yT1 (updE yT1 (updE yT1 (updE yT1 (updE yT1 y0 (Int.toNat y2) fun x => (y1,x.2.1,x.2.2.1,x.2.2.2.1,x.2.2.2.2.1,x.2.2.2.2.2.1,x.2.2.2.2.2.2.1,x.2.2.2.2.2.2.2.1,x.2.2.2.2.2.2.2.2.1,x.2.2.2.2.2.2.2.2.2.1,x.2.2.2.2.2.2.2.2.2.2)) (Int.toNat y2) fun x => (x.1,IntKind.i64.wrap (y1 + 1),x.2.2.1,x.2.2.2.1,x.2.2.2.2.1,x.2.2.2.2.2.1,x.2.2.2.2.2.2.1,x.2.2.2.2.2.2.2.1,x.2.2.2.2.2.2.2.2.1,x.2.2.2.2.2.2.2.2.2.1,x.2.2.2.2.2.2.2.2.2.2)) (Int.toNat y2) fun x => (x.1,x.2.1,IntKind.i64.wrap (IntKind.i64.wrap (y1 + 1) + 1),x.2.2.2.1,x.2.2.2.2.1,x.2.2.2.2.2.1,x.2.2.2.2.2.2.1,x.2.2.2.2.2.2.2.1,x.2.2.2.2.2.2.2.2.1,x.2.2.2.2.2.2.2.2.2.1,x.2.2.2.2.2.2.2.2.2.2)) (Int.toNat y2) fun x => (x.1,x.2.1,x.2.2.1,IntKind.i64.wrap (IntKind.i64.wrap (IntKind.i64.wrap (y1 + 1) + 1) + 1),x.2.2.2.2.1,x.2.2.2.2.2.1,x.2.2.2.2.2.2.1,x.2.2.2.2.2.2.2.1,x.2.2.2.2.2.2.2.2.1,x.2.2.2.2.2.2.2.2.2.1,x.2.2.2.2.2.2.2.2.2.2)) (Int.toNat y2) fun x => (x.1,x.2.1,x.2.2.1,x.2.2.2.1,IntKind.i64.wrap (IntKind.i64.wrap (IntKind.i64.wrap (IntKind.i64.wrap (y1 + 1) + 1) + 1) + 1),x.2.2.2.2.2.1,x.2.2.2.2.2.2.1,x.2.2.2.2.2.2.2.1,x.2.2.2.2.2.2.2.2.1,x.2.2.2.2.2.2.2.2.2.1,x.2.2.2.2.2.2.2.2.2.2)) (Int.toNat y2) fun x => (x.1,x.2.1,x.2.2.1,x.2.2.2.1,x.2.2.2.2.1,IntKind.i64.wrap (IntKind.i64.wrap (IntKind.i64.wrap (IntKind.i64.wrap (IntKind.i64.wrap (y1 + 1) + 1) + 1) + 1) + 1),x.2.2.2.2.2.2.1,x.2.2.2.2.2.2.2.1,x.2.2.2.2.2.2.2.2.1,x.2.2.2.2.2.2.2.2.2.1,x.2.2.2.2.2.2.2.2.2.2)) (Int.toNat y2) fun x => (x.1,x.2.1,x.2.2.1,x.2.2.2.1,x.2.2.2.2.1,x.2.2.2.2.2.1,IntKind.i64.wrap (IntKind.i64.wrap (IntKind.i64.wrap (IntKind.i64.wrap (IntKind.i64.wrap (IntKind.i64.wrap (y1 + 1) + 1) + 1) + 1) + 1) + 1),x.2.2.2.2.2.2.2.1,x.2.2.2.2.2.2.2.2.1,x.2.2.2.2.2.2.2.2.2.1,x.2.2.2.2.2.2.2.2.2.2)) (Int.toNat y2) fun x => (x.1,x.2.1,x.2.2.1,x.2.2.2.1,x.2.2.2.2.1,x.2.2.2.2.2.1,x.2.2.2.2.2.2.1,IntKind.i64.wrap (IntKind.i64.wrap (IntKind.i64.wrap (IntKind.i64.wrap (IntKind.i64.wrap (IntKind.i64.wrap (IntKind.i64.wrap (y1 + 1) + 1) + 1) + 1) + 1) + 1) + 1),x.2.2.2.2.2.2.2.2.1,x.2.2.2.2.2.2.2.2.2.1,x.2.2.2.2.2.2.2.2.2.2)) (Int.toNat y2) fun x => (x.1,x.2.1,x.2.2.1,x.2.2.2.1,x.2.2.2.2.1,x.2.2.2.2.2.1,x.2.2.2.2.2.2.1,x.2.2.2.2.2.2.2.1,IntKind.i64.wrap (IntKind.i64.wrap (IntKind.i64.wrap (IntKind.i64.wrap (IntKind.i64.wrap (IntKind.i64.wrap (IntKind.i64.wrap (IntKind.i64.wrap (y1 + 1) + 1) + 1) + 1) + 1) + 1) + 1) + 1),x.2.2.2.2.2.2.2.2.2.1,x.2.2.2.2.2.2.2.2.2.2)) (Int.toNat y2) fun x => (x.1,x.2.1,x.2.2.1,x.2.2.2.1,x.2.2.2.2.1,x.2.2.2.2.2.1,x.2.2.2.2.2.2.1,x.2.2.2.2.2.2.2.1,x.2.2.2.2.2.2.2.2.1,IntKind.i64.wrap (IntKind.i64.wrap (IntKind.i64.wrap (IntKind.i64.wrap (IntKind.i64.wrap (IntKind.i64.wrap (IntKind.i64.wrap (IntKind.i64.wrap (IntKind.i64.wrap (y1 + 1) + 1) + 1) + 1) + 1) + 1) + 1) + 1) + 1),x.2.2.2.2.2.2.2.2.2.2)) (Int.toNat y2) fun x => (x.1,x.2.1,x.2.2.1,x.2.2.2.1,x.2.2.2.2.1,x.2.2.2.2.2.1,x.2.2.2.2.2.2.1,x.2.2.2.2.2.2.2.1,x.2.2.2.2.2.2.2.2.1,x.2.2.2.2.2.2.2.2.2.1,IntKind.i64.wrap (IntKind.i64.wrap (IntKind.i64.wrap (IntKind.i64.wrap (IntKind.i64.wrap (IntKind.i64.wrap (IntKind.i64.wrap (IntKind.i64.wrap (IntKind.i64.wrap (IntKind.i64.wrap (y1 + 1) + 1) + 1) + 1) + 1) + 1) + 1) + 1) + 1) + 1)),IntKind.i64.wrap (IntKind.i64.wrap (IntKind.i64.wrap (IntKind.i64.wrap (IntKind.i64.wrap (IntKind.i64.wrap (IntKind.i64.wrap (IntKind.i64.wrap (IntKind.i64.wrap (IntKind.i64.wrap (IntKind.i64.wrap (y1 + 1) + 1) + 1) + 1) + 1) + 1) + 1) + 1) + 1) + 1) + 1),IntKind.i64.wrap (y2 + 1)))) .bad) .bad) .bad) .bad) .bad) .bad) .bad) .bad) .bad) .bad) .bad) .bad) .bad) .bad) .bad) .bad) .bad) .bad) .bad) .bad) .bad) .bad) .bad) .bad) .bad) .bad) .bad) .bad) .bad) .bad) .bad) .bad) .bad) .bad) (.out ((y0,y1)))) .bad
def g_Lw_markMsgMsgS_0 (x:tL3×Int×Int):Option ((tL3×Int)) := loopO (g_Sw_markMsgMsgS_0) x
def xw_markMsgMsgS_0:((tL3×Int)) → Ex×List (Pl×LV) := fun r => (.exit 0,[(.T 0,.t (.val false [.row 0 0 0])),(.R 0 0,.r 0 (some ⟨false,.any,true,83,(.pair (.int .i64) (.pair (.int .i64) (.pair (.int .i64) (.pair (.int .i64) (.pair (.int .i64) (.pair (.int .i64) (.pair (.int .i64) (.pair (.int .i64) (.pair (.int .i64) (.pair (.int .i64) (.int .i64))))))))))),r.1⟩)),(.T 1,.t (.val false [.int .i64 r.2]))])
def Ow_markMsgMsgS_1:Orc := fun b h => match b,h with
 | 0,[(.T 0,.t (.val false [.row 0 0 0])),(.R 0 0,.r 0 (some ⟨false,.any,true,83,(.pair (.int .i64) (.pair (.int .i64) (.pair (.int .i64) (.pair (.int .i64) (.pair (.int .i64) (.pair (.int .i64) (.pair (.int .i64) (.pair (.int .i64) (.pair (.int .i64) (.pair (.int .i64) (.int .i64))))))))))),y0⟩)),(.T 1,.t (.val false [.int .i64 y1])),(.T 5,.t (.val false [.int .i64 y2]))] => some (okO (g_Lw_markMsgMsgS_0 (y0,y1,y2)),(.leaf (.exit 0) [(.T 0,.t (.val false [.row 0 0 0])),(.R 0 0,.r 0 (some ⟨false,.any,true,83,(.pair (.int .i64) (.pair (.int .i64) (.pair (.int .i64) (.pair (.int .i64) (.pair (.int .i64) (.pair (.int .i64) (.pair (.int .i64) (.pair (.int .i64) (.pair (.int .i64) (.pair (.int .i64) (.int .i64))))))))))),(valO (g_Lw_markMsgMsgS_0 (y0,y1,y2))).1⟩)),(.T 1,.t (.val false [.int .i64 (valO (g_Lw_markMsgMsgS_0 (y0,y1,y2))).2]))]))
 | b,h => Ow_markMsgMsgS_0 b h
theorem bw_markMsgMsgS_0 (y0:tL3) (y1:Int) (y2:Int):Tr.bt Ew_markMsgMsgS Ow_markMsgMsgS_0 (exec Ew_markMsgMsgS 0 cw_markMsgMsgS_0 (St.of (hw_markMsgMsgS_0 y0 y1 y2)) (leafRd Ew_markMsgMsgS 0)) = (g_Sw_markMsgMsgS_0 (y0,y1,y2)).bt (fun ((y0,y1,y2):tL3×Int×Int) => (hw_markMsgMsgS_0 y0 y1 y2)) (xw_markMsgMsgS_0) := by kernel_rfl
theorem kw_markMsgMsgS_1:OrcOk Ew_markMsgMsgS Ow_markMsgMsgS_1 lsw_markMsgMsgS 1 := orc_add kw_markMsgMsgS_0 (fun n p hp h ex h' ho => by
 obtain ⟨b,c⟩ := p
 obtain ⟨xt,h1,h2⟩ := ho
 have h1:Ow_markMsgMsgS_1 b h = some (true,xt) := h1
 unfold Ow_markMsgMsgS_1 at h1
 split at h1
 ·injection h1 with h1
  injection h1 with e1 e2
  subst e2
  have hc:c = cw_markMsgMsgS_0 := mw_markMsgMsgS_0 _ hp rfl
  subst hc
  right
  rename_i y0 y1 y2
  have key := LT_step kw_markMsgMsgS_0 hp (fun q hq => loopsAll_in _ _ _ _ hp hq) (fun ((y0,y1,y2):tL3×Int×Int) => (hw_markMsgMsgS_0 y0 y1 y2)) (xw_markMsgMsgS_0) (g_Sw_markMsgMsgS_0) (fun x => by first | exact bw_markMsgMsgS_0 x.1 x.2.1 x.2.2) n (x := (y0,y1,y2)) (okO_some e1)
  have hx:∀ r,XT.sel (.leaf (.exit 0) [(.T 0,.t (.val false [.row 0 0 0])),(.R 0 0,.r 0 (some ⟨false,.any,true,83,(.pair (.int .i64) (.pair (.int .i64) (.pair (.int .i64) (.pair (.int .i64) (.pair (.int .i64) (.pair (.int .i64) (.pair (.int .i64) (.pair (.int .i64) (.pair (.int .i64) (.pair (.int .i64) (.int .i64))))))))))),r.1⟩)),(.T 1,.t (.val false [.int .i64 r.2]))]) = xw_markMsgMsgS_0 r := fun r => by first | rfl | rcases r with r | r <;> rfl | rcases r with r | r | r <;> rfl | rcases r with r | r | r | r <;> rfl
  have h3 := (hx (valO (g_Lw_markMsgMsgS_0 (y0,y1,y2)))).symm.trans h2
  have e3 := congrArg Prod.fst h3
  have e4 := congrArg Prod.snd h3
  simp only at e3 e4
  rw [← e3,← e4]
  exact key
 ·exact .inl ⟨xt,h1,h2⟩)
def g_Aw_markMsgMsgS (a0:tL3) (a1:Int):Bool := okO (g_Lw_markMsgMsgS_0 (a0,a1,(0:Int)))
def g_Vw_markMsgMsgS_0 (a0:tL3) (a1:Int):Int := (valO (g_Lw_markMsgMsgS_0 (a0,a1,(0:Int)))).2
def g_Vw_markMsgMsgS_1 (a0:tL3) (a1:Int):tL3 := (valO (g_Lw_markMsgMsgS_0 (a0,a1,(0:Int)))).1
def Fw_markMsgMsgS:FSem := fun ys => match ys with
 | [.val false [.own .any true 83 (.pair (.int .i64) (.pair (.int .i64) (.pair (.int .i64) (.pair (.int .i64) (.pair (.int .i64) (.pair (.int .i64) (.pair (.int .i64) (.pair (.int .i64) (.pair (.int .i64) (.pair (.int .i64) (.int .i64))))))))))) a0],.val false [.int .i64 a1]] => some ((g_Aw_markMsgMsgS a0 a1),.val false [.int .i64 (g_Vw_markMsgMsgS_0 a0 a1)],[[.own .any true 83 (.pair (.int .i64) (.pair (.int .i64) (.pair (.int .i64) (.pair (.int .i64) (.pair (.int .i64) (.pair (.int .i64) (.pair (.int .i64) (.pair (.int .i64) (.pair (.int .i64) (.pair (.int .i64) (.int .i64))))))))))) (g_Vw_markMsgMsgS_1 a0 a1)]])
 | _ => none
theorem vw_markMsgMsgS (a0:tL3) (a1:Int):collapseH .std Ew_markMsgMsgS Ow_markMsgMsgS_1 (execFn Ew_markMsgMsgS Tryz.f14 msw_markMsgMsgS [.val false [.own .any true 83 (.pair (.int .i64) (.pair (.int .i64) (.pair (.int .i64) (.pair (.int .i64) (.pair (.int .i64) (.pair (.int .i64) (.pair (.int .i64) (.pair (.int .i64) (.pair (.int .i64) (.pair (.int .i64) (.int .i64))))))))))) a0],.val false [.int .i64 a1]]) = some ((g_Aw_markMsgMsgS a0 a1),.val false [.int .i64 (g_Vw_markMsgMsgS_0 a0 a1)],[[.own .any true 83 (.pair (.int .i64) (.pair (.int .i64) (.pair (.int .i64) (.pair (.int .i64) (.pair (.int .i64) (.pair (.int .i64) (.pair (.int .i64) (.pair (.int .i64) (.pair (.int .i64) (.pair (.int .i64) (.int .i64))))))))))) (g_Vw_markMsgMsgS_1 a0 a1)]]) := by kernel_rfl
theorem sw_markMsgMsgS:Sound Tryz.prog 14 msw_markMsgMsgS Fw_markMsgMsgS := by
 refine fn_gen goodw_markMsgMsgS (by kernel_rfl) .std (fn := Tryz.f14) (c := (Tryz.f14.body.getD .skip)) (o := Ow_markMsgMsgS_1) (k := 1) (by kernel_rfl) (by kernel_rfl) (by kernel_rfl) (by kernel_rfl) (by decide) kw_markMsgMsgS_1 ?_
 intro ys r outs h
 unfold Fw_markMsgMsgS at h
 split at h
 ·exact (vw_markMsgMsgS _ _).trans h
 ·cases h
def Ew_szIntS:Env where
 tt := mkTI Tryz.prog
 fn := fun _ => none
 bxf := fun _ => none
 mv := []
 keep := fun _ => []
 keepB := fun _ => []
 keepX := fun _ => []
 keepXB := fun _ => []
theorem goodFw_szIntS:∀ f ms F,Ew_szIntS.fn f = some (ms,F) → Sound Tryz.prog f ms F := fun f ms F h => by cases h
theorem goodw_szIntS:Good Tryz.prog Ew_szIntS := ⟨rfl,goodFw_szIntS,fun f ms F h => by cases h⟩
def Ow_szIntS_0:Orc := fun _ _ => none
def msw_szIntS:List PM := [.rd,.own]
def lsw_szIntS:List (Nat×Code) := loopsAll 0 (Tryz.f133.body.getD .skip)
theorem kw_szIntS_0:OrcOk Ew_szIntS Ow_szIntS_0 lsw_szIntS 0 := orcOk_none
def g_Vw_szIntS_0 (a0:List Int) (a1:Int):Int := bif decide (IntKind.i64.wrap (a1 - (a0.length:Int)) < 0) then (-1:Int) else IntKind.i64.wrap (a1 - (a0.length:Int))
def Fw_szIntS:FSem := fun ys => match ys with
 | [.val false [.sl .any 3 (.int .i64) a0],.val false [.int .i64 a1]] => some (true,.val false [.int .i64 (g_Vw_szIntS_0 a0 a1)],[])
 | _ => none
theorem vw_szIntS (a0:List Int) (a1:Int):collapseH .std Ew_szIntS Ow_szIntS_0 (execFn Ew_szIntS Tryz.f133 msw_szIntS [.val false [.sl .any 3 (.int .i64) a0],.val false [.int .i64 a1]]) = some (true,.val false [.int .i64 (g_Vw_szIntS_0 a0 a1)],[]) := by kernel_rfl
theorem sw_szIntS:Sound Tryz.prog 133 msw_szIntS Fw_szIntS := by
 refine fn_gen goodw_szIntS (by kernel_rfl) .std (fn := Tryz.f133) (c := (Tryz.f133.body.getD .skip)) (o := Ow_szIntS_0) (k := 0) (by kernel_rfl) (by kernel_rfl) (by kernel_rfl) (by kernel_rfl) (by decide) kw_szIntS_0 ?_
 intro ys r outs h
 unfold Fw_szIntS at h
 split at h
 ·exact (vw_szIntS _ _).trans h
 ·cases h
def Ew_szFroTx:Env where
 tt := mkTI Tryz.prog
 fn := fun f => match f with
  | 133 => some (msw_szIntS,FSem.wk msw_szIntS Fw_szIntS)
  | _ => none
 bxf := fun _ => none
 mv := []
 keep := fun _ => []
 keepB := fun _ => []
 keepX := fun _ => []
 keepXB := fun _ => []
theorem goodFw_szFroTx:∀ f ms F,Ew_szFroTx.fn f = some (ms,F) → Sound Tryz.prog f ms F := fun f ms F h => by
 unfold Ew_szFroTx at h
 dsimp only at h
 split at h
 ·exact gF sw_szIntS h
 ·cases h
theorem goodw_szFroTx:Good Tryz.prog Ew_szFroTx := ⟨rfl,goodFw_szFroTx,fun f ms F h => by cases h⟩
def Ow_szFroTx_0:Orc := fun _ _ => none
def msw_szFroTx:List PM := [.rd,.own]
def lsw_szFroTx:List (Nat×Code) := loopsAll 0 (Tryz.f89.body.getD .skip)
theorem kw_szFroTx_0:OrcOk Ew_szFroTx Ow_szFroTx_0 lsw_szFroTx 0 := orcOk_none
def g_Aw_szFroTx (a0:Int) (a1:Int) (a2:Int) (a3:Int) (a4:Int) (a5:Int) (a6:Int) (a7:Int) (a8:Bool) (a9:List Int) (a10:List Int) (a11:Int):Bool := decide (g_Vw_szIntS_0 a9 a11 < 0) || true
def g_Vw_szFroTx_0 (a0:Int) (a1:Int) (a2:Int) (a3:Int) (a4:Int) (a5:Int) (a6:Int) (a7:Int) (a8:Bool) (a9:List Int) (a10:List Int) (a11:Int):Int := bif decide (g_Vw_szIntS_0 a9 a11 < 0) then (-1:Int) else bif decide (g_Vw_szIntS_0 a10 (g_Vw_szIntS_0 a9 a11) < 0) then (-1:Int) else g_Vw_szIntS_0 a10 (g_Vw_szIntS_0 a9 a11)
def Fw_szFroTx:FSem := fun ys => match ys with
 | [.val true [.int .i64 a0,.int .i64 a1,.int .i64 a2,.int .i64 a3,.int .i64 a4,.int .i64 a5,.int .i64 a6,.int .i64 a7,.bool a8,.sl .any 3 (.int .i64) a9,.sl .any 3 (.int .i64) a10],.val false [.int .i64 a11]] => some ((g_Aw_szFroTx a0 a1 a2 a3 a4 a5 a6 a7 a8 a9 a10 a11),.val false [.int .i64 (g_Vw_szFroTx_0 a0 a1 a2 a3 a4 a5 a6 a7 a8 a9 a10 a11)],[])
 | _ => none
theorem vw_szFroTx (a0:Int) (a1:Int) (a2:Int) (a3:Int) (a4:Int) (a5:Int) (a6:Int) (a7:Int) (a8:Bool) (a9:List Int) (a10:List Int) (a11:Int):collapseH .std Ew_szFroTx Ow_szFroTx_0 (execFn Ew_szFroTx Tryz.f89 msw_szFroTx [.val true [.int .i64 a0,.int .i64 a1,.int .i64 a2,.int .i64 a3,.int .i64 a4,.int .i64 a5,.int .i64 a6,.int .i64 a7,.bool a8,.sl .any 3 (.int .i64) a9,.sl .any 3 (.int .i64) a10],.val false [.int .i64 a11]]) = some ((g_Aw_szFroTx a0 a1 a2 a3 a4 a5 a6 a7 a8 a9 a10 a11),.val false [.int .i64 (g_Vw_szFroTx_0 a0 a1 a2 a3 a4 a5 a6 a7 a8 a9 a10 a11)],[]) := by kernel_rfl
theorem sw_szFroTx:Sound Tryz.prog 89 msw_szFroTx Fw_szFroTx := by
 refine fn_gen goodw_szFroTx (by kernel_rfl) .std (fn := Tryz.f89) (c := (Tryz.f89.body.getD .skip)) (o := Ow_szFroTx_0) (k := 0) (by kernel_rfl) (by kernel_rfl) (by kernel_rfl) (by kernel_rfl) (by decide) kw_szFroTx_0 ?_
 intro ys r outs h
 unfold Fw_szFroTx at h
 split at h
 ·exact (vw_szFroTx _ _ _ _ _ _ _ _ _ _ _ _).trans h
 ·cases h
def Ew_szFroTxS:Env where
 tt := mkTI Tryz.prog
 fn := fun f => match f with
  | 89 => some (msw_szFroTx,FSem.wk msw_szFroTx Fw_szFroTx)
  | _ => none
 bxf := fun _ => none
 mv := []
 keep := fun b => match b with
  | 0 => [(0,false),(1,false),(5,false)]
  | _ => []
 keepB := fun b => match b with
  | 0 => []
  | _ => []
 keepX := fun b => match b with
  | 0 => [(1,false),(4,false)]
  | _ => []
 keepXB := fun b => match b with
  | 0 => []
  | _ => []
theorem goodFw_szFroTxS:∀ f ms F,Ew_szFroTxS.fn f = some (ms,F) → Sound Tryz.prog f ms F := fun f ms F h => by
 unfold Ew_szFroTxS at h
 dsimp only at h
 split at h
 ·exact gF sw_szFroTx h
 ·cases h
theorem goodw_szFroTxS:Good Tryz.prog Ew_szFroTxS := ⟨rfl,goodFw_szFroTxS,fun f ms F h => by cases h⟩
def Ow_szFroTxS_0:Orc := fun _ _ => none
def msw_szFroTxS:List PM := [.rd,.own]
def lsw_szFroTxS:List (Nat×Code) := loopsAll 0 (Tryz.f28.body.getD .skip)
def cw_szFroTxS_0:Code := (loopOf 0 (Tryz.f28.body.getD .skip)).getD .skip
theorem lseqw_szFroTxS:lsw_szFroTxS = [(0,cw_szFroTxS_0)] := by kernel_rfl
theorem mw_szFroTxS_0:∀ p,p ∈ lsw_szFroTxS → p.1 = 0 → p.2 = cw_szFroTxS_0 := by
 intro p hp
 rw [lseqw_szFroTxS] at hp
 simp only [List.mem_cons,List.not_mem_nil,or_false] at hp
 subst hp; simp
theorem kw_szFroTxS_0:OrcOk Ew_szFroTxS Ow_szFroTxS_0 lsw_szFroTxS 0 := orcOk_none
def hw_szFroTxS_0 (y0:tL1) (y1:Int) (y2:Int):List (Pl×LV) := [(.T 0,.t (.val false [.sl .any 129 (.pair (.int .i64) (.pair (.pair (.int .i64) (.pair (.int .i64) (.pair (.int .i64) (.pair (.int .i64) (.pair (.int .i64) (.pair (.int .i64) (.int .i64))))))) (.pair .bool (.pair (.sl 3 (.int .i64)) (.sl 3 (.int .i64)))))) y0])),(.T 1,.t (.val false [.int .i64 y1])),(.T 5,.t (.val false [.int .i64 y2]))]
def g_Sw_szFroTxS_0 (y0:tL1):(Int×Int) → RT (Int×Int) ((Int×Int) ⊕ (Int))
 | (y1,y2) => .br (true) (.br (decide (y2 < (y0.length:Int))) (.br (decide (0 ≤ y2 ∧ y2 < (y0.length:Int))) (.br (g_Aw_szFroTx (at_ yT0 y0 (Int.toNat y2)).1 (at_ yT0 y0 (Int.toNat y2)).2.1.1 (at_ yT0 y0 (Int.toNat y2)).2.1.2.1 (at_ yT0 y0 (Int.toNat y2)).2.1.2.2.1 (at_ yT0 y0 (Int.toNat y2)).2.1.2.2.2.1 (at_ yT0 y0 (Int.toNat y2)).2.1.2.2.2.2.1 (at_ yT0 y0 (Int.toNat y2)).2.1.2.2.2.2.2.1 (at_ yT0 y0 (Int.toNat y2)).2.1.2.2.2.2.2.2 (at_ yT0 y0 (Int.toNat y2)).2.2.1 (at_ yT0 y0 (Int.toNat y2)).2.2.2.1 (at_ yT0 y0 (Int.toNat y2)).2.2.2.2 y1) (.br (true) (.br (decide (g_Vw_szFroTx_0 (at_ yT0 y0 (Int.toNat y2)).1 (at_ yT0 y0 (Int.toNat y2)).2.1.1 (at_ yT0 y0 (Int.toNat y2)).2.1.2.1 (at_ yT0 y0 (Int.toNat y2)).2.1.2.2.1 (at_ yT0 y0 (Int.toNat y2)).2.1.2.2.2.1 (at_ yT0 y0 (Int.toNat y2)).2.1.2.2.2.2.1 (at_ yT0 y0 (Int.toNat y2)).2.1.2.2.2.2.2.1 (at_ yT0 y0 (Int.toNat y2)).2.1.2.2.2.2.2.2 (at_ yT0 y0 (Int.toNat y2)).2.2.1 (at_ yT0 y0 (Int.toNat y2)).2.2.2.1 (at_ yT0 y0 (Int.toNat y2)).2.2.2.2 y1 < 0)) (.out (.inl ((g_Vw_szFroTx_0 (at_ yT0 y0 (Int.toNat y2)).1 (at_ yT0 y0 (Int.toNat y2)).2.1.1 (at_ yT0 y0 (Int.toNat y2)).2.1.2.1 (at_ yT0 y0 (Int.toNat y2)).2.1.2.2.1 (at_ yT0 y0 (Int.toNat y2)).2.1.2.2.2.1 (at_ yT0 y0 (Int.toNat y2)).2.1.2.2.2.2.1 (at_ yT0 y0 (Int.toNat y2)).2.1.2.2.2.2.2.1 (at_ yT0 y0 (Int.toNat y2)).2.1.2.2.2.2.2.2 (at_ yT0 y0 (Int.toNat y2)).2.2.1 (at_ yT0 y0 (Int.toNat y2)).2.2.2.1 (at_ yT0 y0 (Int.toNat y2)).2.2.2.2 y1,(-1:Int))))) (.br (true) (.go ((g_Vw_szFroTx_0 (at_ yT0 y0 (Int.toNat y2)).1 (at_ yT0 y0 (Int.toNat y2)).2.1.1 (at_ yT0 y0 (Int.toNat y2)).2.1.2.1 (at_ yT0 y0 (Int.toNat y2)).2.1.2.2.1 (at_ yT0 y0 (Int.toNat y2)).2.1.2.2.2.1 (at_ yT0 y0 (Int.toNat y2)).2.1.2.2.2.2.1 (at_ yT0 y0 (Int.toNat y2)).2.1.2.2.2.2.2.1 (at_ yT0 y0 (Int.toNat y2)).2.1.2.2.2.2.2.2 (at_ yT0 y0 (Int.toNat y2)).2.2.1 (at_ yT0 y0 (Int.toNat y2)).2.2.2.1 (at_ yT0 y0 (Int.toNat y2)).2.2.2.2 y1,IntKind.i64.wrap (y2 + 1)))) .bad)) .bad) .bad) .bad) (.out (.inr (y1)))) .bad
def g_Lw_szFroTxS_0 (y0:tL1) (x:Int×Int):Option ((Int×Int) ⊕ (Int)) := loopO (g_Sw_szFroTxS_0 y0) x
def xw_szFroTxS_0 (y0:tL1):((Int×Int) ⊕ (Int)) → Ex×List (Pl×LV) := fun
 | .inl r => (.ret,[(.T 1,.t (.val false [.int .i64 r.1])),(.T 4,.t (.val false [.int .i64 r.2]))])
 | .inr (r) => (.exit 0,[(.T 1,.t (.val false [.int .i64 r])),(.T 4,.t (.val false [.undef]))])
def Ow_szFroTxS_1:Orc := fun b h => match b,h with
 | 0,[(.T 0,.t (.val false [.sl .any 129 (.pair (.int .i64) (.pair (.pair (.int .i64) (.pair (.int .i64) (.pair (.int .i64) (.pair (.int .i64) (.pair (.int .i64) (.pair (.int .i64) (.int .i64))))))) (.pair .bool (.pair (.sl 3 (.int .i64)) (.sl 3 (.int .i64)))))) y0])),(.T 1,.t (.val false [.int .i64 y1])),(.T 5,.t (.val false [.int .i64 y2]))] => some (okO (g_Lw_szFroTxS_0 y0 (y1,y2)),(.br (isL (valO (g_Lw_szFroTxS_0 y0 (y1,y2)))) (.leaf .ret [(.T 1,.t (.val false [.int .i64 (getL (valO (g_Lw_szFroTxS_0 y0 (y1,y2)))).1])),(.T 4,.t (.val false [.int .i64 (getL (valO (g_Lw_szFroTxS_0 y0 (y1,y2)))).2]))]) (.leaf (.exit 0) [(.T 1,.t (.val false [.int .i64 (getR (valO (g_Lw_szFroTxS_0 y0 (y1,y2))))])),(.T 4,.t (.val false [.undef]))])))
 | b,h => Ow_szFroTxS_0 b h
theorem bw_szFroTxS_0 (y0:tL1) (y1:Int) (y2:Int):Tr.bt Ew_szFroTxS Ow_szFroTxS_0 (exec Ew_szFroTxS 0 cw_szFroTxS_0 (St.of (hw_szFroTxS_0 y0 y1 y2)) (leafRd Ew_szFroTxS 0)) = (g_Sw_szFroTxS_0 y0 (y1,y2)).bt (fun ((y1,y2):Int×Int) => (hw_szFroTxS_0 y0 y1 y2)) (xw_szFroTxS_0 y0) := by kernel_rfl
theorem kw_szFroTxS_1:OrcOk Ew_szFroTxS Ow_szFroTxS_1 lsw_szFroTxS 1 := orc_add kw_szFroTxS_0 (fun n p hp h ex h' ho => by
 obtain ⟨b,c⟩ := p
 obtain ⟨xt,h1,h2⟩ := ho
 have h1:Ow_szFroTxS_1 b h = some (true,xt) := h1
 unfold Ow_szFroTxS_1 at h1
 split at h1
 ·injection h1 with h1
  injection h1 with e1 e2
  subst e2
  have hc:c = cw_szFroTxS_0 := mw_szFroTxS_0 _ hp rfl
  subst hc
  right
  rename_i y0 y1 y2
  have key := LT_step kw_szFroTxS_0 hp (fun q hq => loopsAll_in _ _ _ _ hp hq) (fun ((y1,y2):Int×Int) => (hw_szFroTxS_0 y0 y1 y2)) (xw_szFroTxS_0 y0) (g_Sw_szFroTxS_0 y0) (fun x => by first | exact bw_szFroTxS_0 y0 x.1 x.2) n (x := (y1,y2)) (okO_some e1)
  have hx:∀ r,XT.sel (.br (isL r) (.leaf .ret [(.T 1,.t (.val false [.int .i64 (getL r).1])),(.T 4,.t (.val false [.int .i64 (getL r).2]))]) (.leaf (.exit 0) [(.T 1,.t (.val false [.int .i64 (getR r)])),(.T 4,.t (.val false [.undef]))])) = xw_szFroTxS_0 y0 r := fun r => by first | rfl | rcases r with r | r <;> rfl | rcases r with r | r | r <;> rfl | rcases r with r | r | r | r <;> rfl
  have h3 := (hx (valO (g_Lw_szFroTxS_0 y0 (y1,y2)))).symm.trans h2
  have e3 := congrArg Prod.fst h3
  have e4 := congrArg Prod.snd h3
  simp only at e3 e4
  rw [← e3,← e4]
  exact key
 ·exact .inl ⟨xt,h1,h2⟩)
def g_Aw_szFroTxS (a0:tL1) (a1:Int):Bool := decide (IntKind.i64.wrap (a1 - (a0.length:Int)) < 0) || okO (g_Lw_szFroTxS_0 a0 (IntKind.i64.wrap (a1 - (a0.length:Int)),(0:Int)))
def g_Vw_szFroTxS_0 (a0:tL1) (a1:Int):Int := bif decide (IntKind.i64.wrap (a1 - (a0.length:Int)) < 0) then (-1:Int) else bif isL (valO (g_Lw_szFroTxS_0 a0 (IntKind.i64.wrap (a1 - (a0.length:Int)),(0:Int)))) then (getL (valO (g_Lw_szFroTxS_0 a0 (IntKind.i64.wrap (a1 - (a0.length:Int)),(0:Int))))).2 else getR (valO (g_Lw_szFroTxS_0 a0 (IntKind.i64.wrap (a1 - (a0.length:Int)),(0:Int))))
def Fw_szFroTxS:FSem := fun ys => match ys with
 | [.val false [.sl .any 129 (.pair (.int .i64) (.pair (.pair (.int .i64) (.pair (.int .i64) (.pair (.int .i64) (.pair (.int .i64) (.pair (.int .i64) (.pair (.int .i64) (.int .i64))))))) (.pair .bool (.pair (.sl 3 (.int .i64)) (.sl 3 (.int .i64)))))) a0],.val false [.int .i64 a1]] => some ((g_Aw_szFroTxS a0 a1),.val false [.int .i64 (g_Vw_szFroTxS_0 a0 a1)],[])
 | _ => none
theorem vw_szFroTxS (a0:tL1) (a1:Int):collapseH .std Ew_szFroTxS Ow_szFroTxS_1 (execFn Ew_szFroTxS Tryz.f28 msw_szFroTxS [.val false [.sl .any 129 (.pair (.int .i64) (.pair (.pair (.int .i64) (.pair (.int .i64) (.pair (.int .i64) (.pair (.int .i64) (.pair (.int .i64) (.pair (.int .i64) (.int .i64))))))) (.pair .bool (.pair (.sl 3 (.int .i64)) (.sl 3 (.int .i64)))))) a0],.val false [.int .i64 a1]]) = some ((g_Aw_szFroTxS a0 a1),.val false [.int .i64 (g_Vw_szFroTxS_0 a0 a1)],[]) := by kernel_rfl
theorem sw_szFroTxS:Sound Tryz.prog 28 msw_szFroTxS Fw_szFroTxS := by
 refine fn_gen goodw_szFroTxS (by kernel_rfl) .std (fn := Tryz.f28) (c := (Tryz.f28.body.getD .skip)) (o := Ow_szFroTxS_1) (k := 1) (by kernel_rfl) (by kernel_rfl) (by kernel_rfl) (by kernel_rfl) (by decide) kw_szFroTxS_1 ?_
 intro ys r outs h
 unfold Fw_szFroTxS at h
 split at h
 ·exact (vw_szFroTxS _ _).trans h
 ·cases h
def Ew_szStoWrite:Env where
 tt := mkTI Tryz.prog
 fn := fun f => match f with
  | 133 => some (msw_szIntS,FSem.wk msw_szIntS Fw_szIntS)
  | _ => none
 bxf := fun _ => none
 mv := []
 keep := fun _ => []
 keepB := fun _ => []
 keepX := fun _ => []
 keepXB := fun _ => []
theorem goodFw_szStoWrite:∀ f ms F,Ew_szStoWrite.fn f = some (ms,F) → Sound Tryz.prog f ms F := fun f ms F h => by
 unfold Ew_szStoWrite at h
 dsimp only at h
 split at h
 ·exact gF sw_szIntS h
 ·cases h
theorem goodw_szStoWrite:Good Tryz.prog Ew_szStoWrite := ⟨rfl,goodFw_szStoWrite,fun f ms F h => by cases h⟩
def Ow_szStoWrite_0:Orc := fun _ _ => none
def msw_szStoWrite:List PM := [.rd,.own]
def lsw_szStoWrite:List (Nat×Code) := loopsAll 0 (Tryz.f173.body.getD .skip)
theorem kw_szStoWrite_0:OrcOk Ew_szStoWrite Ow_szStoWrite_0 lsw_szStoWrite 0 := orcOk_none
def g_Aw_szStoWrite (a0:ByteArray) (a1:Bool) (a2:List Int) (a3:Int):Bool := decide (IntKind.i64.wrap (a3 - (↑(ByteArray.size a0):Int)) < 0) || true
def g_Vw_szStoWrite_0 (a0:ByteArray) (a1:Bool) (a2:List Int) (a3:Int):Int := bif decide (IntKind.i64.wrap (a3 - (↑(ByteArray.size a0):Int)) < 0) then (-1:Int) else bif decide (g_Vw_szIntS_0 a2 (IntKind.i64.wrap (a3 - (↑(ByteArray.size a0):Int))) < 0) then (-1:Int) else g_Vw_szIntS_0 a2 (IntKind.i64.wrap (a3 - (↑(ByteArray.size a0):Int)))
def Fw_szStoWrite:FSem := fun ys => match ys with
 | [.val true [.str a0,.bool a1,.sl .any 3 (.int .i64) a2],.val false [.int .i64 a3]] => some ((g_Aw_szStoWrite a0 a1 a2 a3),.val false [.int .i64 (g_Vw_szStoWrite_0 a0 a1 a2 a3)],[])
 | _ => none
theorem vw_szStoWrite (a0:ByteArray) (a1:Bool) (a2:List Int) (a3:Int):collapseH .std Ew_szStoWrite Ow_szStoWrite_0 (execFn Ew_szStoWrite Tryz.f173 msw_szStoWrite [.val true [.str a0,.bool a1,.sl .any 3 (.int .i64) a2],.val false [.int .i64 a3]]) = some ((g_Aw_szStoWrite a0 a1 a2 a3),.val false [.int .i64 (g_Vw_szStoWrite_0 a0 a1 a2 a3)],[]) := by kernel_rfl
theorem sw_szStoWrite:Sound Tryz.prog 173 msw_szStoWrite Fw_szStoWrite := by
 refine fn_gen goodw_szStoWrite (by kernel_rfl) .std (fn := Tryz.f173) (c := (Tryz.f173.body.getD .skip)) (o := Ow_szStoWrite_0) (k := 0) (by kernel_rfl) (by kernel_rfl) (by kernel_rfl) (by kernel_rfl) (by decide) kw_szStoWrite_0 ?_
 intro ys r outs h
 unfold Fw_szStoWrite at h
 split at h
 ·exact (vw_szStoWrite _ _ _ _).trans h
 ·cases h
def Ew_szStoWriteS:Env where
 tt := mkTI Tryz.prog
 fn := fun f => match f with
  | 173 => some (msw_szStoWrite,FSem.wk msw_szStoWrite Fw_szStoWrite)
  | _ => none
 bxf := fun _ => none
 mv := []
 keep := fun b => match b with
  | 0 => [(0,false),(1,false),(5,false)]
  | _ => []
 keepB := fun b => match b with
  | 0 => []
  | _ => []
 keepX := fun b => match b with
  | 0 => [(1,false),(4,false)]
  | _ => []
 keepXB := fun b => match b with
  | 0 => []
  | _ => []
theorem goodFw_szStoWriteS:∀ f ms F,Ew_szStoWriteS.fn f = some (ms,F) → Sound Tryz.prog f ms F := fun f ms F h => by
 unfold Ew_szStoWriteS at h
 dsimp only at h
 split at h
 ·exact gF sw_szStoWrite h
 ·cases h
theorem goodw_szStoWriteS:Good Tryz.prog Ew_szStoWriteS := ⟨rfl,goodFw_szStoWriteS,fun f ms F h => by cases h⟩
def Ow_szStoWriteS_0:Orc := fun _ _ => none
def msw_szStoWriteS:List PM := [.rd,.own]
def lsw_szStoWriteS:List (Nat×Code) := loopsAll 0 (Tryz.f154.body.getD .skip)
def cw_szStoWriteS_0:Code := (loopOf 0 (Tryz.f154.body.getD .skip)).getD .skip
theorem lseqw_szStoWriteS:lsw_szStoWriteS = [(0,cw_szStoWriteS_0)] := by kernel_rfl
theorem mw_szStoWriteS_0:∀ p,p ∈ lsw_szStoWriteS → p.1 = 0 → p.2 = cw_szStoWriteS_0 := by
 intro p hp
 rw [lseqw_szStoWriteS] at hp
 simp only [List.mem_cons,List.not_mem_nil,or_false] at hp
 subst hp; simp
theorem kw_szStoWriteS_0:OrcOk Ew_szStoWriteS Ow_szStoWriteS_0 lsw_szStoWriteS 0 := orcOk_none
def hw_szStoWriteS_0 (y0:tL2) (y1:Int) (y2:Int):List (Pl×LV) := [(.T 0,.t (.val false [.sl .any 196 (.pair .str (.pair .bool (.sl 3 (.int .i64)))) y0])),(.T 1,.t (.val false [.int .i64 y1])),(.T 5,.t (.val false [.int .i64 y2]))]
def g_Sw_szStoWriteS_0 (y0:tL2):(Int×Int) → RT (Int×Int) ((Int×Int) ⊕ (Int))
 | (y1,y2) => .br (true) (.br (decide (y2 < (y0.length:Int))) (.br (decide (0 ≤ y2 ∧ y2 < (y0.length:Int))) (.br (g_Aw_szStoWrite (at_ yT3 y0 (Int.toNat y2)).1 (at_ yT3 y0 (Int.toNat y2)).2.1 (at_ yT3 y0 (Int.toNat y2)).2.2 y1) (.br (true) (.br (decide (g_Vw_szStoWrite_0 (at_ yT3 y0 (Int.toNat y2)).1 (at_ yT3 y0 (Int.toNat y2)).2.1 (at_ yT3 y0 (Int.toNat y2)).2.2 y1 < 0)) (.out (.inl ((g_Vw_szStoWrite_0 (at_ yT3 y0 (Int.toNat y2)).1 (at_ yT3 y0 (Int.toNat y2)).2.1 (at_ yT3 y0 (Int.toNat y2)).2.2 y1,(-1:Int))))) (.br (true) (.go ((g_Vw_szStoWrite_0 (at_ yT3 y0 (Int.toNat y2)).1 (at_ yT3 y0 (Int.toNat y2)).2.1 (at_ yT3 y0 (Int.toNat y2)).2.2 y1,IntKind.i64.wrap (y2 + 1)))) .bad)) .bad) .bad) .bad) (.out (.inr (y1)))) .bad
def g_Lw_szStoWriteS_0 (y0:tL2) (x:Int×Int):Option ((Int×Int) ⊕ (Int)) := loopO (g_Sw_szStoWriteS_0 y0) x
def xw_szStoWriteS_0 (y0:tL2):((Int×Int) ⊕ (Int)) → Ex×List (Pl×LV) := fun
 | .inl r => (.ret,[(.T 1,.t (.val false [.int .i64 r.1])),(.T 4,.t (.val false [.int .i64 r.2]))])
 | .inr (r) => (.exit 0,[(.T 1,.t (.val false [.int .i64 r])),(.T 4,.t (.val false [.undef]))])
def Ow_szStoWriteS_1:Orc := fun b h => match b,h with
 | 0,[(.T 0,.t (.val false [.sl .any 196 (.pair .str (.pair .bool (.sl 3 (.int .i64)))) y0])),(.T 1,.t (.val false [.int .i64 y1])),(.T 5,.t (.val false [.int .i64 y2]))] => some (okO (g_Lw_szStoWriteS_0 y0 (y1,y2)),(.br (isL (valO (g_Lw_szStoWriteS_0 y0 (y1,y2)))) (.leaf .ret [(.T 1,.t (.val false [.int .i64 (getL (valO (g_Lw_szStoWriteS_0 y0 (y1,y2)))).1])),(.T 4,.t (.val false [.int .i64 (getL (valO (g_Lw_szStoWriteS_0 y0 (y1,y2)))).2]))]) (.leaf (.exit 0) [(.T 1,.t (.val false [.int .i64 (getR (valO (g_Lw_szStoWriteS_0 y0 (y1,y2))))])),(.T 4,.t (.val false [.undef]))])))
 | b,h => Ow_szStoWriteS_0 b h
theorem bw_szStoWriteS_0 (y0:tL2) (y1:Int) (y2:Int):Tr.bt Ew_szStoWriteS Ow_szStoWriteS_0 (exec Ew_szStoWriteS 0 cw_szStoWriteS_0 (St.of (hw_szStoWriteS_0 y0 y1 y2)) (leafRd Ew_szStoWriteS 0)) = (g_Sw_szStoWriteS_0 y0 (y1,y2)).bt (fun ((y1,y2):Int×Int) => (hw_szStoWriteS_0 y0 y1 y2)) (xw_szStoWriteS_0 y0) := by kernel_rfl
theorem kw_szStoWriteS_1:OrcOk Ew_szStoWriteS Ow_szStoWriteS_1 lsw_szStoWriteS 1 := orc_add kw_szStoWriteS_0 (fun n p hp h ex h' ho => by
 obtain ⟨b,c⟩ := p
 obtain ⟨xt,h1,h2⟩ := ho
 have h1:Ow_szStoWriteS_1 b h = some (true,xt) := h1
 unfold Ow_szStoWriteS_1 at h1
 split at h1
 ·injection h1 with h1
  injection h1 with e1 e2
  subst e2
  have hc:c = cw_szStoWriteS_0 := mw_szStoWriteS_0 _ hp rfl
  subst hc
  right
  rename_i y0 y1 y2
  have key := LT_step kw_szStoWriteS_0 hp (fun q hq => loopsAll_in _ _ _ _ hp hq) (fun ((y1,y2):Int×Int) => (hw_szStoWriteS_0 y0 y1 y2)) (xw_szStoWriteS_0 y0) (g_Sw_szStoWriteS_0 y0) (fun x => by first | exact bw_szStoWriteS_0 y0 x.1 x.2) n (x := (y1,y2)) (okO_some e1)
  have hx:∀ r,XT.sel (.br (isL r) (.leaf .ret [(.T 1,.t (.val false [.int .i64 (getL r).1])),(.T 4,.t (.val false [.int .i64 (getL r).2]))]) (.leaf (.exit 0) [(.T 1,.t (.val false [.int .i64 (getR r)])),(.T 4,.t (.val false [.undef]))])) = xw_szStoWriteS_0 y0 r := fun r => by first | rfl | rcases r with r | r <;> rfl | rcases r with r | r | r <;> rfl | rcases r with r | r | r | r <;> rfl
  have h3 := (hx (valO (g_Lw_szStoWriteS_0 y0 (y1,y2)))).symm.trans h2
  have e3 := congrArg Prod.fst h3
  have e4 := congrArg Prod.snd h3
  simp only at e3 e4
  rw [← e3,← e4]
  exact key
 ·exact .inl ⟨xt,h1,h2⟩)
def g_Aw_szStoWriteS (a0:tL2) (a1:Int):Bool := decide (IntKind.i64.wrap (a1 - (a0.length:Int)) < 0) || okO (g_Lw_szStoWriteS_0 a0 (IntKind.i64.wrap (a1 - (a0.length:Int)),(0:Int)))
def g_Vw_szStoWriteS_0 (a0:tL2) (a1:Int):Int := bif decide (IntKind.i64.wrap (a1 - (a0.length:Int)) < 0) then (-1:Int) else bif isL (valO (g_Lw_szStoWriteS_0 a0 (IntKind.i64.wrap (a1 - (a0.length:Int)),(0:Int)))) then (getL (valO (g_Lw_szStoWriteS_0 a0 (IntKind.i64.wrap (a1 - (a0.length:Int)),(0:Int))))).2 else getR (valO (g_Lw_szStoWriteS_0 a0 (IntKind.i64.wrap (a1 - (a0.length:Int)),(0:Int))))
def Fw_szStoWriteS:FSem := fun ys => match ys with
 | [.val false [.sl .any 196 (.pair .str (.pair .bool (.sl 3 (.int .i64)))) a0],.val false [.int .i64 a1]] => some ((g_Aw_szStoWriteS a0 a1),.val false [.int .i64 (g_Vw_szStoWriteS_0 a0 a1)],[])
 | _ => none
theorem vw_szStoWriteS (a0:tL2) (a1:Int):collapseH .std Ew_szStoWriteS Ow_szStoWriteS_1 (execFn Ew_szStoWriteS Tryz.f154 msw_szStoWriteS [.val false [.sl .any 196 (.pair .str (.pair .bool (.sl 3 (.int .i64)))) a0],.val false [.int .i64 a1]]) = some ((g_Aw_szStoWriteS a0 a1),.val false [.int .i64 (g_Vw_szStoWriteS_0 a0 a1)],[]) := by kernel_rfl
theorem sw_szStoWriteS:Sound Tryz.prog 154 msw_szStoWriteS Fw_szStoWriteS := by
 refine fn_gen goodw_szStoWriteS (by kernel_rfl) .std (fn := Tryz.f154) (c := (Tryz.f154.body.getD .skip)) (o := Ow_szStoWriteS_1) (k := 1) (by kernel_rfl) (by kernel_rfl) (by kernel_rfl) (by kernel_rfl) (by decide) kw_szStoWriteS_1 ?_
 intro ys r outs h
 unfold Fw_szStoWriteS at h
 split at h
 ·exact (vw_szStoWriteS _ _).trans h
 ·cases h
def Ew_szStringS:Env where
 tt := mkTI Tryz.prog
 fn := fun _ => none
 bxf := fun _ => none
 mv := []
 keep := fun b => match b with
  | 0 => [(0,false),(1,false),(5,false)]
  | _ => []
 keepB := fun b => match b with
  | 0 => []
  | _ => []
 keepX := fun b => match b with
  | 0 => [(1,false),(4,false)]
  | _ => []
 keepXB := fun b => match b with
  | 0 => []
  | _ => []
theorem goodFw_szStringS:∀ f ms F,Ew_szStringS.fn f = some (ms,F) → Sound Tryz.prog f ms F := fun f ms F h => by cases h
theorem goodw_szStringS:Good Tryz.prog Ew_szStringS := ⟨rfl,goodFw_szStringS,fun f ms F h => by cases h⟩
def Ow_szStringS_0:Orc := fun _ _ => none
def msw_szStringS:List PM := [.rd,.own]
def lsw_szStringS:List (Nat×Code) := loopsAll 0 (Tryz.f153.body.getD .skip)
def cw_szStringS_0:Code := (loopOf 0 (Tryz.f153.body.getD .skip)).getD .skip
theorem lseqw_szStringS:lsw_szStringS = [(0,cw_szStringS_0)] := by kernel_rfl
theorem mw_szStringS_0:∀ p,p ∈ lsw_szStringS → p.1 = 0 → p.2 = cw_szStringS_0 := by
 intro p hp
 rw [lseqw_szStringS] at hp
 simp only [List.mem_cons,List.not_mem_nil,or_false] at hp
 subst hp; simp
theorem kw_szStringS_0:OrcOk Ew_szStringS Ow_szStringS_0 lsw_szStringS 0 := orcOk_none
def hw_szStringS_0 (y0:List ByteArray) (y1:Int) (y2:Int):List (Pl×LV) := [(.T 0,.t (.val false [.sl .any 9 .str y0])),(.T 1,.t (.val false [.int .i64 y1])),(.T 5,.t (.val false [.int .i64 y2]))]
def g_Sw_szStringS_0 (y0:List ByteArray):(Int×Int) → RT (Int×Int) ((Int×Int) ⊕ (Int))
 | (y1,y2) => .br (true) (.br (decide (y2 < (y0.length:Int))) (.br (decide (0 ≤ y2 ∧ y2 < (y0.length:Int))) (.br (true) (.br (true) (.br (decide (IntKind.i64.wrap (y1 - (↑(ByteArray.size (at_ Ty.str y0 (Int.toNat y2))):Int)) < 0)) (.out (.inl ((IntKind.i64.wrap (y1 - (↑(ByteArray.size (at_ Ty.str y0 (Int.toNat y2))):Int)),(-1:Int))))) (.br (true) (.go ((IntKind.i64.wrap (y1 - (↑(ByteArray.size (at_ Ty.str y0 (Int.toNat y2))):Int)),IntKind.i64.wrap (y2 + 1)))) .bad)) .bad) .bad) .bad) (.out (.inr (y1)))) .bad
def g_Lw_szStringS_0 (y0:List ByteArray) (x:Int×Int):Option ((Int×Int) ⊕ (Int)) := loopO (g_Sw_szStringS_0 y0) x
def xw_szStringS_0 (y0:List ByteArray):((Int×Int) ⊕ (Int)) → Ex×List (Pl×LV) := fun
 | .inl r => (.ret,[(.T 1,.t (.val false [.int .i64 r.1])),(.T 4,.t (.val false [.int .i64 r.2]))])
 | .inr (r) => (.exit 0,[(.T 1,.t (.val false [.int .i64 r])),(.T 4,.t (.val false [.undef]))])
def Ow_szStringS_1:Orc := fun b h => match b,h with
 | 0,[(.T 0,.t (.val false [.sl .any 9 .str y0])),(.T 1,.t (.val false [.int .i64 y1])),(.T 5,.t (.val false [.int .i64 y2]))] => some (okO (g_Lw_szStringS_0 y0 (y1,y2)),(.br (isL (valO (g_Lw_szStringS_0 y0 (y1,y2)))) (.leaf .ret [(.T 1,.t (.val false [.int .i64 (getL (valO (g_Lw_szStringS_0 y0 (y1,y2)))).1])),(.T 4,.t (.val false [.int .i64 (getL (valO (g_Lw_szStringS_0 y0 (y1,y2)))).2]))]) (.leaf (.exit 0) [(.T 1,.t (.val false [.int .i64 (getR (valO (g_Lw_szStringS_0 y0 (y1,y2))))])),(.T 4,.t (.val false [.undef]))])))
 | b,h => Ow_szStringS_0 b h
theorem bw_szStringS_0 (y0:List ByteArray) (y1:Int) (y2:Int):Tr.bt Ew_szStringS Ow_szStringS_0 (exec Ew_szStringS 0 cw_szStringS_0 (St.of (hw_szStringS_0 y0 y1 y2)) (leafRd Ew_szStringS 0)) = (g_Sw_szStringS_0 y0 (y1,y2)).bt (fun ((y1,y2):Int×Int) => (hw_szStringS_0 y0 y1 y2)) (xw_szStringS_0 y0) := by kernel_rfl
theorem kw_szStringS_1:OrcOk Ew_szStringS Ow_szStringS_1 lsw_szStringS 1 := orc_add kw_szStringS_0 (fun n p hp h ex h' ho => by
 obtain ⟨b,c⟩ := p
 obtain ⟨xt,h1,h2⟩ := ho
 have h1:Ow_szStringS_1 b h = some (true,xt) := h1
 unfold Ow_szStringS_1 at h1
 split at h1
 ·injection h1 with h1
  injection h1 with e1 e2
  subst e2
  have hc:c = cw_szStringS_0 := mw_szStringS_0 _ hp rfl
  subst hc
  right
  rename_i y0 y1 y2
  have key := LT_step kw_szStringS_0 hp (fun q hq => loopsAll_in _ _ _ _ hp hq) (fun ((y1,y2):Int×Int) => (hw_szStringS_0 y0 y1 y2)) (xw_szStringS_0 y0) (g_Sw_szStringS_0 y0) (fun x => by first | exact bw_szStringS_0 y0 x.1 x.2) n (x := (y1,y2)) (okO_some e1)
  have hx:∀ r,XT.sel (.br (isL r) (.leaf .ret [(.T 1,.t (.val false [.int .i64 (getL r).1])),(.T 4,.t (.val false [.int .i64 (getL r).2]))]) (.leaf (.exit 0) [(.T 1,.t (.val false [.int .i64 (getR r)])),(.T 4,.t (.val false [.undef]))])) = xw_szStringS_0 y0 r := fun r => by first | rfl | rcases r with r | r <;> rfl | rcases r with r | r | r <;> rfl | rcases r with r | r | r | r <;> rfl
  have h3 := (hx (valO (g_Lw_szStringS_0 y0 (y1,y2)))).symm.trans h2
  have e3 := congrArg Prod.fst h3
  have e4 := congrArg Prod.snd h3
  simp only at e3 e4
  rw [← e3,← e4]
  exact key
 ·exact .inl ⟨xt,h1,h2⟩)
def g_Aw_szStringS (a0:List ByteArray) (a1:Int):Bool := decide (IntKind.i64.wrap (a1 - (a0.length:Int)) < 0) || okO (g_Lw_szStringS_0 a0 (IntKind.i64.wrap (a1 - (a0.length:Int)),(0:Int)))
def g_Vw_szStringS_0 (a0:List ByteArray) (a1:Int):Int := bif decide (IntKind.i64.wrap (a1 - (a0.length:Int)) < 0) then (-1:Int) else bif isL (valO (g_Lw_szStringS_0 a0 (IntKind.i64.wrap (a1 - (a0.length:Int)),(0:Int)))) then (getL (valO (g_Lw_szStringS_0 a0 (IntKind.i64.wrap (a1 - (a0.length:Int)),(0:Int))))).2 else getR (valO (g_Lw_szStringS_0 a0 (IntKind.i64.wrap (a1 - (a0.length:Int)),(0:Int))))
def Fw_szStringS:FSem := fun ys => match ys with
 | [.val false [.sl .any 9 .str a0],.val false [.int .i64 a1]] => some ((g_Aw_szStringS a0 a1),.val false [.int .i64 (g_Vw_szStringS_0 a0 a1)],[])
 | _ => none
theorem vw_szStringS (a0:List ByteArray) (a1:Int):collapseH .std Ew_szStringS Ow_szStringS_1 (execFn Ew_szStringS Tryz.f153 msw_szStringS [.val false [.sl .any 9 .str a0],.val false [.int .i64 a1]]) = some ((g_Aw_szStringS a0 a1),.val false [.int .i64 (g_Vw_szStringS_0 a0 a1)],[]) := by kernel_rfl
theorem sw_szStringS:Sound Tryz.prog 153 msw_szStringS Fw_szStringS := by
 refine fn_gen goodw_szStringS (by kernel_rfl) .std (fn := Tryz.f153) (c := (Tryz.f153.body.getD .skip)) (o := Ow_szStringS_1) (k := 1) (by kernel_rfl) (by kernel_rfl) (by kernel_rfl) (by kernel_rfl) (by decide) kw_szStringS_1 ?_
 intro ys r outs h
 unfold Fw_szStringS at h
 split at h
 ·exact (vw_szStringS _ _).trans h
 ·cases h
def Ew_szLogNote:Env where
 tt := mkTI Tryz.prog
 fn := fun f => match f with
  | 153 => some (msw_szStringS,FSem.wk msw_szStringS Fw_szStringS)
  | 154 => some (msw_szStoWriteS,FSem.wk msw_szStoWriteS Fw_szStoWriteS)
  | _ => none
 bxf := fun _ => none
 mv := []
 keep := fun _ => []
 keepB := fun _ => []
 keepX := fun _ => []
 keepXB := fun _ => []
theorem goodFw_szLogNote:∀ f ms F,Ew_szLogNote.fn f = some (ms,F) → Sound Tryz.prog f ms F := fun f ms F h => by
 unfold Ew_szLogNote at h
 dsimp only at h
 split at h
 ·exact gF sw_szStringS h
 ·exact gF sw_szStoWriteS h
 ·cases h
theorem goodw_szLogNote:Good Tryz.prog Ew_szLogNote := ⟨rfl,goodFw_szLogNote,fun f ms F h => by cases h⟩
def Ow_szLogNote_0:Orc := fun _ _ => none
def msw_szLogNote:List PM := [.rd,.own]
def lsw_szLogNote:List (Nat×Code) := loopsAll 0 (Tryz.f132.body.getD .skip)
theorem kw_szLogNote_0:OrcOk Ew_szLogNote Ow_szLogNote_0 lsw_szLogNote 0 := orcOk_none
def g_Aw_szLogNote (a0:Int) (a1:Int) (a2:List ByteArray) (a3:tL2) (a4:Int):Bool := g_Aw_szStringS a2 a4&&(decide (g_Vw_szStringS_0 a2 a4 < 0) || g_Aw_szStoWriteS a3 (g_Vw_szStringS_0 a2 a4)&&true)
def g_Vw_szLogNote_0 (a0:Int) (a1:Int) (a2:List ByteArray) (a3:tL2) (a4:Int):Int := bif decide (g_Vw_szStringS_0 a2 a4 < 0) then (-1:Int) else bif decide (g_Vw_szStoWriteS_0 a3 (g_Vw_szStringS_0 a2 a4) < 0) then (-1:Int) else g_Vw_szStoWriteS_0 a3 (g_Vw_szStringS_0 a2 a4)
def Fw_szLogNote:FSem := fun ys => match ys with
 | [.val true [.int .i64 a0,.int .i64 a1,.sl .any 9 .str a2,.sl .any 196 (.pair .str (.pair .bool (.sl 3 (.int .i64)))) a3],.val false [.int .i64 a4]] => some ((g_Aw_szLogNote a0 a1 a2 a3 a4),.val false [.int .i64 (g_Vw_szLogNote_0 a0 a1 a2 a3 a4)],[])
 | _ => none
theorem vw_szLogNote (a0:Int) (a1:Int) (a2:List ByteArray) (a3:tL2) (a4:Int):collapseH .std Ew_szLogNote Ow_szLogNote_0 (execFn Ew_szLogNote Tryz.f132 msw_szLogNote [.val true [.int .i64 a0,.int .i64 a1,.sl .any 9 .str a2,.sl .any 196 (.pair .str (.pair .bool (.sl 3 (.int .i64)))) a3],.val false [.int .i64 a4]]) = some ((g_Aw_szLogNote a0 a1 a2 a3 a4),.val false [.int .i64 (g_Vw_szLogNote_0 a0 a1 a2 a3 a4)],[]) := by kernel_rfl
theorem sw_szLogNote:Sound Tryz.prog 132 msw_szLogNote Fw_szLogNote := by
 refine fn_gen goodw_szLogNote (by kernel_rfl) .std (fn := Tryz.f132) (c := (Tryz.f132.body.getD .skip)) (o := Ow_szLogNote_0) (k := 0) (by kernel_rfl) (by kernel_rfl) (by kernel_rfl) (by kernel_rfl) (by decide) kw_szLogNote_0 ?_
 intro ys r outs h
 unfold Fw_szLogNote at h
 split at h
 ·exact (vw_szLogNote _ _ _ _ _).trans h
 ·cases h
def Ew_szLogNoteS:Env where
 tt := mkTI Tryz.prog
 fn := fun f => match f with
  | 132 => some (msw_szLogNote,FSem.wk msw_szLogNote Fw_szLogNote)
  | _ => none
 bxf := fun _ => none
 mv := []
 keep := fun b => match b with
  | 0 => [(0,false),(1,false),(5,false)]
  | _ => []
 keepB := fun b => match b with
  | 0 => []
  | _ => []
 keepX := fun b => match b with
  | 0 => [(1,false),(4,false)]
  | _ => []
 keepXB := fun b => match b with
  | 0 => []
  | _ => []
theorem goodFw_szLogNoteS:∀ f ms F,Ew_szLogNoteS.fn f = some (ms,F) → Sound Tryz.prog f ms F := fun f ms F h => by
 unfold Ew_szLogNoteS at h
 dsimp only at h
 split at h
 ·exact gF sw_szLogNote h
 ·cases h
theorem goodw_szLogNoteS:Good Tryz.prog Ew_szLogNoteS := ⟨rfl,goodFw_szLogNoteS,fun f ms F h => by cases h⟩
def Ow_szLogNoteS_0:Orc := fun _ _ => none
def msw_szLogNoteS:List PM := [.rd,.own]
def lsw_szLogNoteS:List (Nat×Code) := loopsAll 0 (Tryz.f88.body.getD .skip)
def cw_szLogNoteS_0:Code := (loopOf 0 (Tryz.f88.body.getD .skip)).getD .skip
theorem lseqw_szLogNoteS:lsw_szLogNoteS = [(0,cw_szLogNoteS_0)] := by kernel_rfl
theorem mw_szLogNoteS_0:∀ p,p ∈ lsw_szLogNoteS → p.1 = 0 → p.2 = cw_szLogNoteS_0 := by
 intro p hp
 rw [lseqw_szLogNoteS] at hp
 simp only [List.mem_cons,List.not_mem_nil,or_false] at hp
 subst hp; simp
theorem kw_szLogNoteS_0:OrcOk Ew_szLogNoteS Ow_szLogNoteS_0 lsw_szLogNoteS 0 := orcOk_none
def hw_szLogNoteS_0 (y0:tL0) (y1:Int) (y2:Int):List (Pl×LV) := [(.T 0,.t (.val false [.sl .any 169 (.pair (.int .i64) (.pair (.int .i64) (.pair (.sl 9 .str) (.sl 196 (.pair .str (.pair .bool (.sl 3 (.int .i64)))))))) y0])),(.T 1,.t (.val false [.int .i64 y1])),(.T 5,.t (.val false [.int .i64 y2]))]
def g_Sw_szLogNoteS_0 (y0:tL0):(Int×Int) → RT (Int×Int) ((Int×Int) ⊕ (Int))
 | (y1,y2) => .br (true) (.br (decide (y2 < (y0.length:Int))) (.br (decide (0 ≤ y2 ∧ y2 < (y0.length:Int))) (.br (g_Aw_szLogNote (at_ yT4 y0 (Int.toNat y2)).1 (at_ yT4 y0 (Int.toNat y2)).2.1 (at_ yT4 y0 (Int.toNat y2)).2.2.1 (at_ yT4 y0 (Int.toNat y2)).2.2.2 y1) (.br (true) (.br (decide (g_Vw_szLogNote_0 (at_ yT4 y0 (Int.toNat y2)).1 (at_ yT4 y0 (Int.toNat y2)).2.1 (at_ yT4 y0 (Int.toNat y2)).2.2.1 (at_ yT4 y0 (Int.toNat y2)).2.2.2 y1 < 0)) (.out (.inl ((g_Vw_szLogNote_0 (at_ yT4 y0 (Int.toNat y2)).1 (at_ yT4 y0 (Int.toNat y2)).2.1 (at_ yT4 y0 (Int.toNat y2)).2.2.1 (at_ yT4 y0 (Int.toNat y2)).2.2.2 y1,(-1:Int))))) (.br (true) (.go ((g_Vw_szLogNote_0 (at_ yT4 y0 (Int.toNat y2)).1 (at_ yT4 y0 (Int.toNat y2)).2.1 (at_ yT4 y0 (Int.toNat y2)).2.2.1 (at_ yT4 y0 (Int.toNat y2)).2.2.2 y1,IntKind.i64.wrap (y2 + 1)))) .bad)) .bad) .bad) .bad) (.out (.inr (y1)))) .bad
def g_Lw_szLogNoteS_0 (y0:tL0) (x:Int×Int):Option ((Int×Int) ⊕ (Int)) := loopO (g_Sw_szLogNoteS_0 y0) x
def xw_szLogNoteS_0 (y0:tL0):((Int×Int) ⊕ (Int)) → Ex×List (Pl×LV) := fun
 | .inl r => (.ret,[(.T 1,.t (.val false [.int .i64 r.1])),(.T 4,.t (.val false [.int .i64 r.2]))])
 | .inr (r) => (.exit 0,[(.T 1,.t (.val false [.int .i64 r])),(.T 4,.t (.val false [.undef]))])
def Ow_szLogNoteS_1:Orc := fun b h => match b,h with
 | 0,[(.T 0,.t (.val false [.sl .any 169 (.pair (.int .i64) (.pair (.int .i64) (.pair (.sl 9 .str) (.sl 196 (.pair .str (.pair .bool (.sl 3 (.int .i64)))))))) y0])),(.T 1,.t (.val false [.int .i64 y1])),(.T 5,.t (.val false [.int .i64 y2]))] => some (okO (g_Lw_szLogNoteS_0 y0 (y1,y2)),(.br (isL (valO (g_Lw_szLogNoteS_0 y0 (y1,y2)))) (.leaf .ret [(.T 1,.t (.val false [.int .i64 (getL (valO (g_Lw_szLogNoteS_0 y0 (y1,y2)))).1])),(.T 4,.t (.val false [.int .i64 (getL (valO (g_Lw_szLogNoteS_0 y0 (y1,y2)))).2]))]) (.leaf (.exit 0) [(.T 1,.t (.val false [.int .i64 (getR (valO (g_Lw_szLogNoteS_0 y0 (y1,y2))))])),(.T 4,.t (.val false [.undef]))])))
 | b,h => Ow_szLogNoteS_0 b h
theorem bw_szLogNoteS_0 (y0:tL0) (y1:Int) (y2:Int):Tr.bt Ew_szLogNoteS Ow_szLogNoteS_0 (exec Ew_szLogNoteS 0 cw_szLogNoteS_0 (St.of (hw_szLogNoteS_0 y0 y1 y2)) (leafRd Ew_szLogNoteS 0)) = (g_Sw_szLogNoteS_0 y0 (y1,y2)).bt (fun ((y1,y2):Int×Int) => (hw_szLogNoteS_0 y0 y1 y2)) (xw_szLogNoteS_0 y0) := by kernel_rfl
theorem kw_szLogNoteS_1:OrcOk Ew_szLogNoteS Ow_szLogNoteS_1 lsw_szLogNoteS 1 := orc_add kw_szLogNoteS_0 (fun n p hp h ex h' ho => by
 obtain ⟨b,c⟩ := p
 obtain ⟨xt,h1,h2⟩ := ho
 have h1:Ow_szLogNoteS_1 b h = some (true,xt) := h1
 unfold Ow_szLogNoteS_1 at h1
 split at h1
 ·injection h1 with h1
  injection h1 with e1 e2
  subst e2
  have hc:c = cw_szLogNoteS_0 := mw_szLogNoteS_0 _ hp rfl
  subst hc
  right
  rename_i y0 y1 y2
  have key := LT_step kw_szLogNoteS_0 hp (fun q hq => loopsAll_in _ _ _ _ hp hq) (fun ((y1,y2):Int×Int) => (hw_szLogNoteS_0 y0 y1 y2)) (xw_szLogNoteS_0 y0) (g_Sw_szLogNoteS_0 y0) (fun x => by first | exact bw_szLogNoteS_0 y0 x.1 x.2) n (x := (y1,y2)) (okO_some e1)
  have hx:∀ r,XT.sel (.br (isL r) (.leaf .ret [(.T 1,.t (.val false [.int .i64 (getL r).1])),(.T 4,.t (.val false [.int .i64 (getL r).2]))]) (.leaf (.exit 0) [(.T 1,.t (.val false [.int .i64 (getR r)])),(.T 4,.t (.val false [.undef]))])) = xw_szLogNoteS_0 y0 r := fun r => by first | rfl | rcases r with r | r <;> rfl | rcases r with r | r | r <;> rfl | rcases r with r | r | r | r <;> rfl
  have h3 := (hx (valO (g_Lw_szLogNoteS_0 y0 (y1,y2)))).symm.trans h2
  have e3 := congrArg Prod.fst h3
  have e4 := congrArg Prod.snd h3
  simp only at e3 e4
  rw [← e3,← e4]
  exact key
 ·exact .inl ⟨xt,h1,h2⟩)
def g_Aw_szLogNoteS (a0:tL0) (a1:Int):Bool := decide (IntKind.i64.wrap (a1 - (a0.length:Int)) < 0) || okO (g_Lw_szLogNoteS_0 a0 (IntKind.i64.wrap (a1 - (a0.length:Int)),(0:Int)))
def g_Vw_szLogNoteS_0 (a0:tL0) (a1:Int):Int := bif decide (IntKind.i64.wrap (a1 - (a0.length:Int)) < 0) then (-1:Int) else bif isL (valO (g_Lw_szLogNoteS_0 a0 (IntKind.i64.wrap (a1 - (a0.length:Int)),(0:Int)))) then (getL (valO (g_Lw_szLogNoteS_0 a0 (IntKind.i64.wrap (a1 - (a0.length:Int)),(0:Int))))).2 else getR (valO (g_Lw_szLogNoteS_0 a0 (IntKind.i64.wrap (a1 - (a0.length:Int)),(0:Int))))
def Fw_szLogNoteS:FSem := fun ys => match ys with
 | [.val false [.sl .any 169 (.pair (.int .i64) (.pair (.int .i64) (.pair (.sl 9 .str) (.sl 196 (.pair .str (.pair .bool (.sl 3 (.int .i64)))))))) a0],.val false [.int .i64 a1]] => some ((g_Aw_szLogNoteS a0 a1),.val false [.int .i64 (g_Vw_szLogNoteS_0 a0 a1)],[])
 | _ => none
theorem vw_szLogNoteS (a0:tL0) (a1:Int):collapseH .std Ew_szLogNoteS Ow_szLogNoteS_1 (execFn Ew_szLogNoteS Tryz.f88 msw_szLogNoteS [.val false [.sl .any 169 (.pair (.int .i64) (.pair (.int .i64) (.pair (.sl 9 .str) (.sl 196 (.pair .str (.pair .bool (.sl 3 (.int .i64)))))))) a0],.val false [.int .i64 a1]]) = some ((g_Aw_szLogNoteS a0 a1),.val false [.int .i64 (g_Vw_szLogNoteS_0 a0 a1)],[]) := by kernel_rfl
theorem sw_szLogNoteS:Sound Tryz.prog 88 msw_szLogNoteS Fw_szLogNoteS := by
 refine fn_gen goodw_szLogNoteS (by kernel_rfl) .std (fn := Tryz.f88) (c := (Tryz.f88.body.getD .skip)) (o := Ow_szLogNoteS_1) (k := 1) (by kernel_rfl) (by kernel_rfl) (by kernel_rfl) (by kernel_rfl) (by decide) kw_szLogNoteS_1 ?_
 intro ys r outs h
 unfold Fw_szLogNoteS at h
 split at h
 ·exact (vw_szLogNoteS _ _).trans h
 ·cases h
def Ew_szLogDisk:Env where
 tt := mkTI Tryz.prog
 fn := fun f => match f with
  | 88 => some (msw_szLogNoteS,FSem.wk msw_szLogNoteS Fw_szLogNoteS)
  | _ => none
 bxf := fun _ => none
 mv := []
 keep := fun _ => []
 keepB := fun _ => []
 keepX := fun _ => []
 keepXB := fun _ => []
theorem goodFw_szLogDisk:∀ f ms F,Ew_szLogDisk.fn f = some (ms,F) → Sound Tryz.prog f ms F := fun f ms F h => by
 unfold Ew_szLogDisk at h
 dsimp only at h
 split at h
 ·exact gF sw_szLogNoteS h
 ·cases h
theorem goodw_szLogDisk:Good Tryz.prog Ew_szLogDisk := ⟨rfl,goodFw_szLogDisk,fun f ms F h => by cases h⟩
def Ow_szLogDisk_0:Orc := fun _ _ => none
def msw_szLogDisk:List PM := [.rd,.own]
def lsw_szLogDisk:List (Nat×Code) := loopsAll 0 (Tryz.f27.body.getD .skip)
theorem kw_szLogDisk_0:OrcOk Ew_szLogDisk Ow_szLogDisk_0 lsw_szLogDisk 0 := orcOk_none
def g_Aw_szLogDisk (a0:tL0) (a1:Int) (a2:Int):Bool := g_Aw_szLogNoteS a0 a2&&true
def g_Vw_szLogDisk_0 (a0:tL0) (a1:Int) (a2:Int):Int := bif decide (g_Vw_szLogNoteS_0 a0 a2 < 0) then (-1:Int) else g_Vw_szLogNoteS_0 a0 a2
def Fw_szLogDisk:FSem := fun ys => match ys with
 | [.val true [.sl .any 169 (.pair (.int .i64) (.pair (.int .i64) (.pair (.sl 9 .str) (.sl 196 (.pair .str (.pair .bool (.sl 3 (.int .i64)))))))) a0,.int .i64 a1],.val false [.int .i64 a2]] => some ((g_Aw_szLogDisk a0 a1 a2),.val false [.int .i64 (g_Vw_szLogDisk_0 a0 a1 a2)],[])
 | _ => none
theorem vw_szLogDisk (a0:tL0) (a1:Int) (a2:Int):collapseH .std Ew_szLogDisk Ow_szLogDisk_0 (execFn Ew_szLogDisk Tryz.f27 msw_szLogDisk [.val true [.sl .any 169 (.pair (.int .i64) (.pair (.int .i64) (.pair (.sl 9 .str) (.sl 196 (.pair .str (.pair .bool (.sl 3 (.int .i64)))))))) a0,.int .i64 a1],.val false [.int .i64 a2]]) = some ((g_Aw_szLogDisk a0 a1 a2),.val false [.int .i64 (g_Vw_szLogDisk_0 a0 a1 a2)],[]) := by kernel_rfl
theorem sw_szLogDisk:Sound Tryz.prog 27 msw_szLogDisk Fw_szLogDisk := by
 refine fn_gen goodw_szLogDisk (by kernel_rfl) .std (fn := Tryz.f27) (c := (Tryz.f27.body.getD .skip)) (o := Ow_szLogDisk_0) (k := 0) (by kernel_rfl) (by kernel_rfl) (by kernel_rfl) (by kernel_rfl) (by decide) kw_szLogDisk_0 ?_
 intro ys r outs h
 unfold Fw_szLogDisk at h
 split at h
 ·exact (vw_szLogDisk _ _ _).trans h
 ·cases h
def Ew_szFroState:Env where
 tt := mkTI Tryz.prog
 fn := fun f => match f with
  | 27 => some (msw_szLogDisk,FSem.wk msw_szLogDisk Fw_szLogDisk)
  | 28 => some (msw_szFroTxS,FSem.wk msw_szFroTxS Fw_szFroTxS)
  | _ => none
 bxf := fun _ => none
 mv := []
 keep := fun _ => []
 keepB := fun _ => []
 keepX := fun _ => []
 keepXB := fun _ => []
theorem goodFw_szFroState:∀ f ms F,Ew_szFroState.fn f = some (ms,F) → Sound Tryz.prog f ms F := fun f ms F h => by
 unfold Ew_szFroState at h
 dsimp only at h
 split at h
 ·exact gF sw_szLogDisk h
 ·exact gF sw_szFroTxS h
 ·cases h
theorem goodw_szFroState:Good Tryz.prog Ew_szFroState := ⟨rfl,goodFw_szFroState,fun f ms F h => by cases h⟩
def Ow_szFroState_0:Orc := fun _ _ => none
def msw_szFroState:List PM := [.rd,.own]
def lsw_szFroState:List (Nat×Code) := loopsAll 0 (Tryz.f7.body.getD .skip)
theorem kw_szFroState_0:OrcOk Ew_szFroState Ow_szFroState_0 lsw_szFroState 0 := orcOk_none
def g_Aw_szFroState (a0:tL0) (a1:Int) (a2:tL1) (a3:Int):Bool := g_Aw_szLogDisk a0 a1 a3&&(decide (g_Vw_szLogDisk_0 a0 a1 a3 < 0) || g_Aw_szFroTxS a2 (g_Vw_szLogDisk_0 a0 a1 a3)&&true)
def g_Vw_szFroState_0 (a0:tL0) (a1:Int) (a2:tL1) (a3:Int):Int := bif decide (g_Vw_szLogDisk_0 a0 a1 a3 < 0) then (-1:Int) else bif decide (g_Vw_szFroTxS_0 a2 (g_Vw_szLogDisk_0 a0 a1 a3) < 0) then (-1:Int) else g_Vw_szFroTxS_0 a2 (g_Vw_szLogDisk_0 a0 a1 a3)
def Fw_szFroState:FSem := fun ys => match ys with
 | [.val true [.sl .any 169 (.pair (.int .i64) (.pair (.int .i64) (.pair (.sl 9 .str) (.sl 196 (.pair .str (.pair .bool (.sl 3 (.int .i64)))))))) a0,.int .i64 a1,.sl .any 129 (.pair (.int .i64) (.pair (.pair (.int .i64) (.pair (.int .i64) (.pair (.int .i64) (.pair (.int .i64) (.pair (.int .i64) (.pair (.int .i64) (.int .i64))))))) (.pair .bool (.pair (.sl 3 (.int .i64)) (.sl 3 (.int .i64)))))) a2],.val false [.int .i64 a3]] => some ((g_Aw_szFroState a0 a1 a2 a3),.val false [.int .i64 (g_Vw_szFroState_0 a0 a1 a2 a3)],[])
 | _ => none
theorem vw_szFroState (a0:tL0) (a1:Int) (a2:tL1) (a3:Int):collapseH .std Ew_szFroState Ow_szFroState_0 (execFn Ew_szFroState Tryz.f7 msw_szFroState [.val true [.sl .any 169 (.pair (.int .i64) (.pair (.int .i64) (.pair (.sl 9 .str) (.sl 196 (.pair .str (.pair .bool (.sl 3 (.int .i64)))))))) a0,.int .i64 a1,.sl .any 129 (.pair (.int .i64) (.pair (.pair (.int .i64) (.pair (.int .i64) (.pair (.int .i64) (.pair (.int .i64) (.pair (.int .i64) (.pair (.int .i64) (.int .i64))))))) (.pair .bool (.pair (.sl 3 (.int .i64)) (.sl 3 (.int .i64)))))) a2],.val false [.int .i64 a3]]) = some ((g_Aw_szFroState a0 a1 a2 a3),.val false [.int .i64 (g_Vw_szFroState_0 a0 a1 a2 a3)],[]) := by kernel_rfl
theorem sw_szFroState:Sound Tryz.prog 7 msw_szFroState Fw_szFroState := by
 refine fn_gen goodw_szFroState (by kernel_rfl) .std (fn := Tryz.f7) (c := (Tryz.f7.body.getD .skip)) (o := Ow_szFroState_0) (k := 0) (by kernel_rfl) (by kernel_rfl) (by kernel_rfl) (by kernel_rfl) (by decide) kw_szFroState_0 ?_
 intro ys r outs h
 unfold Fw_szFroState at h
 split at h
 ·exact (vw_szFroState _ _ _ _).trans h
 ·cases h
def Ew_toIntS:Env where
 tt := mkTI Tryz.prog
 fn := fun _ => none
 bxf := fun _ => none
 mv := []
 keep := fun b => match b with
  | 0 => [(0,false),(3,false),(4,false)]
  | _ => []
 keepB := fun b => match b with
  | 0 => []
  | _ => []
 keepX := fun b => match b with
  | 0 => [(3,false)]
  | _ => []
 keepXB := fun b => match b with
  | 0 => []
  | _ => []
theorem goodFw_toIntS:∀ f ms F,Ew_toIntS.fn f = some (ms,F) → Sound Tryz.prog f ms F := fun f ms F h => by cases h
theorem goodw_toIntS:Good Tryz.prog Ew_toIntS := ⟨rfl,goodFw_toIntS,fun f ms F h => by cases h⟩
def Ow_toIntS_0:Orc := fun _ _ => none
def msw_toIntS:List PM := [.rd]
def lsw_toIntS:List (Nat×Code) := loopsAll 0 (Tryz.f136.body.getD .skip)
def cw_toIntS_0:Code := (loopOf 0 (Tryz.f136.body.getD .skip)).getD .skip
theorem lseqw_toIntS:lsw_toIntS = [(0,cw_toIntS_0)] := by kernel_rfl
theorem mw_toIntS_0:∀ p,p ∈ lsw_toIntS → p.1 = 0 → p.2 = cw_toIntS_0 := by
 intro p hp
 rw [lseqw_toIntS] at hp
 simp only [List.mem_cons,List.not_mem_nil,or_false] at hp
 subst hp; simp
theorem kw_toIntS_0:OrcOk Ew_toIntS Ow_toIntS_0 lsw_toIntS 0 := orcOk_none
def hw_toIntS_0 (y0:List Int) (y1:List Int) (y2:Int):List (Pl×LV) := [(.T 0,.t (.val false [.sl .any 3 (.int .i64) y0])),(.T 3,.t (.val false [.row 3 0 0])),(.R 3 0,.r 0 (some ⟨false,.non,true,3,(.int .i64),y1⟩)),(.T 4,.t (.val false [.int .i64 y2]))]
def g_Sw_toIntS_0 (y0:List Int):((List Int)×Int) → RT ((List Int)×Int) (((List Int)))
 | (y1,y2) => .br (true) (.br (decide (y2 < (y0.length:Int))) (.br (decide (0 ≤ y2 ∧ y2 < (y0.length:Int))) (.br (decide (0 ≤ y2 ∧ y2 < (y1.length:Int))) (.br (decide (Int.toNat y2 < List.length y1)) (.br (true) (.go ((List.set y1 (Int.toNat y2) (at_ (.int .i64) y0 (Int.toNat y2)),IntKind.i64.wrap (y2 + 1)))) .bad) .bad) .bad) .bad) (.out (y1))) .bad
def g_Lw_toIntS_0 (y0:List Int) (x:(List Int)×Int):Option (((List Int))) := loopO (g_Sw_toIntS_0 y0) x
def xw_toIntS_0 (y0:List Int):(((List Int))) → Ex×List (Pl×LV) := fun r => (.exit 0,[(.T 3,.t (.val false [.row 3 0 0])),(.R 3 0,.r 0 (some ⟨false,.non,true,3,(.int .i64),r⟩))])
def Ow_toIntS_1:Orc := fun b h => match b,h with
 | 0,[(.T 0,.t (.val false [.sl .any 3 (.int .i64) y0])),(.T 3,.t (.val false [.row 3 0 0])),(.R 3 0,.r 0 (some ⟨false,.non,true,3,(.int .i64),y1⟩)),(.T 4,.t (.val false [.int .i64 y2]))] => some (okO (g_Lw_toIntS_0 y0 (y1,y2)),(.leaf (.exit 0) [(.T 3,.t (.val false [.row 3 0 0])),(.R 3 0,.r 0 (some ⟨false,.non,true,3,(.int .i64),(valO (g_Lw_toIntS_0 y0 (y1,y2)))⟩))]))
 | b,h => Ow_toIntS_0 b h
theorem bw_toIntS_0 (y0:List Int) (y1:List Int) (y2:Int):Tr.bt Ew_toIntS Ow_toIntS_0 (exec Ew_toIntS 0 cw_toIntS_0 (St.of (hw_toIntS_0 y0 y1 y2)) (leafRd Ew_toIntS 0)) = (g_Sw_toIntS_0 y0 (y1,y2)).bt (fun ((y1,y2):(List Int)×Int) => (hw_toIntS_0 y0 y1 y2)) (xw_toIntS_0 y0) := by kernel_rfl
theorem kw_toIntS_1:OrcOk Ew_toIntS Ow_toIntS_1 lsw_toIntS 1 := orc_add kw_toIntS_0 (fun n p hp h ex h' ho => by
 obtain ⟨b,c⟩ := p
 obtain ⟨xt,h1,h2⟩ := ho
 have h1:Ow_toIntS_1 b h = some (true,xt) := h1
 unfold Ow_toIntS_1 at h1
 split at h1
 ·injection h1 with h1
  injection h1 with e1 e2
  subst e2
  have hc:c = cw_toIntS_0 := mw_toIntS_0 _ hp rfl
  subst hc
  right
  rename_i y0 y1 y2
  have key := LT_step kw_toIntS_0 hp (fun q hq => loopsAll_in _ _ _ _ hp hq) (fun ((y1,y2):(List Int)×Int) => (hw_toIntS_0 y0 y1 y2)) (xw_toIntS_0 y0) (g_Sw_toIntS_0 y0) (fun x => by first | exact bw_toIntS_0 y0 x.1 x.2) n (x := (y1,y2)) (okO_some e1)
  have hx:∀ r,XT.sel (.leaf (.exit 0) [(.T 3,.t (.val false [.row 3 0 0])),(.R 3 0,.r 0 (some ⟨false,.non,true,3,(.int .i64),r⟩))]) = xw_toIntS_0 y0 r := fun r => by first | rfl | rcases r with r | r <;> rfl | rcases r with r | r | r <;> rfl | rcases r with r | r | r | r <;> rfl
  have h3 := (hx (valO (g_Lw_toIntS_0 y0 (y1,y2)))).symm.trans h2
  have e3 := congrArg Prod.fst h3
  have e4 := congrArg Prod.snd h3
  simp only at e3 e4
  rw [← e3,← e4]
  exact key
 ·exact .inl ⟨xt,h1,h2⟩)
def g_Aw_toIntS (a0:List Int):Bool := decide ((a0.length:Int) = (a0.length:Int) ∧ 0 ≤ (a0.length:Int) ∧ (a0.length:Int) ≤ 9223372036854775807 ∧ 8 * (a0.length:Int) ≤ 281474976710656)&&okO (g_Lw_toIntS_0 a0 (List.replicate (Int.toNat (a0.length:Int)) (0:Int),(0:Int)))
def g_Vw_toIntS_0 (a0:List Int):List Int := valO (g_Lw_toIntS_0 a0 (List.replicate (Int.toNat (a0.length:Int)) (0:Int),(0:Int)))
def Fw_toIntS:FSem := fun ys => match ys with
 | [.val false [.sl .any 3 (.int .i64) a0]] => some ((g_Aw_toIntS a0),.val false [.own .any true 3 (.int .i64) (g_Vw_toIntS_0 a0)],[])
 | _ => none
theorem vw_toIntS (a0:List Int):collapseH .std Ew_toIntS Ow_toIntS_1 (execFn Ew_toIntS Tryz.f136 msw_toIntS [.val false [.sl .any 3 (.int .i64) a0]]) = some ((g_Aw_toIntS a0),.val false [.own .any true 3 (.int .i64) (g_Vw_toIntS_0 a0)],[]) := by kernel_rfl
theorem sw_toIntS:Sound Tryz.prog 136 msw_toIntS Fw_toIntS := by
 refine fn_gen goodw_toIntS (by kernel_rfl) .std (fn := Tryz.f136) (c := (Tryz.f136.body.getD .skip)) (o := Ow_toIntS_1) (k := 1) (by kernel_rfl) (by kernel_rfl) (by kernel_rfl) (by kernel_rfl) (by decide) kw_toIntS_1 ?_
 intro ys r outs h
 unfold Fw_toIntS at h
 split at h
 ·exact (vw_toIntS _).trans h
 ·cases h
def Ew_toOpOp:Env where
 tt := mkTI Tryz.prog
 fn := fun _ => none
 bxf := fun _ => none
 mv := []
 keep := fun _ => []
 keepB := fun _ => []
 keepX := fun _ => []
 keepXB := fun _ => []
theorem goodFw_toOpOp:∀ f ms F,Ew_toOpOp.fn f = some (ms,F) → Sound Tryz.prog f ms F := fun f ms F h => by cases h
theorem goodw_toOpOp:Good Tryz.prog Ew_toOpOp := ⟨rfl,goodFw_toOpOp,fun f ms F h => by cases h⟩
def Ow_toOpOp_0:Orc := fun _ _ => none
def msw_toOpOp:List PM := [.own]
def lsw_toOpOp:List (Nat×Code) := loopsAll 0 (Tryz.f20.body.getD .skip)
theorem kw_toOpOp_0:OrcOk Ew_toOpOp Ow_toOpOp_0 lsw_toOpOp 0 := orcOk_none
def Fw_toOpOp:FSem := fun ys => match ys with
 | [.val true [.int .i64 a0,.int .i64 a1,.int .i64 a2,.int .i64 a3,.int .i64 a4,.int .i64 a5,.int .i64 a6]] => some (true,.val true [.int .i64 a0,.int .i64 a1,.int .i64 a2,.int .i64 a3,.int .i64 a4,.int .i64 a5,.int .i64 a6],[])
 | _ => none
theorem vw_toOpOp (a0:Int) (a1:Int) (a2:Int) (a3:Int) (a4:Int) (a5:Int) (a6:Int):collapseH .std Ew_toOpOp Ow_toOpOp_0 (execFn Ew_toOpOp Tryz.f20 msw_toOpOp [.val true [.int .i64 a0,.int .i64 a1,.int .i64 a2,.int .i64 a3,.int .i64 a4,.int .i64 a5,.int .i64 a6]]) = some (true,.val true [.int .i64 a0,.int .i64 a1,.int .i64 a2,.int .i64 a3,.int .i64 a4,.int .i64 a5,.int .i64 a6],[]) := by kernel_rfl
theorem sw_toOpOp:Sound Tryz.prog 20 msw_toOpOp Fw_toOpOp := by
 refine fn_gen goodw_toOpOp (by kernel_rfl) .std (fn := Tryz.f20) (c := (Tryz.f20.body.getD .skip)) (o := Ow_toOpOp_0) (k := 0) (by kernel_rfl) (by kernel_rfl) (by kernel_rfl) (by kernel_rfl) (by decide) kw_toOpOp_0 ?_
 intro ys r outs h
 unfold Fw_toOpOp at h
 split at h
 ·exact (vw_toOpOp _ _ _ _ _ _ _).trans h
 ·cases h
def Ew_toFroTx:Env where
 tt := mkTI Tryz.prog
 fn := fun f => match f with
  | 20 => some (msw_toOpOp,FSem.wk msw_toOpOp Fw_toOpOp)
  | 136 => some (msw_toIntS,FSem.wk msw_toIntS Fw_toIntS)
  | _ => none
 bxf := fun _ => none
 mv := []
 keep := fun _ => []
 keepB := fun _ => []
 keepX := fun _ => []
 keepXB := fun _ => []
theorem goodFw_toFroTx:∀ f ms F,Ew_toFroTx.fn f = some (ms,F) → Sound Tryz.prog f ms F := fun f ms F h => by
 unfold Ew_toFroTx at h
 dsimp only at h
 split at h
 ·exact gF sw_toOpOp h
 ·exact gF sw_toIntS h
 ·cases h
theorem goodw_toFroTx:Good Tryz.prog Ew_toFroTx := ⟨rfl,goodFw_toFroTx,fun f ms F h => by cases h⟩
def Ow_toFroTx_0:Orc := fun _ _ => none
def msw_toFroTx:List PM := [.rd]
def lsw_toFroTx:List (Nat×Code) := loopsAll 0 (Tryz.f94.body.getD .skip)
theorem kw_toFroTx_0:OrcOk Ew_toFroTx Ow_toFroTx_0 lsw_toFroTx 0 := orcOk_none
def g_Aw_toFroTx (a0:Int) (a1:Int) (a2:Int) (a3:Int) (a4:Int) (a5:Int) (a6:Int) (a7:Int) (a8:Bool) (a9:List Int) (a10:List Int):Bool := g_Aw_toIntS a9&&g_Aw_toIntS a10
def Fw_toFroTx:FSem := fun ys => match ys with
 | [.val true [.int .i64 a0,.int .i64 a1,.int .i64 a2,.int .i64 a3,.int .i64 a4,.int .i64 a5,.int .i64 a6,.int .i64 a7,.bool a8,.sl .any 3 (.int .i64) a9,.sl .any 3 (.int .i64) a10]] => some ((g_Aw_toFroTx a0 a1 a2 a3 a4 a5 a6 a7 a8 a9 a10),.val true [.int .i64 a0,.int .i64 a1,.int .i64 a2,.int .i64 a3,.int .i64 a4,.int .i64 a5,.int .i64 a6,.int .i64 a7,.bool a8,.own .any true 3 (.int .i64) (g_Vw_toIntS_0 a9),.own .any true 3 (.int .i64) (g_Vw_toIntS_0 a10)],[])
 | _ => none
theorem vw_toFroTx (a0:Int) (a1:Int) (a2:Int) (a3:Int) (a4:Int) (a5:Int) (a6:Int) (a7:Int) (a8:Bool) (a9:List Int) (a10:List Int):collapseH .std Ew_toFroTx Ow_toFroTx_0 (execFn Ew_toFroTx Tryz.f94 msw_toFroTx [.val true [.int .i64 a0,.int .i64 a1,.int .i64 a2,.int .i64 a3,.int .i64 a4,.int .i64 a5,.int .i64 a6,.int .i64 a7,.bool a8,.sl .any 3 (.int .i64) a9,.sl .any 3 (.int .i64) a10]]) = some ((g_Aw_toFroTx a0 a1 a2 a3 a4 a5 a6 a7 a8 a9 a10),.val true [.int .i64 a0,.int .i64 a1,.int .i64 a2,.int .i64 a3,.int .i64 a4,.int .i64 a5,.int .i64 a6,.int .i64 a7,.bool a8,.own .any true 3 (.int .i64) (g_Vw_toIntS_0 a9),.own .any true 3 (.int .i64) (g_Vw_toIntS_0 a10)],[]) := by kernel_rfl
theorem sw_toFroTx:Sound Tryz.prog 94 msw_toFroTx Fw_toFroTx := by
 refine fn_gen goodw_toFroTx (by kernel_rfl) .std (fn := Tryz.f94) (c := (Tryz.f94.body.getD .skip)) (o := Ow_toFroTx_0) (k := 0) (by kernel_rfl) (by kernel_rfl) (by kernel_rfl) (by kernel_rfl) (by decide) kw_toFroTx_0 ?_
 intro ys r outs h
 unfold Fw_toFroTx at h
 split at h
 ·exact (vw_toFroTx _ _ _ _ _ _ _ _ _ _ _).trans h
 ·cases h
def Ew_toFroTxS:Env where
 tt := mkTI Tryz.prog
 fn := fun f => match f with
  | 94 => some (msw_toFroTx,FSem.wk msw_toFroTx Fw_toFroTx)
  | _ => none
 bxf := fun _ => none
 mv := []
 keep := fun b => match b with
  | 0 => [(0,false),(3,false),(4,false)]
  | _ => []
 keepB := fun b => match b with
  | 0 => []
  | _ => []
 keepX := fun b => match b with
  | 0 => [(3,false)]
  | _ => []
 keepXB := fun b => match b with
  | 0 => []
  | _ => []
theorem goodFw_toFroTxS:∀ f ms F,Ew_toFroTxS.fn f = some (ms,F) → Sound Tryz.prog f ms F := fun f ms F h => by
 unfold Ew_toFroTxS at h
 dsimp only at h
 split at h
 ·exact gF sw_toFroTx h
 ·cases h
theorem goodw_toFroTxS:Good Tryz.prog Ew_toFroTxS := ⟨rfl,goodFw_toFroTxS,fun f ms F h => by cases h⟩
def Ow_toFroTxS_0:Orc := fun _ _ => none
def msw_toFroTxS:List PM := [.rd]
def lsw_toFroTxS:List (Nat×Code) := loopsAll 0 (Tryz.f35.body.getD .skip)
def cw_toFroTxS_0:Code := (loopOf 0 (Tryz.f35.body.getD .skip)).getD .skip
theorem lseqw_toFroTxS:lsw_toFroTxS = [(0,cw_toFroTxS_0)] := by kernel_rfl
theorem mw_toFroTxS_0:∀ p,p ∈ lsw_toFroTxS → p.1 = 0 → p.2 = cw_toFroTxS_0 := by
 intro p hp
 rw [lseqw_toFroTxS] at hp
 simp only [List.mem_cons,List.not_mem_nil,or_false] at hp
 subst hp; simp
theorem kw_toFroTxS_0:OrcOk Ew_toFroTxS Ow_toFroTxS_0 lsw_toFroTxS 0 := orcOk_none
def hw_toFroTxS_0 (y0:tL1) (y1:tL1) (y2:Int):List (Pl×LV) := [(.T 0,.t (.val false [.sl .any 129 (.pair (.int .i64) (.pair (.pair (.int .i64) (.pair (.int .i64) (.pair (.int .i64) (.pair (.int .i64) (.pair (.int .i64) (.pair (.int .i64) (.int .i64))))))) (.pair .bool (.pair (.sl 3 (.int .i64)) (.sl 3 (.int .i64)))))) y0])),(.T 3,.t (.val false [.row 3 0 0])),(.R 3 0,.r 0 (some ⟨false,.non,true,73,(.pair (.int .i64) (.pair (.pair (.int .i64) (.pair (.int .i64) (.pair (.int .i64) (.pair (.int .i64) (.pair (.int .i64) (.pair (.int .i64) (.int .i64))))))) (.pair .bool (.pair (.sl 3 (.int .i64)) (.sl 3 (.int .i64)))))),y1⟩)),(.T 4,.t (.val false [.int .i64 y2]))]
def g_Sw_toFroTxS_0 (y0:tL1):(tL1×Int) → RT (tL1×Int) ((tL1))
 | (y1,y2) => .br (true) (.br (decide (y2 < (y0.length:Int))) (.br (decide (0 ≤ y2 ∧ y2 < (y0.length:Int))) (.br (g_Aw_toFroTx (at_ yT0 y0 (Int.toNat y2)).1 (at_ yT0 y0 (Int.toNat y2)).2.1.1 (at_ yT0 y0 (Int.toNat y2)).2.1.2.1 (at_ yT0 y0 (Int.toNat y2)).2.1.2.2.1 (at_ yT0 y0 (Int.toNat y2)).2.1.2.2.2.1 (at_ yT0 y0 (Int.toNat y2)).2.1.2.2.2.2.1 (at_ yT0 y0 (Int.toNat y2)).2.1.2.2.2.2.2.1 (at_ yT0 y0 (Int.toNat y2)).2.1.2.2.2.2.2.2 (at_ yT0 y0 (Int.toNat y2)).2.2.1 (at_ yT0 y0 (Int.toNat y2)).2.2.2.1 (at_ yT0 y0 (Int.toNat y2)).2.2.2.2) (.br (decide (0 ≤ y2 ∧ y2 < (y1.length:Int))) (.br (decide (Int.toNat y2 < List.length y1)) (.br (true) (.go ((List.set y1 (Int.toNat y2) ((at_ yT0 y0 (Int.toNat y2)).1,((at_ yT0 y0 (Int.toNat y2)).2.1.1,(at_ yT0 y0 (Int.toNat y2)).2.1.2.1,(at_ yT0 y0 (Int.toNat y2)).2.1.2.2.1,(at_ yT0 y0 (Int.toNat y2)).2.1.2.2.2.1,(at_ yT0 y0 (Int.toNat y2)).2.1.2.2.2.2.1,(at_ yT0 y0 (Int.toNat y2)).2.1.2.2.2.2.2.1,(at_ yT0 y0 (Int.toNat y2)).2.1.2.2.2.2.2.2),(at_ yT0 y0 (Int.toNat y2)).2.2.1,g_Vw_toIntS_0 (at_ yT0 y0 (Int.toNat y2)).2.2.2.1,g_Vw_toIntS_0 (at_ yT0 y0 (Int.toNat y2)).2.2.2.2),IntKind.i64.wrap (y2 + 1)))) .bad) .bad) .bad) .bad) .bad) (.out (y1))) .bad
def g_Lw_toFroTxS_0 (y0:tL1) (x:tL1×Int):Option ((tL1)) := loopO (g_Sw_toFroTxS_0 y0) x
def xw_toFroTxS_0 (y0:tL1):((tL1)) → Ex×List (Pl×LV) := fun r => (.exit 0,[(.T 3,.t (.val false [.row 3 0 0])),(.R 3 0,.r 0 (some ⟨false,.non,true,73,(.pair (.int .i64) (.pair (.pair (.int .i64) (.pair (.int .i64) (.pair (.int .i64) (.pair (.int .i64) (.pair (.int .i64) (.pair (.int .i64) (.int .i64))))))) (.pair .bool (.pair (.sl 3 (.int .i64)) (.sl 3 (.int .i64)))))),r⟩))])
def Ow_toFroTxS_1:Orc := fun b h => match b,h with
 | 0,[(.T 0,.t (.val false [.sl .any 129 (.pair (.int .i64) (.pair (.pair (.int .i64) (.pair (.int .i64) (.pair (.int .i64) (.pair (.int .i64) (.pair (.int .i64) (.pair (.int .i64) (.int .i64))))))) (.pair .bool (.pair (.sl 3 (.int .i64)) (.sl 3 (.int .i64)))))) y0])),(.T 3,.t (.val false [.row 3 0 0])),(.R 3 0,.r 0 (some ⟨false,.non,true,73,(.pair (.int .i64) (.pair (.pair (.int .i64) (.pair (.int .i64) (.pair (.int .i64) (.pair (.int .i64) (.pair (.int .i64) (.pair (.int .i64) (.int .i64))))))) (.pair .bool (.pair (.sl 3 (.int .i64)) (.sl 3 (.int .i64)))))),y1⟩)),(.T 4,.t (.val false [.int .i64 y2]))] => some (okO (g_Lw_toFroTxS_0 y0 (y1,y2)),(.leaf (.exit 0) [(.T 3,.t (.val false [.row 3 0 0])),(.R 3 0,.r 0 (some ⟨false,.non,true,73,(.pair (.int .i64) (.pair (.pair (.int .i64) (.pair (.int .i64) (.pair (.int .i64) (.pair (.int .i64) (.pair (.int .i64) (.pair (.int .i64) (.int .i64))))))) (.pair .bool (.pair (.sl 3 (.int .i64)) (.sl 3 (.int .i64)))))),(valO (g_Lw_toFroTxS_0 y0 (y1,y2)))⟩))]))
 | b,h => Ow_toFroTxS_0 b h
theorem bw_toFroTxS_0 (y0:tL1) (y1:tL1) (y2:Int):Tr.bt Ew_toFroTxS Ow_toFroTxS_0 (exec Ew_toFroTxS 0 cw_toFroTxS_0 (St.of (hw_toFroTxS_0 y0 y1 y2)) (leafRd Ew_toFroTxS 0)) = (g_Sw_toFroTxS_0 y0 (y1,y2)).bt (fun ((y1,y2):tL1×Int) => (hw_toFroTxS_0 y0 y1 y2)) (xw_toFroTxS_0 y0) := by kernel_rfl
theorem kw_toFroTxS_1:OrcOk Ew_toFroTxS Ow_toFroTxS_1 lsw_toFroTxS 1 := orc_add kw_toFroTxS_0 (fun n p hp h ex h' ho => by
 obtain ⟨b,c⟩ := p
 obtain ⟨xt,h1,h2⟩ := ho
 have h1:Ow_toFroTxS_1 b h = some (true,xt) := h1
 unfold Ow_toFroTxS_1 at h1
 split at h1
 ·injection h1 with h1
  injection h1 with e1 e2
  subst e2
  have hc:c = cw_toFroTxS_0 := mw_toFroTxS_0 _ hp rfl
  subst hc
  right
  rename_i y0 y1 y2
  have key := LT_step kw_toFroTxS_0 hp (fun q hq => loopsAll_in _ _ _ _ hp hq) (fun ((y1,y2):tL1×Int) => (hw_toFroTxS_0 y0 y1 y2)) (xw_toFroTxS_0 y0) (g_Sw_toFroTxS_0 y0) (fun x => by first | exact bw_toFroTxS_0 y0 x.1 x.2) n (x := (y1,y2)) (okO_some e1)
  have hx:∀ r,XT.sel (.leaf (.exit 0) [(.T 3,.t (.val false [.row 3 0 0])),(.R 3 0,.r 0 (some ⟨false,.non,true,73,(.pair (.int .i64) (.pair (.pair (.int .i64) (.pair (.int .i64) (.pair (.int .i64) (.pair (.int .i64) (.pair (.int .i64) (.pair (.int .i64) (.int .i64))))))) (.pair .bool (.pair (.sl 3 (.int .i64)) (.sl 3 (.int .i64)))))),r⟩))]) = xw_toFroTxS_0 y0 r := fun r => by first | rfl | rcases r with r | r <;> rfl | rcases r with r | r | r <;> rfl | rcases r with r | r | r | r <;> rfl
  have h3 := (hx (valO (g_Lw_toFroTxS_0 y0 (y1,y2)))).symm.trans h2
  have e3 := congrArg Prod.fst h3
  have e4 := congrArg Prod.snd h3
  simp only at e3 e4
  rw [← e3,← e4]
  exact key
 ·exact .inl ⟨xt,h1,h2⟩)
def g_Aw_toFroTxS (a0:tL1):Bool := decide ((a0.length:Int) = (a0.length:Int) ∧ 0 ≤ (a0.length:Int) ∧ (a0.length:Int) ≤ 9223372036854775807 ∧ 120 * (a0.length:Int) ≤ 281474976710656)&&okO (g_Lw_toFroTxS_0 a0 (List.replicate (Int.toNat (a0.length:Int)) ((0:Int),((0:Int),(0:Int),(0:Int),(0:Int),(0:Int),(0:Int),(0:Int)),false,([]:List Int),([]:List Int)),(0:Int)))
def g_Vw_toFroTxS_0 (a0:tL1):tL1 := valO (g_Lw_toFroTxS_0 a0 (List.replicate (Int.toNat (a0.length:Int)) ((0:Int),((0:Int),(0:Int),(0:Int),(0:Int),(0:Int),(0:Int),(0:Int)),false,([]:List Int),([]:List Int)),(0:Int)))
def Fw_toFroTxS:FSem := fun ys => match ys with
 | [.val false [.sl .any 129 (.pair (.int .i64) (.pair (.pair (.int .i64) (.pair (.int .i64) (.pair (.int .i64) (.pair (.int .i64) (.pair (.int .i64) (.pair (.int .i64) (.int .i64))))))) (.pair .bool (.pair (.sl 3 (.int .i64)) (.sl 3 (.int .i64)))))) a0]] => some ((g_Aw_toFroTxS a0),.val false [.own .any true 73 (.pair (.int .i64) (.pair (.pair (.int .i64) (.pair (.int .i64) (.pair (.int .i64) (.pair (.int .i64) (.pair (.int .i64) (.pair (.int .i64) (.int .i64))))))) (.pair .bool (.pair (.sl 3 (.int .i64)) (.sl 3 (.int .i64)))))) (g_Vw_toFroTxS_0 a0)],[])
 | _ => none
theorem vw_toFroTxS (a0:tL1):collapseH .std Ew_toFroTxS Ow_toFroTxS_1 (execFn Ew_toFroTxS Tryz.f35 msw_toFroTxS [.val false [.sl .any 129 (.pair (.int .i64) (.pair (.pair (.int .i64) (.pair (.int .i64) (.pair (.int .i64) (.pair (.int .i64) (.pair (.int .i64) (.pair (.int .i64) (.int .i64))))))) (.pair .bool (.pair (.sl 3 (.int .i64)) (.sl 3 (.int .i64)))))) a0]]) = some ((g_Aw_toFroTxS a0),.val false [.own .any true 73 (.pair (.int .i64) (.pair (.pair (.int .i64) (.pair (.int .i64) (.pair (.int .i64) (.pair (.int .i64) (.pair (.int .i64) (.pair (.int .i64) (.int .i64))))))) (.pair .bool (.pair (.sl 3 (.int .i64)) (.sl 3 (.int .i64)))))) (g_Vw_toFroTxS_0 a0)],[]) := by kernel_rfl
theorem sw_toFroTxS:Sound Tryz.prog 35 msw_toFroTxS Fw_toFroTxS := by
 refine fn_gen goodw_toFroTxS (by kernel_rfl) .std (fn := Tryz.f35) (c := (Tryz.f35.body.getD .skip)) (o := Ow_toFroTxS_1) (k := 1) (by kernel_rfl) (by kernel_rfl) (by kernel_rfl) (by kernel_rfl) (by decide) kw_toFroTxS_1 ?_
 intro ys r outs h
 unfold Fw_toFroTxS at h
 split at h
 ·exact (vw_toFroTxS _).trans h
 ·cases h
def Ew_toStoWrite:Env where
 tt := mkTI Tryz.prog
 fn := fun f => match f with
  | 136 => some (msw_toIntS,FSem.wk msw_toIntS Fw_toIntS)
  | _ => none
 bxf := fun _ => none
 mv := []
 keep := fun _ => []
 keepB := fun _ => []
 keepX := fun _ => []
 keepXB := fun _ => []
theorem goodFw_toStoWrite:∀ f ms F,Ew_toStoWrite.fn f = some (ms,F) → Sound Tryz.prog f ms F := fun f ms F h => by
 unfold Ew_toStoWrite at h
 dsimp only at h
 split at h
 ·exact gF sw_toIntS h
 ·cases h
theorem goodw_toStoWrite:Good Tryz.prog Ew_toStoWrite := ⟨rfl,goodFw_toStoWrite,fun f ms F h => by cases h⟩
def Ow_toStoWrite_0:Orc := fun _ _ => none
def msw_toStoWrite:List PM := [.rd]
def lsw_toStoWrite:List (Nat×Code) := loopsAll 0 (Tryz.f175.body.getD .skip)
theorem kw_toStoWrite_0:OrcOk Ew_toStoWrite Ow_toStoWrite_0 lsw_toStoWrite 0 := orcOk_none
def g_Aw_toStoWrite (a0:ByteArray) (a1:Bool) (a2:List Int):Bool := g_Aw_toIntS a2
def Fw_toStoWrite:FSem := fun ys => match ys with
 | [.val true [.str a0,.bool a1,.sl .any 3 (.int .i64) a2]] => some ((g_Aw_toStoWrite a0 a1 a2),.val true [.str a0,.bool a1,.own .any true 3 (.int .i64) (g_Vw_toIntS_0 a2)],[])
 | _ => none
theorem vw_toStoWrite (a0:ByteArray) (a1:Bool) (a2:List Int):collapseH .std Ew_toStoWrite Ow_toStoWrite_0 (execFn Ew_toStoWrite Tryz.f175 msw_toStoWrite [.val true [.str a0,.bool a1,.sl .any 3 (.int .i64) a2]]) = some ((g_Aw_toStoWrite a0 a1 a2),.val true [.str a0,.bool a1,.own .any true 3 (.int .i64) (g_Vw_toIntS_0 a2)],[]) := by kernel_rfl
theorem sw_toStoWrite:Sound Tryz.prog 175 msw_toStoWrite Fw_toStoWrite := by
 refine fn_gen goodw_toStoWrite (by kernel_rfl) .std (fn := Tryz.f175) (c := (Tryz.f175.body.getD .skip)) (o := Ow_toStoWrite_0) (k := 0) (by kernel_rfl) (by kernel_rfl) (by kernel_rfl) (by kernel_rfl) (by decide) kw_toStoWrite_0 ?_
 intro ys r outs h
 unfold Fw_toStoWrite at h
 split at h
 ·exact (vw_toStoWrite _ _ _).trans h
 ·cases h
def Ew_toStoWriteS:Env where
 tt := mkTI Tryz.prog
 fn := fun f => match f with
  | 175 => some (msw_toStoWrite,FSem.wk msw_toStoWrite Fw_toStoWrite)
  | _ => none
 bxf := fun _ => none
 mv := []
 keep := fun b => match b with
  | 0 => [(0,false),(3,false),(4,false)]
  | _ => []
 keepB := fun b => match b with
  | 0 => []
  | _ => []
 keepX := fun b => match b with
  | 0 => [(3,false)]
  | _ => []
 keepXB := fun b => match b with
  | 0 => []
  | _ => []
theorem goodFw_toStoWriteS:∀ f ms F,Ew_toStoWriteS.fn f = some (ms,F) → Sound Tryz.prog f ms F := fun f ms F h => by
 unfold Ew_toStoWriteS at h
 dsimp only at h
 split at h
 ·exact gF sw_toStoWrite h
 ·cases h
theorem goodw_toStoWriteS:Good Tryz.prog Ew_toStoWriteS := ⟨rfl,goodFw_toStoWriteS,fun f ms F h => by cases h⟩
def Ow_toStoWriteS_0:Orc := fun _ _ => none
def msw_toStoWriteS:List PM := [.rd]
def lsw_toStoWriteS:List (Nat×Code) := loopsAll 0 (Tryz.f159.body.getD .skip)
def cw_toStoWriteS_0:Code := (loopOf 0 (Tryz.f159.body.getD .skip)).getD .skip
theorem lseqw_toStoWriteS:lsw_toStoWriteS = [(0,cw_toStoWriteS_0)] := by kernel_rfl
theorem mw_toStoWriteS_0:∀ p,p ∈ lsw_toStoWriteS → p.1 = 0 → p.2 = cw_toStoWriteS_0 := by
 intro p hp
 rw [lseqw_toStoWriteS] at hp
 simp only [List.mem_cons,List.not_mem_nil,or_false] at hp
 subst hp; simp
theorem kw_toStoWriteS_0:OrcOk Ew_toStoWriteS Ow_toStoWriteS_0 lsw_toStoWriteS 0 := orcOk_none
def hw_toStoWriteS_0 (y0:tL2) (y1:tL2) (y2:Int):List (Pl×LV) := [(.T 0,.t (.val false [.sl .any 196 (.pair .str (.pair .bool (.sl 3 (.int .i64)))) y0])),(.T 3,.t (.val false [.row 3 0 0])),(.R 3 0,.r 0 (some ⟨false,.non,true,155,(.pair .str (.pair .bool (.sl 3 (.int .i64)))),y1⟩)),(.T 4,.t (.val false [.int .i64 y2]))]
def g_Sw_toStoWriteS_0 (y0:tL2):(tL2×Int) → RT (tL2×Int) ((tL2))
 | (y1,y2) => .br (true) (.br (decide (y2 < (y0.length:Int))) (.br (decide (0 ≤ y2 ∧ y2 < (y0.length:Int))) (.br (g_Aw_toStoWrite (at_ yT3 y0 (Int.toNat y2)).1 (at_ yT3 y0 (Int.toNat y2)).2.1 (at_ yT3 y0 (Int.toNat y2)).2.2) (.br (decide (0 ≤ y2 ∧ y2 < (y1.length:Int))) (.br (decide (Int.toNat y2 < List.length y1)) (.br (true) (.go ((List.set y1 (Int.toNat y2) ((at_ yT3 y0 (Int.toNat y2)).1,(at_ yT3 y0 (Int.toNat y2)).2.1,g_Vw_toIntS_0 (at_ yT3 y0 (Int.toNat y2)).2.2),IntKind.i64.wrap (y2 + 1)))) .bad) .bad) .bad) .bad) .bad) (.out (y1))) .bad
def g_Lw_toStoWriteS_0 (y0:tL2) (x:tL2×Int):Option ((tL2)) := loopO (g_Sw_toStoWriteS_0 y0) x
def xw_toStoWriteS_0 (y0:tL2):((tL2)) → Ex×List (Pl×LV) := fun r => (.exit 0,[(.T 3,.t (.val false [.row 3 0 0])),(.R 3 0,.r 0 (some ⟨false,.non,true,155,(.pair .str (.pair .bool (.sl 3 (.int .i64)))),r⟩))])
def Ow_toStoWriteS_1:Orc := fun b h => match b,h with
 | 0,[(.T 0,.t (.val false [.sl .any 196 (.pair .str (.pair .bool (.sl 3 (.int .i64)))) y0])),(.T 3,.t (.val false [.row 3 0 0])),(.R 3 0,.r 0 (some ⟨false,.non,true,155,(.pair .str (.pair .bool (.sl 3 (.int .i64)))),y1⟩)),(.T 4,.t (.val false [.int .i64 y2]))] => some (okO (g_Lw_toStoWriteS_0 y0 (y1,y2)),(.leaf (.exit 0) [(.T 3,.t (.val false [.row 3 0 0])),(.R 3 0,.r 0 (some ⟨false,.non,true,155,(.pair .str (.pair .bool (.sl 3 (.int .i64)))),(valO (g_Lw_toStoWriteS_0 y0 (y1,y2)))⟩))]))
 | b,h => Ow_toStoWriteS_0 b h
theorem bw_toStoWriteS_0 (y0:tL2) (y1:tL2) (y2:Int):Tr.bt Ew_toStoWriteS Ow_toStoWriteS_0 (exec Ew_toStoWriteS 0 cw_toStoWriteS_0 (St.of (hw_toStoWriteS_0 y0 y1 y2)) (leafRd Ew_toStoWriteS 0)) = (g_Sw_toStoWriteS_0 y0 (y1,y2)).bt (fun ((y1,y2):tL2×Int) => (hw_toStoWriteS_0 y0 y1 y2)) (xw_toStoWriteS_0 y0) := by kernel_rfl
theorem kw_toStoWriteS_1:OrcOk Ew_toStoWriteS Ow_toStoWriteS_1 lsw_toStoWriteS 1 := orc_add kw_toStoWriteS_0 (fun n p hp h ex h' ho => by
 obtain ⟨b,c⟩ := p
 obtain ⟨xt,h1,h2⟩ := ho
 have h1:Ow_toStoWriteS_1 b h = some (true,xt) := h1
 unfold Ow_toStoWriteS_1 at h1
 split at h1
 ·injection h1 with h1
  injection h1 with e1 e2
  subst e2
  have hc:c = cw_toStoWriteS_0 := mw_toStoWriteS_0 _ hp rfl
  subst hc
  right
  rename_i y0 y1 y2
  have key := LT_step kw_toStoWriteS_0 hp (fun q hq => loopsAll_in _ _ _ _ hp hq) (fun ((y1,y2):tL2×Int) => (hw_toStoWriteS_0 y0 y1 y2)) (xw_toStoWriteS_0 y0) (g_Sw_toStoWriteS_0 y0) (fun x => by first | exact bw_toStoWriteS_0 y0 x.1 x.2) n (x := (y1,y2)) (okO_some e1)
  have hx:∀ r,XT.sel (.leaf (.exit 0) [(.T 3,.t (.val false [.row 3 0 0])),(.R 3 0,.r 0 (some ⟨false,.non,true,155,(.pair .str (.pair .bool (.sl 3 (.int .i64)))),r⟩))]) = xw_toStoWriteS_0 y0 r := fun r => by first | rfl | rcases r with r | r <;> rfl | rcases r with r | r | r <;> rfl | rcases r with r | r | r | r <;> rfl
  have h3 := (hx (valO (g_Lw_toStoWriteS_0 y0 (y1,y2)))).symm.trans h2
  have e3 := congrArg Prod.fst h3
  have e4 := congrArg Prod.snd h3
  simp only at e3 e4
  rw [← e3,← e4]
  exact key
 ·exact .inl ⟨xt,h1,h2⟩)
def g_Aw_toStoWriteS (a0:tL2):Bool := decide ((a0.length:Int) = (a0.length:Int) ∧ 0 ≤ (a0.length:Int) ∧ (a0.length:Int) ≤ 9223372036854775807 ∧ 48 * (a0.length:Int) ≤ 281474976710656)&&okO (g_Lw_toStoWriteS_0 a0 (List.replicate (Int.toNat (a0.length:Int)) (lit [],false,[]),(0:Int)))
def g_Vw_toStoWriteS_0 (a0:tL2):tL2 := valO (g_Lw_toStoWriteS_0 a0 (List.replicate (Int.toNat (a0.length:Int)) (lit [],false,[]),(0:Int)))
def Fw_toStoWriteS:FSem := fun ys => match ys with
 | [.val false [.sl .any 196 (.pair .str (.pair .bool (.sl 3 (.int .i64)))) a0]] => some ((g_Aw_toStoWriteS a0),.val false [.own .any true 155 (.pair .str (.pair .bool (.sl 3 (.int .i64)))) (g_Vw_toStoWriteS_0 a0)],[])
 | _ => none
theorem vw_toStoWriteS (a0:tL2):collapseH .std Ew_toStoWriteS Ow_toStoWriteS_1 (execFn Ew_toStoWriteS Tryz.f159 msw_toStoWriteS [.val false [.sl .any 196 (.pair .str (.pair .bool (.sl 3 (.int .i64)))) a0]]) = some ((g_Aw_toStoWriteS a0),.val false [.own .any true 155 (.pair .str (.pair .bool (.sl 3 (.int .i64)))) (g_Vw_toStoWriteS_0 a0)],[]) := by kernel_rfl
theorem sw_toStoWriteS:Sound Tryz.prog 159 msw_toStoWriteS Fw_toStoWriteS := by
 refine fn_gen goodw_toStoWriteS (by kernel_rfl) .std (fn := Tryz.f159) (c := (Tryz.f159.body.getD .skip)) (o := Ow_toStoWriteS_1) (k := 1) (by kernel_rfl) (by kernel_rfl) (by kernel_rfl) (by kernel_rfl) (by decide) kw_toStoWriteS_1 ?_
 intro ys r outs h
 unfold Fw_toStoWriteS at h
 split at h
 ·exact (vw_toStoWriteS _).trans h
 ·cases h
def Ew_toStringS:Env where
 tt := mkTI Tryz.prog
 fn := fun _ => none
 bxf := fun _ => none
 mv := []
 keep := fun b => match b with
  | 0 => [(0,false),(3,false),(4,false)]
  | _ => []
 keepB := fun b => match b with
  | 0 => []
  | _ => []
 keepX := fun b => match b with
  | 0 => [(3,false)]
  | _ => []
 keepXB := fun b => match b with
  | 0 => []
  | _ => []
theorem goodFw_toStringS:∀ f ms F,Ew_toStringS.fn f = some (ms,F) → Sound Tryz.prog f ms F := fun f ms F h => by cases h
theorem goodw_toStringS:Good Tryz.prog Ew_toStringS := ⟨rfl,goodFw_toStringS,fun f ms F h => by cases h⟩
def Ow_toStringS_0:Orc := fun _ _ => none
def msw_toStringS:List PM := [.rd]
def lsw_toStringS:List (Nat×Code) := loopsAll 0 (Tryz.f158.body.getD .skip)
def cw_toStringS_0:Code := (loopOf 0 (Tryz.f158.body.getD .skip)).getD .skip
theorem lseqw_toStringS:lsw_toStringS = [(0,cw_toStringS_0)] := by kernel_rfl
theorem mw_toStringS_0:∀ p,p ∈ lsw_toStringS → p.1 = 0 → p.2 = cw_toStringS_0 := by
 intro p hp
 rw [lseqw_toStringS] at hp
 simp only [List.mem_cons,List.not_mem_nil,or_false] at hp
 subst hp; simp
theorem kw_toStringS_0:OrcOk Ew_toStringS Ow_toStringS_0 lsw_toStringS 0 := orcOk_none
def hw_toStringS_0 (y0:List ByteArray) (y1:List ByteArray) (y2:Int):List (Pl×LV) := [(.T 0,.t (.val false [.sl .any 9 .str y0])),(.T 3,.t (.val false [.row 3 0 0])),(.R 3 0,.r 0 (some ⟨false,.non,true,9,.str,y1⟩)),(.T 4,.t (.val false [.int .i64 y2]))]
def g_Sw_toStringS_0 (y0:List ByteArray):((List ByteArray)×Int) → RT ((List ByteArray)×Int) (((List ByteArray)))
 | (y1,y2) => .br (true) (.br (decide (y2 < (y0.length:Int))) (.br (decide (0 ≤ y2 ∧ y2 < (y0.length:Int))) (.br (decide (0 ≤ y2 ∧ y2 < (y1.length:Int))) (.br (decide (Int.toNat y2 < List.length y1)) (.br (true) (.go ((List.set y1 (Int.toNat y2) (at_ Ty.str y0 (Int.toNat y2)),IntKind.i64.wrap (y2 + 1)))) .bad) .bad) .bad) .bad) (.out (y1))) .bad
def g_Lw_toStringS_0 (y0:List ByteArray) (x:(List ByteArray)×Int):Option (((List ByteArray))) := loopO (g_Sw_toStringS_0 y0) x
def xw_toStringS_0 (y0:List ByteArray):(((List ByteArray))) → Ex×List (Pl×LV) := fun r => (.exit 0,[(.T 3,.t (.val false [.row 3 0 0])),(.R 3 0,.r 0 (some ⟨false,.non,true,9,.str,r⟩))])
def Ow_toStringS_1:Orc := fun b h => match b,h with
 | 0,[(.T 0,.t (.val false [.sl .any 9 .str y0])),(.T 3,.t (.val false [.row 3 0 0])),(.R 3 0,.r 0 (some ⟨false,.non,true,9,.str,y1⟩)),(.T 4,.t (.val false [.int .i64 y2]))] => some (okO (g_Lw_toStringS_0 y0 (y1,y2)),(.leaf (.exit 0) [(.T 3,.t (.val false [.row 3 0 0])),(.R 3 0,.r 0 (some ⟨false,.non,true,9,.str,(valO (g_Lw_toStringS_0 y0 (y1,y2)))⟩))]))
 | b,h => Ow_toStringS_0 b h
theorem bw_toStringS_0 (y0:List ByteArray) (y1:List ByteArray) (y2:Int):Tr.bt Ew_toStringS Ow_toStringS_0 (exec Ew_toStringS 0 cw_toStringS_0 (St.of (hw_toStringS_0 y0 y1 y2)) (leafRd Ew_toStringS 0)) = (g_Sw_toStringS_0 y0 (y1,y2)).bt (fun ((y1,y2):(List ByteArray)×Int) => (hw_toStringS_0 y0 y1 y2)) (xw_toStringS_0 y0) := by kernel_rfl
theorem kw_toStringS_1:OrcOk Ew_toStringS Ow_toStringS_1 lsw_toStringS 1 := orc_add kw_toStringS_0 (fun n p hp h ex h' ho => by
 obtain ⟨b,c⟩ := p
 obtain ⟨xt,h1,h2⟩ := ho
 have h1:Ow_toStringS_1 b h = some (true,xt) := h1
 unfold Ow_toStringS_1 at h1
 split at h1
 ·injection h1 with h1
  injection h1 with e1 e2
  subst e2
  have hc:c = cw_toStringS_0 := mw_toStringS_0 _ hp rfl
  subst hc
  right
  rename_i y0 y1 y2
  have key := LT_step kw_toStringS_0 hp (fun q hq => loopsAll_in _ _ _ _ hp hq) (fun ((y1,y2):(List ByteArray)×Int) => (hw_toStringS_0 y0 y1 y2)) (xw_toStringS_0 y0) (g_Sw_toStringS_0 y0) (fun x => by first | exact bw_toStringS_0 y0 x.1 x.2) n (x := (y1,y2)) (okO_some e1)
  have hx:∀ r,XT.sel (.leaf (.exit 0) [(.T 3,.t (.val false [.row 3 0 0])),(.R 3 0,.r 0 (some ⟨false,.non,true,9,.str,r⟩))]) = xw_toStringS_0 y0 r := fun r => by first | rfl | rcases r with r | r <;> rfl | rcases r with r | r | r <;> rfl | rcases r with r | r | r | r <;> rfl
  have h3 := (hx (valO (g_Lw_toStringS_0 y0 (y1,y2)))).symm.trans h2
  have e3 := congrArg Prod.fst h3
  have e4 := congrArg Prod.snd h3
  simp only at e3 e4
  rw [← e3,← e4]
  exact key
 ·exact .inl ⟨xt,h1,h2⟩)
def g_Aw_toStringS (a0:List ByteArray):Bool := decide ((a0.length:Int) = (a0.length:Int) ∧ 0 ≤ (a0.length:Int) ∧ (a0.length:Int) ≤ 9223372036854775807 ∧ 16 * (a0.length:Int) ≤ 281474976710656)&&okO (g_Lw_toStringS_0 a0 (List.replicate (Int.toNat (a0.length:Int)) (lit []),(0:Int)))
def g_Vw_toStringS_0 (a0:List ByteArray):List ByteArray := valO (g_Lw_toStringS_0 a0 (List.replicate (Int.toNat (a0.length:Int)) (lit []),(0:Int)))
def Fw_toStringS:FSem := fun ys => match ys with
 | [.val false [.sl .any 9 .str a0]] => some ((g_Aw_toStringS a0),.val false [.own .any true 9 .str (g_Vw_toStringS_0 a0)],[])
 | _ => none
theorem vw_toStringS (a0:List ByteArray):collapseH .std Ew_toStringS Ow_toStringS_1 (execFn Ew_toStringS Tryz.f158 msw_toStringS [.val false [.sl .any 9 .str a0]]) = some ((g_Aw_toStringS a0),.val false [.own .any true 9 .str (g_Vw_toStringS_0 a0)],[]) := by kernel_rfl
theorem sw_toStringS:Sound Tryz.prog 158 msw_toStringS Fw_toStringS := by
 refine fn_gen goodw_toStringS (by kernel_rfl) .std (fn := Tryz.f158) (c := (Tryz.f158.body.getD .skip)) (o := Ow_toStringS_1) (k := 1) (by kernel_rfl) (by kernel_rfl) (by kernel_rfl) (by kernel_rfl) (by decide) kw_toStringS_1 ?_
 intro ys r outs h
 unfold Fw_toStringS at h
 split at h
 ·exact (vw_toStringS _).trans h
 ·cases h
def Ew_toLogNote:Env where
 tt := mkTI Tryz.prog
 fn := fun f => match f with
  | 158 => some (msw_toStringS,FSem.wk msw_toStringS Fw_toStringS)
  | 159 => some (msw_toStoWriteS,FSem.wk msw_toStoWriteS Fw_toStoWriteS)
  | _ => none
 bxf := fun _ => none
 mv := []
 keep := fun _ => []
 keepB := fun _ => []
 keepX := fun _ => []
 keepXB := fun _ => []
theorem goodFw_toLogNote:∀ f ms F,Ew_toLogNote.fn f = some (ms,F) → Sound Tryz.prog f ms F := fun f ms F h => by
 unfold Ew_toLogNote at h
 dsimp only at h
 split at h
 ·exact gF sw_toStringS h
 ·exact gF sw_toStoWriteS h
 ·cases h
theorem goodw_toLogNote:Good Tryz.prog Ew_toLogNote := ⟨rfl,goodFw_toLogNote,fun f ms F h => by cases h⟩
def Ow_toLogNote_0:Orc := fun _ _ => none
def msw_toLogNote:List PM := [.rd]
def lsw_toLogNote:List (Nat×Code) := loopsAll 0 (Tryz.f135.body.getD .skip)
theorem kw_toLogNote_0:OrcOk Ew_toLogNote Ow_toLogNote_0 lsw_toLogNote 0 := orcOk_none
def g_Aw_toLogNote (a0:Int) (a1:Int) (a2:List ByteArray) (a3:tL2):Bool := g_Aw_toStringS a2&&g_Aw_toStoWriteS a3
def Fw_toLogNote:FSem := fun ys => match ys with
 | [.val true [.int .i64 a0,.int .i64 a1,.sl .any 9 .str a2,.sl .any 196 (.pair .str (.pair .bool (.sl 3 (.int .i64)))) a3]] => some ((g_Aw_toLogNote a0 a1 a2 a3),.val true [.int .i64 a0,.int .i64 a1,.own .any true 9 .str (g_Vw_toStringS_0 a2),.own .any true 155 (.pair .str (.pair .bool (.sl 3 (.int .i64)))) (g_Vw_toStoWriteS_0 a3)],[])
 | _ => none
theorem vw_toLogNote (a0:Int) (a1:Int) (a2:List ByteArray) (a3:tL2):collapseH .std Ew_toLogNote Ow_toLogNote_0 (execFn Ew_toLogNote Tryz.f135 msw_toLogNote [.val true [.int .i64 a0,.int .i64 a1,.sl .any 9 .str a2,.sl .any 196 (.pair .str (.pair .bool (.sl 3 (.int .i64)))) a3]]) = some ((g_Aw_toLogNote a0 a1 a2 a3),.val true [.int .i64 a0,.int .i64 a1,.own .any true 9 .str (g_Vw_toStringS_0 a2),.own .any true 155 (.pair .str (.pair .bool (.sl 3 (.int .i64)))) (g_Vw_toStoWriteS_0 a3)],[]) := by kernel_rfl
theorem sw_toLogNote:Sound Tryz.prog 135 msw_toLogNote Fw_toLogNote := by
 refine fn_gen goodw_toLogNote (by kernel_rfl) .std (fn := Tryz.f135) (c := (Tryz.f135.body.getD .skip)) (o := Ow_toLogNote_0) (k := 0) (by kernel_rfl) (by kernel_rfl) (by kernel_rfl) (by kernel_rfl) (by decide) kw_toLogNote_0 ?_
 intro ys r outs h
 unfold Fw_toLogNote at h
 split at h
 ·exact (vw_toLogNote _ _ _ _).trans h
 ·cases h
def Ew_toLogNoteS:Env where
 tt := mkTI Tryz.prog
 fn := fun f => match f with
  | 135 => some (msw_toLogNote,FSem.wk msw_toLogNote Fw_toLogNote)
  | _ => none
 bxf := fun _ => none
 mv := []
 keep := fun b => match b with
  | 0 => [(0,false),(3,false),(4,false)]
  | _ => []
 keepB := fun b => match b with
  | 0 => []
  | _ => []
 keepX := fun b => match b with
  | 0 => [(3,false)]
  | _ => []
 keepXB := fun b => match b with
  | 0 => []
  | _ => []
theorem goodFw_toLogNoteS:∀ f ms F,Ew_toLogNoteS.fn f = some (ms,F) → Sound Tryz.prog f ms F := fun f ms F h => by
 unfold Ew_toLogNoteS at h
 dsimp only at h
 split at h
 ·exact gF sw_toLogNote h
 ·cases h
theorem goodw_toLogNoteS:Good Tryz.prog Ew_toLogNoteS := ⟨rfl,goodFw_toLogNoteS,fun f ms F h => by cases h⟩
def Ow_toLogNoteS_0:Orc := fun _ _ => none
def msw_toLogNoteS:List PM := [.rd]
def lsw_toLogNoteS:List (Nat×Code) := loopsAll 0 (Tryz.f93.body.getD .skip)
def cw_toLogNoteS_0:Code := (loopOf 0 (Tryz.f93.body.getD .skip)).getD .skip
theorem lseqw_toLogNoteS:lsw_toLogNoteS = [(0,cw_toLogNoteS_0)] := by kernel_rfl
theorem mw_toLogNoteS_0:∀ p,p ∈ lsw_toLogNoteS → p.1 = 0 → p.2 = cw_toLogNoteS_0 := by
 intro p hp
 rw [lseqw_toLogNoteS] at hp
 simp only [List.mem_cons,List.not_mem_nil,or_false] at hp
 subst hp; simp
theorem kw_toLogNoteS_0:OrcOk Ew_toLogNoteS Ow_toLogNoteS_0 lsw_toLogNoteS 0 := orcOk_none
def hw_toLogNoteS_0 (y0:tL0) (y1:tL0) (y2:Int):List (Pl×LV) := [(.T 0,.t (.val false [.sl .any 169 (.pair (.int .i64) (.pair (.int .i64) (.pair (.sl 9 .str) (.sl 196 (.pair .str (.pair .bool (.sl 3 (.int .i64)))))))) y0])),(.T 3,.t (.val false [.row 3 0 0])),(.R 3 0,.r 0 (some ⟨false,.non,true,92,(.pair (.int .i64) (.pair (.int .i64) (.pair (.sl 9 .str) (.sl 155 (.pair .str (.pair .bool (.sl 3 (.int .i64)))))))),y1⟩)),(.T 4,.t (.val false [.int .i64 y2]))]
def g_Sw_toLogNoteS_0 (y0:tL0):(tL0×Int) → RT (tL0×Int) ((tL0))
 | (y1,y2) => .br (true) (.br (decide (y2 < (y0.length:Int))) (.br (decide (0 ≤ y2 ∧ y2 < (y0.length:Int))) (.br (g_Aw_toLogNote (at_ yT4 y0 (Int.toNat y2)).1 (at_ yT4 y0 (Int.toNat y2)).2.1 (at_ yT4 y0 (Int.toNat y2)).2.2.1 (at_ yT4 y0 (Int.toNat y2)).2.2.2) (.br (decide (0 ≤ y2 ∧ y2 < (y1.length:Int))) (.br (decide (Int.toNat y2 < List.length y1)) (.br (true) (.go ((List.set y1 (Int.toNat y2) ((at_ yT4 y0 (Int.toNat y2)).1,(at_ yT4 y0 (Int.toNat y2)).2.1,g_Vw_toStringS_0 (at_ yT4 y0 (Int.toNat y2)).2.2.1,g_Vw_toStoWriteS_0 (at_ yT4 y0 (Int.toNat y2)).2.2.2),IntKind.i64.wrap (y2 + 1)))) .bad) .bad) .bad) .bad) .bad) (.out (y1))) .bad
def g_Lw_toLogNoteS_0 (y0:tL0) (x:tL0×Int):Option ((tL0)) := loopO (g_Sw_toLogNoteS_0 y0) x
def xw_toLogNoteS_0 (y0:tL0):((tL0)) → Ex×List (Pl×LV) := fun r => (.exit 0,[(.T 3,.t (.val false [.row 3 0 0])),(.R 3 0,.r 0 (some ⟨false,.non,true,92,(.pair (.int .i64) (.pair (.int .i64) (.pair (.sl 9 .str) (.sl 155 (.pair .str (.pair .bool (.sl 3 (.int .i64)))))))),r⟩))])
def Ow_toLogNoteS_1:Orc := fun b h => match b,h with
 | 0,[(.T 0,.t (.val false [.sl .any 169 (.pair (.int .i64) (.pair (.int .i64) (.pair (.sl 9 .str) (.sl 196 (.pair .str (.pair .bool (.sl 3 (.int .i64)))))))) y0])),(.T 3,.t (.val false [.row 3 0 0])),(.R 3 0,.r 0 (some ⟨false,.non,true,92,(.pair (.int .i64) (.pair (.int .i64) (.pair (.sl 9 .str) (.sl 155 (.pair .str (.pair .bool (.sl 3 (.int .i64)))))))),y1⟩)),(.T 4,.t (.val false [.int .i64 y2]))] => some (okO (g_Lw_toLogNoteS_0 y0 (y1,y2)),(.leaf (.exit 0) [(.T 3,.t (.val false [.row 3 0 0])),(.R 3 0,.r 0 (some ⟨false,.non,true,92,(.pair (.int .i64) (.pair (.int .i64) (.pair (.sl 9 .str) (.sl 155 (.pair .str (.pair .bool (.sl 3 (.int .i64)))))))),(valO (g_Lw_toLogNoteS_0 y0 (y1,y2)))⟩))]))
 | b,h => Ow_toLogNoteS_0 b h
theorem bw_toLogNoteS_0 (y0:tL0) (y1:tL0) (y2:Int):Tr.bt Ew_toLogNoteS Ow_toLogNoteS_0 (exec Ew_toLogNoteS 0 cw_toLogNoteS_0 (St.of (hw_toLogNoteS_0 y0 y1 y2)) (leafRd Ew_toLogNoteS 0)) = (g_Sw_toLogNoteS_0 y0 (y1,y2)).bt (fun ((y1,y2):tL0×Int) => (hw_toLogNoteS_0 y0 y1 y2)) (xw_toLogNoteS_0 y0) := by kernel_rfl
theorem kw_toLogNoteS_1:OrcOk Ew_toLogNoteS Ow_toLogNoteS_1 lsw_toLogNoteS 1 := orc_add kw_toLogNoteS_0 (fun n p hp h ex h' ho => by
 obtain ⟨b,c⟩ := p
 obtain ⟨xt,h1,h2⟩ := ho
 have h1:Ow_toLogNoteS_1 b h = some (true,xt) := h1
 unfold Ow_toLogNoteS_1 at h1
 split at h1
 ·injection h1 with h1
  injection h1 with e1 e2
  subst e2
  have hc:c = cw_toLogNoteS_0 := mw_toLogNoteS_0 _ hp rfl
  subst hc
  right
  rename_i y0 y1 y2
  have key := LT_step kw_toLogNoteS_0 hp (fun q hq => loopsAll_in _ _ _ _ hp hq) (fun ((y1,y2):tL0×Int) => (hw_toLogNoteS_0 y0 y1 y2)) (xw_toLogNoteS_0 y0) (g_Sw_toLogNoteS_0 y0) (fun x => by first | exact bw_toLogNoteS_0 y0 x.1 x.2) n (x := (y1,y2)) (okO_some e1)
  have hx:∀ r,XT.sel (.leaf (.exit 0) [(.T 3,.t (.val false [.row 3 0 0])),(.R 3 0,.r 0 (some ⟨false,.non,true,92,(.pair (.int .i64) (.pair (.int .i64) (.pair (.sl 9 .str) (.sl 155 (.pair .str (.pair .bool (.sl 3 (.int .i64)))))))),r⟩))]) = xw_toLogNoteS_0 y0 r := fun r => by first | rfl | rcases r with r | r <;> rfl | rcases r with r | r | r <;> rfl | rcases r with r | r | r | r <;> rfl
  have h3 := (hx (valO (g_Lw_toLogNoteS_0 y0 (y1,y2)))).symm.trans h2
  have e3 := congrArg Prod.fst h3
  have e4 := congrArg Prod.snd h3
  simp only at e3 e4
  rw [← e3,← e4]
  exact key
 ·exact .inl ⟨xt,h1,h2⟩)
def g_Aw_toLogNoteS (a0:tL0):Bool := decide ((a0.length:Int) = (a0.length:Int) ∧ 0 ≤ (a0.length:Int) ∧ (a0.length:Int) ≤ 9223372036854775807 ∧ 64 * (a0.length:Int) ≤ 281474976710656)&&okO (g_Lw_toLogNoteS_0 a0 (List.replicate (Int.toNat (a0.length:Int)) ((0:Int),(0:Int),[],[]),(0:Int)))
def g_Vw_toLogNoteS_0 (a0:tL0):tL0 := valO (g_Lw_toLogNoteS_0 a0 (List.replicate (Int.toNat (a0.length:Int)) ((0:Int),(0:Int),[],[]),(0:Int)))
def Fw_toLogNoteS:FSem := fun ys => match ys with
 | [.val false [.sl .any 169 (.pair (.int .i64) (.pair (.int .i64) (.pair (.sl 9 .str) (.sl 196 (.pair .str (.pair .bool (.sl 3 (.int .i64)))))))) a0]] => some ((g_Aw_toLogNoteS a0),.val false [.own .any true 92 (.pair (.int .i64) (.pair (.int .i64) (.pair (.sl 9 .str) (.sl 155 (.pair .str (.pair .bool (.sl 3 (.int .i64)))))))) (g_Vw_toLogNoteS_0 a0)],[])
 | _ => none
theorem vw_toLogNoteS (a0:tL0):collapseH .std Ew_toLogNoteS Ow_toLogNoteS_1 (execFn Ew_toLogNoteS Tryz.f93 msw_toLogNoteS [.val false [.sl .any 169 (.pair (.int .i64) (.pair (.int .i64) (.pair (.sl 9 .str) (.sl 196 (.pair .str (.pair .bool (.sl 3 (.int .i64)))))))) a0]]) = some ((g_Aw_toLogNoteS a0),.val false [.own .any true 92 (.pair (.int .i64) (.pair (.int .i64) (.pair (.sl 9 .str) (.sl 155 (.pair .str (.pair .bool (.sl 3 (.int .i64)))))))) (g_Vw_toLogNoteS_0 a0)],[]) := by kernel_rfl
theorem sw_toLogNoteS:Sound Tryz.prog 93 msw_toLogNoteS Fw_toLogNoteS := by
 refine fn_gen goodw_toLogNoteS (by kernel_rfl) .std (fn := Tryz.f93) (c := (Tryz.f93.body.getD .skip)) (o := Ow_toLogNoteS_1) (k := 1) (by kernel_rfl) (by kernel_rfl) (by kernel_rfl) (by kernel_rfl) (by decide) kw_toLogNoteS_1 ?_
 intro ys r outs h
 unfold Fw_toLogNoteS at h
 split at h
 ·exact (vw_toLogNoteS _).trans h
 ·cases h
def Ew_toLogDisk:Env where
 tt := mkTI Tryz.prog
 fn := fun f => match f with
  | 93 => some (msw_toLogNoteS,FSem.wk msw_toLogNoteS Fw_toLogNoteS)
  | _ => none
 bxf := fun _ => none
 mv := []
 keep := fun _ => []
 keepB := fun _ => []
 keepX := fun _ => []
 keepXB := fun _ => []
theorem goodFw_toLogDisk:∀ f ms F,Ew_toLogDisk.fn f = some (ms,F) → Sound Tryz.prog f ms F := fun f ms F h => by
 unfold Ew_toLogDisk at h
 dsimp only at h
 split at h
 ·exact gF sw_toLogNoteS h
 ·cases h
theorem goodw_toLogDisk:Good Tryz.prog Ew_toLogDisk := ⟨rfl,goodFw_toLogDisk,fun f ms F h => by cases h⟩
def Ow_toLogDisk_0:Orc := fun _ _ => none
def msw_toLogDisk:List PM := [.rd]
def lsw_toLogDisk:List (Nat×Code) := loopsAll 0 (Tryz.f34.body.getD .skip)
theorem kw_toLogDisk_0:OrcOk Ew_toLogDisk Ow_toLogDisk_0 lsw_toLogDisk 0 := orcOk_none
def g_Aw_toLogDisk (a0:tL0) (a1:Int):Bool := g_Aw_toLogNoteS a0
def Fw_toLogDisk:FSem := fun ys => match ys with
 | [.val true [.sl .any 169 (.pair (.int .i64) (.pair (.int .i64) (.pair (.sl 9 .str) (.sl 196 (.pair .str (.pair .bool (.sl 3 (.int .i64)))))))) a0,.int .i64 a1]] => some ((g_Aw_toLogDisk a0 a1),.val true [.own .any true 92 (.pair (.int .i64) (.pair (.int .i64) (.pair (.sl 9 .str) (.sl 155 (.pair .str (.pair .bool (.sl 3 (.int .i64)))))))) (g_Vw_toLogNoteS_0 a0),.int .i64 a1],[])
 | _ => none
theorem vw_toLogDisk (a0:tL0) (a1:Int):collapseH .std Ew_toLogDisk Ow_toLogDisk_0 (execFn Ew_toLogDisk Tryz.f34 msw_toLogDisk [.val true [.sl .any 169 (.pair (.int .i64) (.pair (.int .i64) (.pair (.sl 9 .str) (.sl 196 (.pair .str (.pair .bool (.sl 3 (.int .i64)))))))) a0,.int .i64 a1]]) = some ((g_Aw_toLogDisk a0 a1),.val true [.own .any true 92 (.pair (.int .i64) (.pair (.int .i64) (.pair (.sl 9 .str) (.sl 155 (.pair .str (.pair .bool (.sl 3 (.int .i64)))))))) (g_Vw_toLogNoteS_0 a0),.int .i64 a1],[]) := by kernel_rfl
theorem sw_toLogDisk:Sound Tryz.prog 34 msw_toLogDisk Fw_toLogDisk := by
 refine fn_gen goodw_toLogDisk (by kernel_rfl) .std (fn := Tryz.f34) (c := (Tryz.f34.body.getD .skip)) (o := Ow_toLogDisk_0) (k := 0) (by kernel_rfl) (by kernel_rfl) (by kernel_rfl) (by kernel_rfl) (by decide) kw_toLogDisk_0 ?_
 intro ys r outs h
 unfold Fw_toLogDisk at h
 split at h
 ·exact (vw_toLogDisk _ _).trans h
 ·cases h
def Ew_toFroState:Env where
 tt := mkTI Tryz.prog
 fn := fun f => match f with
  | 34 => some (msw_toLogDisk,FSem.wk msw_toLogDisk Fw_toLogDisk)
  | 35 => some (msw_toFroTxS,FSem.wk msw_toFroTxS Fw_toFroTxS)
  | _ => none
 bxf := fun _ => none
 mv := []
 keep := fun _ => []
 keepB := fun _ => []
 keepX := fun _ => []
 keepXB := fun _ => []
theorem goodFw_toFroState:∀ f ms F,Ew_toFroState.fn f = some (ms,F) → Sound Tryz.prog f ms F := fun f ms F h => by
 unfold Ew_toFroState at h
 dsimp only at h
 split at h
 ·exact gF sw_toLogDisk h
 ·exact gF sw_toFroTxS h
 ·cases h
theorem goodw_toFroState:Good Tryz.prog Ew_toFroState := ⟨rfl,goodFw_toFroState,fun f ms F h => by cases h⟩
def Ow_toFroState_0:Orc := fun _ _ => none
def msw_toFroState:List PM := [.rd]
def lsw_toFroState:List (Nat×Code) := loopsAll 0 (Tryz.f9.body.getD .skip)
theorem kw_toFroState_0:OrcOk Ew_toFroState Ow_toFroState_0 lsw_toFroState 0 := orcOk_none
def g_Aw_toFroState (a0:tL0) (a1:Int) (a2:tL1):Bool := g_Aw_toLogDisk a0 a1&&g_Aw_toFroTxS a2
def Fw_toFroState:FSem := fun ys => match ys with
 | [.val true [.sl .any 169 (.pair (.int .i64) (.pair (.int .i64) (.pair (.sl 9 .str) (.sl 196 (.pair .str (.pair .bool (.sl 3 (.int .i64)))))))) a0,.int .i64 a1,.sl .any 129 (.pair (.int .i64) (.pair (.pair (.int .i64) (.pair (.int .i64) (.pair (.int .i64) (.pair (.int .i64) (.pair (.int .i64) (.pair (.int .i64) (.int .i64))))))) (.pair .bool (.pair (.sl 3 (.int .i64)) (.sl 3 (.int .i64)))))) a2]] => some ((g_Aw_toFroState a0 a1 a2),.val true [.own .any true 92 (.pair (.int .i64) (.pair (.int .i64) (.pair (.sl 9 .str) (.sl 155 (.pair .str (.pair .bool (.sl 3 (.int .i64)))))))) (g_Vw_toLogNoteS_0 a0),.int .i64 a1,.own .any true 73 (.pair (.int .i64) (.pair (.pair (.int .i64) (.pair (.int .i64) (.pair (.int .i64) (.pair (.int .i64) (.pair (.int .i64) (.pair (.int .i64) (.int .i64))))))) (.pair .bool (.pair (.sl 3 (.int .i64)) (.sl 3 (.int .i64)))))) (g_Vw_toFroTxS_0 a2)],[])
 | _ => none
theorem vw_toFroState (a0:tL0) (a1:Int) (a2:tL1):collapseH .std Ew_toFroState Ow_toFroState_0 (execFn Ew_toFroState Tryz.f9 msw_toFroState [.val true [.sl .any 169 (.pair (.int .i64) (.pair (.int .i64) (.pair (.sl 9 .str) (.sl 196 (.pair .str (.pair .bool (.sl 3 (.int .i64)))))))) a0,.int .i64 a1,.sl .any 129 (.pair (.int .i64) (.pair (.pair (.int .i64) (.pair (.int .i64) (.pair (.int .i64) (.pair (.int .i64) (.pair (.int .i64) (.pair (.int .i64) (.int .i64))))))) (.pair .bool (.pair (.sl 3 (.int .i64)) (.sl 3 (.int .i64)))))) a2]]) = some ((g_Aw_toFroState a0 a1 a2),.val true [.own .any true 92 (.pair (.int .i64) (.pair (.int .i64) (.pair (.sl 9 .str) (.sl 155 (.pair .str (.pair .bool (.sl 3 (.int .i64)))))))) (g_Vw_toLogNoteS_0 a0),.int .i64 a1,.own .any true 73 (.pair (.int .i64) (.pair (.pair (.int .i64) (.pair (.int .i64) (.pair (.int .i64) (.pair (.int .i64) (.pair (.int .i64) (.pair (.int .i64) (.int .i64))))))) (.pair .bool (.pair (.sl 3 (.int .i64)) (.sl 3 (.int .i64)))))) (g_Vw_toFroTxS_0 a2)],[]) := by kernel_rfl
theorem sw_toFroState:Sound Tryz.prog 9 msw_toFroState Fw_toFroState := by
 refine fn_gen goodw_toFroState (by kernel_rfl) .std (fn := Tryz.f9) (c := (Tryz.f9.body.getD .skip)) (o := Ow_toFroState_0) (k := 0) (by kernel_rfl) (by kernel_rfl) (by kernel_rfl) (by kernel_rfl) (by decide) kw_toFroState_0 ?_
 intro ys r outs h
 unfold Fw_toFroState at h
 split at h
 ·exact (vw_toFroState _ _ _).trans h
 ·cases h
def Ew_FnExactFroBegin:Env where
 tt := mkTI Tryz.prog
 fn := fun f => match f with
  | 7 => some (msw_szFroState,FSem.wk msw_szFroState Fw_szFroState)
  | 9 => some (msw_toFroState,FSem.wk msw_toFroState Fw_toFroState)
  | 11 => some (msw_eqMsgMsgS,FSem.wk msw_eqMsgMsgS Fw_eqMsgMsgS)
  | 12 => some (msw_eqFroState,FSem.wk msw_eqFroState Fw_eqFroState)
  | 13 => some (msw_markFroState,FSem.wk msw_markFroState Fw_markFroState)
  | 14 => some (msw_markMsgMsgS,FSem.wk msw_markMsgMsgS Fw_markMsgMsgS)
  | 15 => some (msw_heldMsgMsgS,FSem.wk msw_heldMsgMsgS Fw_heldMsgMsgS)
  | 18 => some (msw_heldFroState,FSem.wk msw_heldFroState Fw_heldFroState)
  | 19 => some (mss_FroBegin,FSem.wk mss_FroBegin Fs_FroBegin)
  | 20 => some (msw_toOpOp,FSem.wk msw_toOpOp Fw_toOpOp)
  | 21 => some (msi_FroBegin,FSem.wk msi_FroBegin Fi_FroBegin)
  | _ => none
 bxf := fun _ => none
 mv := []
 keep := fun _ => []
 keepB := fun _ => []
 keepX := fun _ => []
 keepXB := fun _ => []
theorem goodFw_FnExactFroBegin:∀ f ms F,Ew_FnExactFroBegin.fn f = some (ms,F) → Sound Tryz.prog f ms F := fun f ms F h => by
 unfold Ew_FnExactFroBegin at h
 dsimp only at h
 split at h
 ·exact gF sw_szFroState h
 ·exact gF sw_toFroState h
 ·exact gF sw_eqMsgMsgS h
 ·exact gF sw_eqFroState h
 ·exact gF sw_markFroState h
 ·exact gF sw_markMsgMsgS h
 ·exact gF sw_heldMsgMsgS h
 ·exact gF sw_heldFroState h
 ·exact gF ss_FroBegin h
 ·exact gF sw_toOpOp h
 ·exact gF si_FroBegin h
 ·cases h
theorem goodw_FnExactFroBegin:Good Tryz.prog Ew_FnExactFroBegin := ⟨rfl,goodFw_FnExactFroBegin,fun f ms F h => by cases h⟩
def Ow_FnExactFroBegin_0:Orc := fun _ _ => none
def msw_FnExactFroBegin:List PM := [.rd,.own,.own]
def lsw_FnExactFroBegin:List (Nat×Code) := loopsAll 0 (Tryz.f5.body.getD .skip)
theorem kw_FnExactFroBegin_0:OrcOk Ew_FnExactFroBegin Ow_FnExactFroBegin_0 lsw_FnExactFroBegin 0 := orcOk_none
def g_Aw_FnExactFroBegin (a0:tL0) (a1:Int) (a2:tL1) (a3:Int) (a4:Int) (a5:Int) (a6:Int) (a7:Int) (a8:Int) (a9:Int) (a10:Int):Bool := g_Aw_szFroState a0 a1 a2 (1048576:Int)&&(decide (g_Vw_szFroState_0 a0 a1 a2 (1048576:Int) < (0:Int)) || g_Aw_toFroState a0 a1 a2&&(g_As_FroBegin (g_Vw_toLogNoteS_0 a0) a1 (g_Vw_toFroTxS_0 a2) a3 a4 a5 a6 a7 a8 a9 a10&&(g_Aw_toFroState a0 a1 a2&&(g_Ai_FroBegin (g_Vw_toLogNoteS_0 a0) a1 (g_Vw_toFroTxS_0 a2) a3 a4 a5 a6 a7 a8 a9 a10&&(g_Aw_eqFroState (g_Vi_FroBegin_0 (g_Vw_toLogNoteS_0 a0) a1 (g_Vw_toFroTxS_0 a2) a3 a4 a5 a6 a7 a8 a9 a10) (g_Vi_FroBegin_1 (g_Vw_toLogNoteS_0 a0) a1 (g_Vw_toFroTxS_0 a2) a3 a4 a5 a6 a7 a8 a9 a10) (g_Vi_FroBegin_2 (g_Vw_toLogNoteS_0 a0) a1 (g_Vw_toFroTxS_0 a2) a3 a4 a5 a6 a7 a8 a9 a10) (g_Vs_FroBegin_0 (g_Vw_toLogNoteS_0 a0) a1 (g_Vw_toFroTxS_0 a2) a3 a4 a5 a6 a7 a8 a9 a10) (g_Vs_FroBegin_1 (g_Vw_toLogNoteS_0 a0) a1 (g_Vw_toFroTxS_0 a2) a3 a4 a5 a6 a7 a8 a9 a10) (g_Vs_FroBegin_2 (g_Vw_toLogNoteS_0 a0) a1 (g_Vw_toFroTxS_0 a2) a3 a4 a5 a6 a7 a8 a9 a10)&&(!g_Vw_eqFroState_0 (g_Vi_FroBegin_0 (g_Vw_toLogNoteS_0 a0) a1 (g_Vw_toFroTxS_0 a2) a3 a4 a5 a6 a7 a8 a9 a10) (g_Vi_FroBegin_1 (g_Vw_toLogNoteS_0 a0) a1 (g_Vw_toFroTxS_0 a2) a3 a4 a5 a6 a7 a8 a9 a10) (g_Vi_FroBegin_2 (g_Vw_toLogNoteS_0 a0) a1 (g_Vw_toFroTxS_0 a2) a3 a4 a5 a6 a7 a8 a9 a10) (g_Vs_FroBegin_0 (g_Vw_toLogNoteS_0 a0) a1 (g_Vw_toFroTxS_0 a2) a3 a4 a5 a6 a7 a8 a9 a10) (g_Vs_FroBegin_1 (g_Vw_toLogNoteS_0 a0) a1 (g_Vw_toFroTxS_0 a2) a3 a4 a5 a6 a7 a8 a9 a10) (g_Vs_FroBegin_2 (g_Vw_toLogNoteS_0 a0) a1 (g_Vw_toFroTxS_0 a2) a3 a4 a5 a6 a7 a8 a9 a10) || g_Aw_eqMsgMsgS (g_Vi_FroBegin_3 (g_Vw_toLogNoteS_0 a0) a1 (g_Vw_toFroTxS_0 a2) a3 a4 a5 a6 a7 a8 a9 a10) (g_Vs_FroBegin_3 (g_Vw_toLogNoteS_0 a0) a1 (g_Vw_toFroTxS_0 a2) a3 a4 a5 a6 a7 a8 a9 a10)&&(!g_Vw_eqMsgMsgS_0 (g_Vi_FroBegin_3 (g_Vw_toLogNoteS_0 a0) a1 (g_Vw_toFroTxS_0 a2) a3 a4 a5 a6 a7 a8 a9 a10) (g_Vs_FroBegin_3 (g_Vw_toLogNoteS_0 a0) a1 (g_Vw_toFroTxS_0 a2) a3 a4 a5 a6 a7 a8 a9 a10) || (!g_Vi_FroBegin_4 (g_Vw_toLogNoteS_0 a0) a1 (g_Vw_toFroTxS_0 a2) a3 a4 a5 a6 a7 a8 a9 a10 == g_Vs_FroBegin_4 (g_Vw_toLogNoteS_0 a0) a1 (g_Vw_toFroTxS_0 a2) a3 a4 a5 a6 a7 a8 a9 a10 || g_Aw_toFroState a0 a1 a2&&(g_Aw_eqFroState (g_Vw_toLogNoteS_0 a0) a1 (g_Vw_toFroTxS_0 a2) (g_Vw_toLogNoteS_0 a0) a1 (g_Vw_toFroTxS_0 a2)&&(!g_Vw_eqFroState_0 (g_Vw_toLogNoteS_0 a0) a1 (g_Vw_toFroTxS_0 a2) (g_Vw_toLogNoteS_0 a0) a1 (g_Vw_toFroTxS_0 a2) || g_Aw_markFroState (g_Vw_toLogNoteS_0 a0) a1 (g_Vw_toFroTxS_0 a2) (1:Int)&&(decide (g_Vw_markFroTxS_0 (g_Vw_toFroTxS_0 a2) (g_Vw_markLogNoteS_0 (g_Vw_toLogNoteS_0 a0) (1:Int)) < 0) || g_Aw_eqFroState (g_Vi_FroBegin_0 (g_Vw_toLogNoteS_0 a0) a1 (g_Vw_toFroTxS_0 a2) a3 a4 a5 a6 a7 a8 a9 a10) (g_Vi_FroBegin_1 (g_Vw_toLogNoteS_0 a0) a1 (g_Vw_toFroTxS_0 a2) a3 a4 a5 a6 a7 a8 a9 a10) (g_Vi_FroBegin_2 (g_Vw_toLogNoteS_0 a0) a1 (g_Vw_toFroTxS_0 a2) a3 a4 a5 a6 a7 a8 a9 a10) (g_Vs_FroBegin_0 (g_Vw_toLogNoteS_0 a0) a1 (g_Vw_toFroTxS_0 a2) a3 a4 a5 a6 a7 a8 a9 a10) (g_Vs_FroBegin_1 (g_Vw_toLogNoteS_0 a0) a1 (g_Vw_toFroTxS_0 a2) a3 a4 a5 a6 a7 a8 a9 a10) (g_Vs_FroBegin_2 (g_Vw_toLogNoteS_0 a0) a1 (g_Vw_toFroTxS_0 a2) a3 a4 a5 a6 a7 a8 a9 a10)&&(!g_Vw_eqFroState_0 (g_Vi_FroBegin_0 (g_Vw_toLogNoteS_0 a0) a1 (g_Vw_toFroTxS_0 a2) a3 a4 a5 a6 a7 a8 a9 a10) (g_Vi_FroBegin_1 (g_Vw_toLogNoteS_0 a0) a1 (g_Vw_toFroTxS_0 a2) a3 a4 a5 a6 a7 a8 a9 a10) (g_Vi_FroBegin_2 (g_Vw_toLogNoteS_0 a0) a1 (g_Vw_toFroTxS_0 a2) a3 a4 a5 a6 a7 a8 a9 a10) (g_Vs_FroBegin_0 (g_Vw_toLogNoteS_0 a0) a1 (g_Vw_toFroTxS_0 a2) a3 a4 a5 a6 a7 a8 a9 a10) (g_Vs_FroBegin_1 (g_Vw_toLogNoteS_0 a0) a1 (g_Vw_toFroTxS_0 a2) a3 a4 a5 a6 a7 a8 a9 a10) (g_Vs_FroBegin_2 (g_Vw_toLogNoteS_0 a0) a1 (g_Vw_toFroTxS_0 a2) a3 a4 a5 a6 a7 a8 a9 a10) || g_Aw_eqMsgMsgS (g_Vi_FroBegin_3 (g_Vw_toLogNoteS_0 a0) a1 (g_Vw_toFroTxS_0 a2) a3 a4 a5 a6 a7 a8 a9 a10) (g_Vs_FroBegin_3 (g_Vw_toLogNoteS_0 a0) a1 (g_Vw_toFroTxS_0 a2) a3 a4 a5 a6 a7 a8 a9 a10)&&(!g_Vw_eqMsgMsgS_0 (g_Vi_FroBegin_3 (g_Vw_toLogNoteS_0 a0) a1 (g_Vw_toFroTxS_0 a2) a3 a4 a5 a6 a7 a8 a9 a10) (g_Vs_FroBegin_3 (g_Vw_toLogNoteS_0 a0) a1 (g_Vw_toFroTxS_0 a2) a3 a4 a5 a6 a7 a8 a9 a10) || (!g_Vi_FroBegin_4 (g_Vw_toLogNoteS_0 a0) a1 (g_Vw_toFroTxS_0 a2) a3 a4 a5 a6 a7 a8 a9 a10 == g_Vs_FroBegin_4 (g_Vw_toLogNoteS_0 a0) a1 (g_Vw_toFroTxS_0 a2) a3 a4 a5 a6 a7 a8 a9 a10 || g_Aw_markFroState (g_Vi_FroBegin_0 (g_Vw_toLogNoteS_0 a0) a1 (g_Vw_toFroTxS_0 a2) a3 a4 a5 a6 a7 a8 a9 a10) (g_Vi_FroBegin_1 (g_Vw_toLogNoteS_0 a0) a1 (g_Vw_toFroTxS_0 a2) a3 a4 a5 a6 a7 a8 a9 a10) (g_Vi_FroBegin_2 (g_Vw_toLogNoteS_0 a0) a1 (g_Vw_toFroTxS_0 a2) a3 a4 a5 a6 a7 a8 a9 a10) (1:Int)&&(g_Aw_markMsgMsgS (g_Vi_FroBegin_3 (g_Vw_toLogNoteS_0 a0) a1 (g_Vw_toFroTxS_0 a2) a3 a4 a5 a6 a7 a8 a9 a10) (g_Vw_markFroTxS_0 (g_Vi_FroBegin_2 (g_Vw_toLogNoteS_0 a0) a1 (g_Vw_toFroTxS_0 a2) a3 a4 a5 a6 a7 a8 a9 a10) (g_Vw_markLogNoteS_0 (g_Vi_FroBegin_0 (g_Vw_toLogNoteS_0 a0) a1 (g_Vw_toFroTxS_0 a2) a3 a4 a5 a6 a7 a8 a9 a10) (1:Int)))&&(g_Aw_heldFroState (g_Vw_markLogNoteS_1 (g_Vi_FroBegin_0 (g_Vw_toLogNoteS_0 a0) a1 (g_Vw_toFroTxS_0 a2) a3 a4 a5 a6 a7 a8 a9 a10) (1:Int)) (g_Vi_FroBegin_1 (g_Vw_toLogNoteS_0 a0) a1 (g_Vw_toFroTxS_0 a2) a3 a4 a5 a6 a7 a8 a9 a10) (g_Vw_markFroTxS_1 (g_Vi_FroBegin_2 (g_Vw_toLogNoteS_0 a0) a1 (g_Vw_toFroTxS_0 a2) a3 a4 a5 a6 a7 a8 a9 a10) (g_Vw_markLogNoteS_0 (g_Vi_FroBegin_0 (g_Vw_toLogNoteS_0 a0) a1 (g_Vw_toFroTxS_0 a2) a3 a4 a5 a6 a7 a8 a9 a10) (1:Int))) (1:Int)&&(decide (g_Vw_heldFroState_0 (g_Vw_markLogNoteS_1 (g_Vi_FroBegin_0 (g_Vw_toLogNoteS_0 a0) a1 (g_Vw_toFroTxS_0 a2) a3 a4 a5 a6 a7 a8 a9 a10) (1:Int)) (g_Vi_FroBegin_1 (g_Vw_toLogNoteS_0 a0) a1 (g_Vw_toFroTxS_0 a2) a3 a4 a5 a6 a7 a8 a9 a10) (g_Vw_markFroTxS_1 (g_Vi_FroBegin_2 (g_Vw_toLogNoteS_0 a0) a1 (g_Vw_toFroTxS_0 a2) a3 a4 a5 a6 a7 a8 a9 a10) (g_Vw_markLogNoteS_0 (g_Vi_FroBegin_0 (g_Vw_toLogNoteS_0 a0) a1 (g_Vw_toFroTxS_0 a2) a3 a4 a5 a6 a7 a8 a9 a10) (1:Int))) (1:Int) < (0:Int)) || g_Aw_heldMsgMsgS (g_Vw_markMsgMsgS_1 (g_Vi_FroBegin_3 (g_Vw_toLogNoteS_0 a0) a1 (g_Vw_toFroTxS_0 a2) a3 a4 a5 a6 a7 a8 a9 a10) (g_Vw_markFroTxS_0 (g_Vi_FroBegin_2 (g_Vw_toLogNoteS_0 a0) a1 (g_Vw_toFroTxS_0 a2) a3 a4 a5 a6 a7 a8 a9 a10) (g_Vw_markLogNoteS_0 (g_Vi_FroBegin_0 (g_Vw_toLogNoteS_0 a0) a1 (g_Vw_toFroTxS_0 a2) a3 a4 a5 a6 a7 a8 a9 a10) (1:Int)))) (g_Vw_heldFroState_0 (g_Vw_markLogNoteS_1 (g_Vi_FroBegin_0 (g_Vw_toLogNoteS_0 a0) a1 (g_Vw_toFroTxS_0 a2) a3 a4 a5 a6 a7 a8 a9 a10) (1:Int)) (g_Vi_FroBegin_1 (g_Vw_toLogNoteS_0 a0) a1 (g_Vw_toFroTxS_0 a2) a3 a4 a5 a6 a7 a8 a9 a10) (g_Vw_markFroTxS_1 (g_Vi_FroBegin_2 (g_Vw_toLogNoteS_0 a0) a1 (g_Vw_toFroTxS_0 a2) a3 a4 a5 a6 a7 a8 a9 a10) (g_Vw_markLogNoteS_0 (g_Vi_FroBegin_0 (g_Vw_toLogNoteS_0 a0) a1 (g_Vw_toFroTxS_0 a2) a3 a4 a5 a6 a7 a8 a9 a10) (1:Int))) (1:Int))&&(decide (g_Vw_heldMsgMsgS_0 (g_Vw_markMsgMsgS_1 (g_Vi_FroBegin_3 (g_Vw_toLogNoteS_0 a0) a1 (g_Vw_toFroTxS_0 a2) a3 a4 a5 a6 a7 a8 a9 a10) (g_Vw_markFroTxS_0 (g_Vi_FroBegin_2 (g_Vw_toLogNoteS_0 a0) a1 (g_Vw_toFroTxS_0 a2) a3 a4 a5 a6 a7 a8 a9 a10) (g_Vw_markLogNoteS_0 (g_Vi_FroBegin_0 (g_Vw_toLogNoteS_0 a0) a1 (g_Vw_toFroTxS_0 a2) a3 a4 a5 a6 a7 a8 a9 a10) (1:Int)))) (g_Vw_heldFroState_0 (g_Vw_markLogNoteS_1 (g_Vi_FroBegin_0 (g_Vw_toLogNoteS_0 a0) a1 (g_Vw_toFroTxS_0 a2) a3 a4 a5 a6 a7 a8 a9 a10) (1:Int)) (g_Vi_FroBegin_1 (g_Vw_toLogNoteS_0 a0) a1 (g_Vw_toFroTxS_0 a2) a3 a4 a5 a6 a7 a8 a9 a10) (g_Vw_markFroTxS_1 (g_Vi_FroBegin_2 (g_Vw_toLogNoteS_0 a0) a1 (g_Vw_toFroTxS_0 a2) a3 a4 a5 a6 a7 a8 a9 a10) (g_Vw_markLogNoteS_0 (g_Vi_FroBegin_0 (g_Vw_toLogNoteS_0 a0) a1 (g_Vw_toFroTxS_0 a2) a3 a4 a5 a6 a7 a8 a9 a10) (1:Int))) (1:Int)) < 0) || (g_Vw_heldMsgMsgS_0 (g_Vw_markMsgMsgS_1 (g_Vi_FroBegin_3 (g_Vw_toLogNoteS_0 a0) a1 (g_Vw_toFroTxS_0 a2) a3 a4 a5 a6 a7 a8 a9 a10) (g_Vw_markFroTxS_0 (g_Vi_FroBegin_2 (g_Vw_toLogNoteS_0 a0) a1 (g_Vw_toFroTxS_0 a2) a3 a4 a5 a6 a7 a8 a9 a10) (g_Vw_markLogNoteS_0 (g_Vi_FroBegin_0 (g_Vw_toLogNoteS_0 a0) a1 (g_Vw_toFroTxS_0 a2) a3 a4 a5 a6 a7 a8 a9 a10) (1:Int)))) (g_Vw_heldFroState_0 (g_Vw_markLogNoteS_1 (g_Vi_FroBegin_0 (g_Vw_toLogNoteS_0 a0) a1 (g_Vw_toFroTxS_0 a2) a3 a4 a5 a6 a7 a8 a9 a10) (1:Int)) (g_Vi_FroBegin_1 (g_Vw_toLogNoteS_0 a0) a1 (g_Vw_toFroTxS_0 a2) a3 a4 a5 a6 a7 a8 a9 a10) (g_Vw_markFroTxS_1 (g_Vi_FroBegin_2 (g_Vw_toLogNoteS_0 a0) a1 (g_Vw_toFroTxS_0 a2) a3 a4 a5 a6 a7 a8 a9 a10) (g_Vw_markLogNoteS_0 (g_Vi_FroBegin_0 (g_Vw_toLogNoteS_0 a0) a1 (g_Vw_toFroTxS_0 a2) a3 a4 a5 a6 a7 a8 a9 a10) (1:Int))) (1:Int)) != g_Vw_markMsgMsgS_0 (g_Vi_FroBegin_3 (g_Vw_toLogNoteS_0 a0) a1 (g_Vw_toFroTxS_0 a2) a3 a4 a5 a6 a7 a8 a9 a10) (g_Vw_markFroTxS_0 (g_Vi_FroBegin_2 (g_Vw_toLogNoteS_0 a0) a1 (g_Vw_toFroTxS_0 a2) a3 a4 a5 a6 a7 a8 a9 a10) (g_Vw_markLogNoteS_0 (g_Vi_FroBegin_0 (g_Vw_toLogNoteS_0 a0) a1 (g_Vw_toFroTxS_0 a2) a3 a4 a5 a6 a7 a8 a9 a10) (1:Int))) || g_Aw_toFroState a0 a1 a2&&(g_Ai_FroBegin (g_Vw_toLogNoteS_0 a0) a1 (g_Vw_toFroTxS_0 a2) a3 a4 a5 a6 a7 a8 a9 a10&&(g_Aw_eqFroState (g_Vi_FroBegin_0 (g_Vw_toLogNoteS_0 a0) a1 (g_Vw_toFroTxS_0 a2) a3 a4 a5 a6 a7 a8 a9 a10) (g_Vi_FroBegin_1 (g_Vw_toLogNoteS_0 a0) a1 (g_Vw_toFroTxS_0 a2) a3 a4 a5 a6 a7 a8 a9 a10) (g_Vi_FroBegin_2 (g_Vw_toLogNoteS_0 a0) a1 (g_Vw_toFroTxS_0 a2) a3 a4 a5 a6 a7 a8 a9 a10) (g_Vs_FroBegin_0 (g_Vw_toLogNoteS_0 a0) a1 (g_Vw_toFroTxS_0 a2) a3 a4 a5 a6 a7 a8 a9 a10) (g_Vs_FroBegin_1 (g_Vw_toLogNoteS_0 a0) a1 (g_Vw_toFroTxS_0 a2) a3 a4 a5 a6 a7 a8 a9 a10) (g_Vs_FroBegin_2 (g_Vw_toLogNoteS_0 a0) a1 (g_Vw_toFroTxS_0 a2) a3 a4 a5 a6 a7 a8 a9 a10)&&(!g_Vw_eqFroState_0 (g_Vi_FroBegin_0 (g_Vw_toLogNoteS_0 a0) a1 (g_Vw_toFroTxS_0 a2) a3 a4 a5 a6 a7 a8 a9 a10) (g_Vi_FroBegin_1 (g_Vw_toLogNoteS_0 a0) a1 (g_Vw_toFroTxS_0 a2) a3 a4 a5 a6 a7 a8 a9 a10) (g_Vi_FroBegin_2 (g_Vw_toLogNoteS_0 a0) a1 (g_Vw_toFroTxS_0 a2) a3 a4 a5 a6 a7 a8 a9 a10) (g_Vs_FroBegin_0 (g_Vw_toLogNoteS_0 a0) a1 (g_Vw_toFroTxS_0 a2) a3 a4 a5 a6 a7 a8 a9 a10) (g_Vs_FroBegin_1 (g_Vw_toLogNoteS_0 a0) a1 (g_Vw_toFroTxS_0 a2) a3 a4 a5 a6 a7 a8 a9 a10) (g_Vs_FroBegin_2 (g_Vw_toLogNoteS_0 a0) a1 (g_Vw_toFroTxS_0 a2) a3 a4 a5 a6 a7 a8 a9 a10) || g_Aw_eqMsgMsgS (g_Vi_FroBegin_3 (g_Vw_toLogNoteS_0 a0) a1 (g_Vw_toFroTxS_0 a2) a3 a4 a5 a6 a7 a8 a9 a10) (g_Vs_FroBegin_3 (g_Vw_toLogNoteS_0 a0) a1 (g_Vw_toFroTxS_0 a2) a3 a4 a5 a6 a7 a8 a9 a10)&&(!g_Vw_eqMsgMsgS_0 (g_Vi_FroBegin_3 (g_Vw_toLogNoteS_0 a0) a1 (g_Vw_toFroTxS_0 a2) a3 a4 a5 a6 a7 a8 a9 a10) (g_Vs_FroBegin_3 (g_Vw_toLogNoteS_0 a0) a1 (g_Vw_toFroTxS_0 a2) a3 a4 a5 a6 a7 a8 a9 a10) || (!g_Vi_FroBegin_4 (g_Vw_toLogNoteS_0 a0) a1 (g_Vw_toFroTxS_0 a2) a3 a4 a5 a6 a7 a8 a9 a10 == g_Vs_FroBegin_4 (g_Vw_toLogNoteS_0 a0) a1 (g_Vw_toFroTxS_0 a2) a3 a4 a5 a6 a7 a8 a9 a10 || g_Aw_heldFroState (g_Vw_markLogNoteS_1 (g_Vi_FroBegin_0 (g_Vw_toLogNoteS_0 a0) a1 (g_Vw_toFroTxS_0 a2) a3 a4 a5 a6 a7 a8 a9 a10) (1:Int)) (g_Vi_FroBegin_1 (g_Vw_toLogNoteS_0 a0) a1 (g_Vw_toFroTxS_0 a2) a3 a4 a5 a6 a7 a8 a9 a10) (g_Vw_markFroTxS_1 (g_Vi_FroBegin_2 (g_Vw_toLogNoteS_0 a0) a1 (g_Vw_toFroTxS_0 a2) a3 a4 a5 a6 a7 a8 a9 a10) (g_Vw_markLogNoteS_0 (g_Vi_FroBegin_0 (g_Vw_toLogNoteS_0 a0) a1 (g_Vw_toFroTxS_0 a2) a3 a4 a5 a6 a7 a8 a9 a10) (1:Int))) (1:Int)&&(decide (g_Vw_heldFroState_0 (g_Vw_markLogNoteS_1 (g_Vi_FroBegin_0 (g_Vw_toLogNoteS_0 a0) a1 (g_Vw_toFroTxS_0 a2) a3 a4 a5 a6 a7 a8 a9 a10) (1:Int)) (g_Vi_FroBegin_1 (g_Vw_toLogNoteS_0 a0) a1 (g_Vw_toFroTxS_0 a2) a3 a4 a5 a6 a7 a8 a9 a10) (g_Vw_markFroTxS_1 (g_Vi_FroBegin_2 (g_Vw_toLogNoteS_0 a0) a1 (g_Vw_toFroTxS_0 a2) a3 a4 a5 a6 a7 a8 a9 a10) (g_Vw_markLogNoteS_0 (g_Vi_FroBegin_0 (g_Vw_toLogNoteS_0 a0) a1 (g_Vw_toFroTxS_0 a2) a3 a4 a5 a6 a7 a8 a9 a10) (1:Int))) (1:Int) < (0:Int)) || g_Aw_heldMsgMsgS (g_Vw_markMsgMsgS_1 (g_Vi_FroBegin_3 (g_Vw_toLogNoteS_0 a0) a1 (g_Vw_toFroTxS_0 a2) a3 a4 a5 a6 a7 a8 a9 a10) (g_Vw_markFroTxS_0 (g_Vi_FroBegin_2 (g_Vw_toLogNoteS_0 a0) a1 (g_Vw_toFroTxS_0 a2) a3 a4 a5 a6 a7 a8 a9 a10) (g_Vw_markLogNoteS_0 (g_Vi_FroBegin_0 (g_Vw_toLogNoteS_0 a0) a1 (g_Vw_toFroTxS_0 a2) a3 a4 a5 a6 a7 a8 a9 a10) (1:Int)))) (g_Vw_heldFroState_0 (g_Vw_markLogNoteS_1 (g_Vi_FroBegin_0 (g_Vw_toLogNoteS_0 a0) a1 (g_Vw_toFroTxS_0 a2) a3 a4 a5 a6 a7 a8 a9 a10) (1:Int)) (g_Vi_FroBegin_1 (g_Vw_toLogNoteS_0 a0) a1 (g_Vw_toFroTxS_0 a2) a3 a4 a5 a6 a7 a8 a9 a10) (g_Vw_markFroTxS_1 (g_Vi_FroBegin_2 (g_Vw_toLogNoteS_0 a0) a1 (g_Vw_toFroTxS_0 a2) a3 a4 a5 a6 a7 a8 a9 a10) (g_Vw_markLogNoteS_0 (g_Vi_FroBegin_0 (g_Vw_toLogNoteS_0 a0) a1 (g_Vw_toFroTxS_0 a2) a3 a4 a5 a6 a7 a8 a9 a10) (1:Int))) (1:Int))&&(decide (g_Vw_heldMsgMsgS_0 (g_Vw_markMsgMsgS_1 (g_Vi_FroBegin_3 (g_Vw_toLogNoteS_0 a0) a1 (g_Vw_toFroTxS_0 a2) a3 a4 a5 a6 a7 a8 a9 a10) (g_Vw_markFroTxS_0 (g_Vi_FroBegin_2 (g_Vw_toLogNoteS_0 a0) a1 (g_Vw_toFroTxS_0 a2) a3 a4 a5 a6 a7 a8 a9 a10) (g_Vw_markLogNoteS_0 (g_Vi_FroBegin_0 (g_Vw_toLogNoteS_0 a0) a1 (g_Vw_toFroTxS_0 a2) a3 a4 a5 a6 a7 a8 a9 a10) (1:Int)))) (g_Vw_heldFroState_0 (g_Vw_markLogNoteS_1 (g_Vi_FroBegin_0 (g_Vw_toLogNoteS_0 a0) a1 (g_Vw_toFroTxS_0 a2) a3 a4 a5 a6 a7 a8 a9 a10) (1:Int)) (g_Vi_FroBegin_1 (g_Vw_toLogNoteS_0 a0) a1 (g_Vw_toFroTxS_0 a2) a3 a4 a5 a6 a7 a8 a9 a10) (g_Vw_markFroTxS_1 (g_Vi_FroBegin_2 (g_Vw_toLogNoteS_0 a0) a1 (g_Vw_toFroTxS_0 a2) a3 a4 a5 a6 a7 a8 a9 a10) (g_Vw_markLogNoteS_0 (g_Vi_FroBegin_0 (g_Vw_toLogNoteS_0 a0) a1 (g_Vw_toFroTxS_0 a2) a3 a4 a5 a6 a7 a8 a9 a10) (1:Int))) (1:Int)) < 0) || true))))))))))))))))))))))))))
def g_Vw_FnExactFroBegin_0 (a0:tL0) (a1:Int) (a2:tL1) (a3:Int) (a4:Int) (a5:Int) (a6:Int) (a7:Int) (a8:Int) (a9:Int) (a10:Int):Bool := bif decide (g_Vw_szFroState_0 a0 a1 a2 (1048576:Int) < (0:Int)) then true else bif !g_Vw_eqFroState_0 (g_Vi_FroBegin_0 (g_Vw_toLogNoteS_0 a0) a1 (g_Vw_toFroTxS_0 a2) a3 a4 a5 a6 a7 a8 a9 a10) (g_Vi_FroBegin_1 (g_Vw_toLogNoteS_0 a0) a1 (g_Vw_toFroTxS_0 a2) a3 a4 a5 a6 a7 a8 a9 a10) (g_Vi_FroBegin_2 (g_Vw_toLogNoteS_0 a0) a1 (g_Vw_toFroTxS_0 a2) a3 a4 a5 a6 a7 a8 a9 a10) (g_Vs_FroBegin_0 (g_Vw_toLogNoteS_0 a0) a1 (g_Vw_toFroTxS_0 a2) a3 a4 a5 a6 a7 a8 a9 a10) (g_Vs_FroBegin_1 (g_Vw_toLogNoteS_0 a0) a1 (g_Vw_toFroTxS_0 a2) a3 a4 a5 a6 a7 a8 a9 a10) (g_Vs_FroBegin_2 (g_Vw_toLogNoteS_0 a0) a1 (g_Vw_toFroTxS_0 a2) a3 a4 a5 a6 a7 a8 a9 a10) then false else bif !g_Vw_eqMsgMsgS_0 (g_Vi_FroBegin_3 (g_Vw_toLogNoteS_0 a0) a1 (g_Vw_toFroTxS_0 a2) a3 a4 a5 a6 a7 a8 a9 a10) (g_Vs_FroBegin_3 (g_Vw_toLogNoteS_0 a0) a1 (g_Vw_toFroTxS_0 a2) a3 a4 a5 a6 a7 a8 a9 a10) then false else bif !g_Vi_FroBegin_4 (g_Vw_toLogNoteS_0 a0) a1 (g_Vw_toFroTxS_0 a2) a3 a4 a5 a6 a7 a8 a9 a10 == g_Vs_FroBegin_4 (g_Vw_toLogNoteS_0 a0) a1 (g_Vw_toFroTxS_0 a2) a3 a4 a5 a6 a7 a8 a9 a10 then false else bif !g_Vw_eqFroState_0 (g_Vw_toLogNoteS_0 a0) a1 (g_Vw_toFroTxS_0 a2) (g_Vw_toLogNoteS_0 a0) a1 (g_Vw_toFroTxS_0 a2) then false else bif decide (g_Vw_markFroTxS_0 (g_Vw_toFroTxS_0 a2) (g_Vw_markLogNoteS_0 (g_Vw_toLogNoteS_0 a0) (1:Int)) < 0) then false else bif !g_Vw_eqFroState_0 (g_Vi_FroBegin_0 (g_Vw_toLogNoteS_0 a0) a1 (g_Vw_toFroTxS_0 a2) a3 a4 a5 a6 a7 a8 a9 a10) (g_Vi_FroBegin_1 (g_Vw_toLogNoteS_0 a0) a1 (g_Vw_toFroTxS_0 a2) a3 a4 a5 a6 a7 a8 a9 a10) (g_Vi_FroBegin_2 (g_Vw_toLogNoteS_0 a0) a1 (g_Vw_toFroTxS_0 a2) a3 a4 a5 a6 a7 a8 a9 a10) (g_Vs_FroBegin_0 (g_Vw_toLogNoteS_0 a0) a1 (g_Vw_toFroTxS_0 a2) a3 a4 a5 a6 a7 a8 a9 a10) (g_Vs_FroBegin_1 (g_Vw_toLogNoteS_0 a0) a1 (g_Vw_toFroTxS_0 a2) a3 a4 a5 a6 a7 a8 a9 a10) (g_Vs_FroBegin_2 (g_Vw_toLogNoteS_0 a0) a1 (g_Vw_toFroTxS_0 a2) a3 a4 a5 a6 a7 a8 a9 a10) then false else bif !g_Vw_eqMsgMsgS_0 (g_Vi_FroBegin_3 (g_Vw_toLogNoteS_0 a0) a1 (g_Vw_toFroTxS_0 a2) a3 a4 a5 a6 a7 a8 a9 a10) (g_Vs_FroBegin_3 (g_Vw_toLogNoteS_0 a0) a1 (g_Vw_toFroTxS_0 a2) a3 a4 a5 a6 a7 a8 a9 a10) then false else bif !g_Vi_FroBegin_4 (g_Vw_toLogNoteS_0 a0) a1 (g_Vw_toFroTxS_0 a2) a3 a4 a5 a6 a7 a8 a9 a10 == g_Vs_FroBegin_4 (g_Vw_toLogNoteS_0 a0) a1 (g_Vw_toFroTxS_0 a2) a3 a4 a5 a6 a7 a8 a9 a10 then false else bif decide (g_Vw_heldFroState_0 (g_Vw_markLogNoteS_1 (g_Vi_FroBegin_0 (g_Vw_toLogNoteS_0 a0) a1 (g_Vw_toFroTxS_0 a2) a3 a4 a5 a6 a7 a8 a9 a10) (1:Int)) (g_Vi_FroBegin_1 (g_Vw_toLogNoteS_0 a0) a1 (g_Vw_toFroTxS_0 a2) a3 a4 a5 a6 a7 a8 a9 a10) (g_Vw_markFroTxS_1 (g_Vi_FroBegin_2 (g_Vw_toLogNoteS_0 a0) a1 (g_Vw_toFroTxS_0 a2) a3 a4 a5 a6 a7 a8 a9 a10) (g_Vw_markLogNoteS_0 (g_Vi_FroBegin_0 (g_Vw_toLogNoteS_0 a0) a1 (g_Vw_toFroTxS_0 a2) a3 a4 a5 a6 a7 a8 a9 a10) (1:Int))) (1:Int) < (0:Int)) then false else bif decide (g_Vw_heldMsgMsgS_0 (g_Vw_markMsgMsgS_1 (g_Vi_FroBegin_3 (g_Vw_toLogNoteS_0 a0) a1 (g_Vw_toFroTxS_0 a2) a3 a4 a5 a6 a7 a8 a9 a10) (g_Vw_markFroTxS_0 (g_Vi_FroBegin_2 (g_Vw_toLogNoteS_0 a0) a1 (g_Vw_toFroTxS_0 a2) a3 a4 a5 a6 a7 a8 a9 a10) (g_Vw_markLogNoteS_0 (g_Vi_FroBegin_0 (g_Vw_toLogNoteS_0 a0) a1 (g_Vw_toFroTxS_0 a2) a3 a4 a5 a6 a7 a8 a9 a10) (1:Int)))) (g_Vw_heldFroState_0 (g_Vw_markLogNoteS_1 (g_Vi_FroBegin_0 (g_Vw_toLogNoteS_0 a0) a1 (g_Vw_toFroTxS_0 a2) a3 a4 a5 a6 a7 a8 a9 a10) (1:Int)) (g_Vi_FroBegin_1 (g_Vw_toLogNoteS_0 a0) a1 (g_Vw_toFroTxS_0 a2) a3 a4 a5 a6 a7 a8 a9 a10) (g_Vw_markFroTxS_1 (g_Vi_FroBegin_2 (g_Vw_toLogNoteS_0 a0) a1 (g_Vw_toFroTxS_0 a2) a3 a4 a5 a6 a7 a8 a9 a10) (g_Vw_markLogNoteS_0 (g_Vi_FroBegin_0 (g_Vw_toLogNoteS_0 a0) a1 (g_Vw_toFroTxS_0 a2) a3 a4 a5 a6 a7 a8 a9 a10) (1:Int))) (1:Int)) < 0) then false else bif g_Vw_heldMsgMsgS_0 (g_Vw_markMsgMsgS_1 (g_Vi_FroBegin_3 (g_Vw_toLogNoteS_0 a0) a1 (g_Vw_toFroTxS_0 a2) a3 a4 a5 a6 a7 a8 a9 a10) (g_Vw_markFroTxS_0 (g_Vi_FroBegin_2 (g_Vw_toLogNoteS_0 a0) a1 (g_Vw_toFroTxS_0 a2) a3 a4 a5 a6 a7 a8 a9 a10) (g_Vw_markLogNoteS_0 (g_Vi_FroBegin_0 (g_Vw_toLogNoteS_0 a0) a1 (g_Vw_toFroTxS_0 a2) a3 a4 a5 a6 a7 a8 a9 a10) (1:Int)))) (g_Vw_heldFroState_0 (g_Vw_markLogNoteS_1 (g_Vi_FroBegin_0 (g_Vw_toLogNoteS_0 a0) a1 (g_Vw_toFroTxS_0 a2) a3 a4 a5 a6 a7 a8 a9 a10) (1:Int)) (g_Vi_FroBegin_1 (g_Vw_toLogNoteS_0 a0) a1 (g_Vw_toFroTxS_0 a2) a3 a4 a5 a6 a7 a8 a9 a10) (g_Vw_markFroTxS_1 (g_Vi_FroBegin_2 (g_Vw_toLogNoteS_0 a0) a1 (g_Vw_toFroTxS_0 a2) a3 a4 a5 a6 a7 a8 a9 a10) (g_Vw_markLogNoteS_0 (g_Vi_FroBegin_0 (g_Vw_toLogNoteS_0 a0) a1 (g_Vw_toFroTxS_0 a2) a3 a4 a5 a6 a7 a8 a9 a10) (1:Int))) (1:Int)) != g_Vw_markMsgMsgS_0 (g_Vi_FroBegin_3 (g_Vw_toLogNoteS_0 a0) a1 (g_Vw_toFroTxS_0 a2) a3 a4 a5 a6 a7 a8 a9 a10) (g_Vw_markFroTxS_0 (g_Vi_FroBegin_2 (g_Vw_toLogNoteS_0 a0) a1 (g_Vw_toFroTxS_0 a2) a3 a4 a5 a6 a7 a8 a9 a10) (g_Vw_markLogNoteS_0 (g_Vi_FroBegin_0 (g_Vw_toLogNoteS_0 a0) a1 (g_Vw_toFroTxS_0 a2) a3 a4 a5 a6 a7 a8 a9 a10) (1:Int))) then false else bif !g_Vw_eqFroState_0 (g_Vi_FroBegin_0 (g_Vw_toLogNoteS_0 a0) a1 (g_Vw_toFroTxS_0 a2) a3 a4 a5 a6 a7 a8 a9 a10) (g_Vi_FroBegin_1 (g_Vw_toLogNoteS_0 a0) a1 (g_Vw_toFroTxS_0 a2) a3 a4 a5 a6 a7 a8 a9 a10) (g_Vi_FroBegin_2 (g_Vw_toLogNoteS_0 a0) a1 (g_Vw_toFroTxS_0 a2) a3 a4 a5 a6 a7 a8 a9 a10) (g_Vs_FroBegin_0 (g_Vw_toLogNoteS_0 a0) a1 (g_Vw_toFroTxS_0 a2) a3 a4 a5 a6 a7 a8 a9 a10) (g_Vs_FroBegin_1 (g_Vw_toLogNoteS_0 a0) a1 (g_Vw_toFroTxS_0 a2) a3 a4 a5 a6 a7 a8 a9 a10) (g_Vs_FroBegin_2 (g_Vw_toLogNoteS_0 a0) a1 (g_Vw_toFroTxS_0 a2) a3 a4 a5 a6 a7 a8 a9 a10) then false else bif !g_Vw_eqMsgMsgS_0 (g_Vi_FroBegin_3 (g_Vw_toLogNoteS_0 a0) a1 (g_Vw_toFroTxS_0 a2) a3 a4 a5 a6 a7 a8 a9 a10) (g_Vs_FroBegin_3 (g_Vw_toLogNoteS_0 a0) a1 (g_Vw_toFroTxS_0 a2) a3 a4 a5 a6 a7 a8 a9 a10) then false else bif !g_Vi_FroBegin_4 (g_Vw_toLogNoteS_0 a0) a1 (g_Vw_toFroTxS_0 a2) a3 a4 a5 a6 a7 a8 a9 a10 == g_Vs_FroBegin_4 (g_Vw_toLogNoteS_0 a0) a1 (g_Vw_toFroTxS_0 a2) a3 a4 a5 a6 a7 a8 a9 a10 then false else bif decide (g_Vw_heldFroState_0 (g_Vw_markLogNoteS_1 (g_Vi_FroBegin_0 (g_Vw_toLogNoteS_0 a0) a1 (g_Vw_toFroTxS_0 a2) a3 a4 a5 a6 a7 a8 a9 a10) (1:Int)) (g_Vi_FroBegin_1 (g_Vw_toLogNoteS_0 a0) a1 (g_Vw_toFroTxS_0 a2) a3 a4 a5 a6 a7 a8 a9 a10) (g_Vw_markFroTxS_1 (g_Vi_FroBegin_2 (g_Vw_toLogNoteS_0 a0) a1 (g_Vw_toFroTxS_0 a2) a3 a4 a5 a6 a7 a8 a9 a10) (g_Vw_markLogNoteS_0 (g_Vi_FroBegin_0 (g_Vw_toLogNoteS_0 a0) a1 (g_Vw_toFroTxS_0 a2) a3 a4 a5 a6 a7 a8 a9 a10) (1:Int))) (1:Int) < (0:Int)) then false else bif decide (g_Vw_heldMsgMsgS_0 (g_Vw_markMsgMsgS_1 (g_Vi_FroBegin_3 (g_Vw_toLogNoteS_0 a0) a1 (g_Vw_toFroTxS_0 a2) a3 a4 a5 a6 a7 a8 a9 a10) (g_Vw_markFroTxS_0 (g_Vi_FroBegin_2 (g_Vw_toLogNoteS_0 a0) a1 (g_Vw_toFroTxS_0 a2) a3 a4 a5 a6 a7 a8 a9 a10) (g_Vw_markLogNoteS_0 (g_Vi_FroBegin_0 (g_Vw_toLogNoteS_0 a0) a1 (g_Vw_toFroTxS_0 a2) a3 a4 a5 a6 a7 a8 a9 a10) (1:Int)))) (g_Vw_heldFroState_0 (g_Vw_markLogNoteS_1 (g_Vi_FroBegin_0 (g_Vw_toLogNoteS_0 a0) a1 (g_Vw_toFroTxS_0 a2) a3 a4 a5 a6 a7 a8 a9 a10) (1:Int)) (g_Vi_FroBegin_1 (g_Vw_toLogNoteS_0 a0) a1 (g_Vw_toFroTxS_0 a2) a3 a4 a5 a6 a7 a8 a9 a10) (g_Vw_markFroTxS_1 (g_Vi_FroBegin_2 (g_Vw_toLogNoteS_0 a0) a1 (g_Vw_toFroTxS_0 a2) a3 a4 a5 a6 a7 a8 a9 a10) (g_Vw_markLogNoteS_0 (g_Vi_FroBegin_0 (g_Vw_toLogNoteS_0 a0) a1 (g_Vw_toFroTxS_0 a2) a3 a4 a5 a6 a7 a8 a9 a10) (1:Int))) (1:Int)) < 0) then false else bif g_Vw_heldMsgMsgS_0 (g_Vw_markMsgMsgS_1 (g_Vi_FroBegin_3 (g_Vw_toLogNoteS_0 a0) a1 (g_Vw_toFroTxS_0 a2) a3 a4 a5 a6 a7 a8 a9 a10) (g_Vw_markFroTxS_0 (g_Vi_FroBegin_2 (g_Vw_toLogNoteS_0 a0) a1 (g_Vw_toFroTxS_0 a2) a3 a4 a5 a6 a7 a8 a9 a10) (g_Vw_markLogNoteS_0 (g_Vi_FroBegin_0 (g_Vw_toLogNoteS_0 a0) a1 (g_Vw_toFroTxS_0 a2) a3 a4 a5 a6 a7 a8 a9 a10) (1:Int)))) (g_Vw_heldFroState_0 (g_Vw_markLogNoteS_1 (g_Vi_FroBegin_0 (g_Vw_toLogNoteS_0 a0) a1 (g_Vw_toFroTxS_0 a2) a3 a4 a5 a6 a7 a8 a9 a10) (1:Int)) (g_Vi_FroBegin_1 (g_Vw_toLogNoteS_0 a0) a1 (g_Vw_toFroTxS_0 a2) a3 a4 a5 a6 a7 a8 a9 a10) (g_Vw_markFroTxS_1 (g_Vi_FroBegin_2 (g_Vw_toLogNoteS_0 a0) a1 (g_Vw_toFroTxS_0 a2) a3 a4 a5 a6 a7 a8 a9 a10) (g_Vw_markLogNoteS_0 (g_Vi_FroBegin_0 (g_Vw_toLogNoteS_0 a0) a1 (g_Vw_toFroTxS_0 a2) a3 a4 a5 a6 a7 a8 a9 a10) (1:Int))) (1:Int)) != g_Vw_markMsgMsgS_0 (g_Vi_FroBegin_3 (g_Vw_toLogNoteS_0 a0) a1 (g_Vw_toFroTxS_0 a2) a3 a4 a5 a6 a7 a8 a9 a10) (g_Vw_markFroTxS_0 (g_Vi_FroBegin_2 (g_Vw_toLogNoteS_0 a0) a1 (g_Vw_toFroTxS_0 a2) a3 a4 a5 a6 a7 a8 a9 a10) (g_Vw_markLogNoteS_0 (g_Vi_FroBegin_0 (g_Vw_toLogNoteS_0 a0) a1 (g_Vw_toFroTxS_0 a2) a3 a4 a5 a6 a7 a8 a9 a10) (1:Int))) then false else true
def Fw_FnExactFroBegin:FSem := fun ys => match ys with
 | [.val true [.sl .any 169 (.pair (.int .i64) (.pair (.int .i64) (.pair (.sl 9 .str) (.sl 196 (.pair .str (.pair .bool (.sl 3 (.int .i64)))))))) a0,.int .i64 a1,.sl .any 129 (.pair (.int .i64) (.pair (.pair (.int .i64) (.pair (.int .i64) (.pair (.int .i64) (.pair (.int .i64) (.pair (.int .i64) (.pair (.int .i64) (.int .i64))))))) (.pair .bool (.pair (.sl 3 (.int .i64)) (.sl 3 (.int .i64)))))) a2],.val false [.int .i64 a3],.val true [.int .i64 a4,.int .i64 a5,.int .i64 a6,.int .i64 a7,.int .i64 a8,.int .i64 a9,.int .i64 a10]] => some ((g_Aw_FnExactFroBegin a0 a1 a2 a3 a4 a5 a6 a7 a8 a9 a10),.val false [.bool (g_Vw_FnExactFroBegin_0 a0 a1 a2 a3 a4 a5 a6 a7 a8 a9 a10)],[])
 | _ => none
theorem vw_FnExactFroBegin (a0:tL0) (a1:Int) (a2:tL1) (a3:Int) (a4:Int) (a5:Int) (a6:Int) (a7:Int) (a8:Int) (a9:Int) (a10:Int):collapseH .std Ew_FnExactFroBegin Ow_FnExactFroBegin_0 (execFn Ew_FnExactFroBegin Tryz.f5 msw_FnExactFroBegin [.val true [.sl .any 169 (.pair (.int .i64) (.pair (.int .i64) (.pair (.sl 9 .str) (.sl 196 (.pair .str (.pair .bool (.sl 3 (.int .i64)))))))) a0,.int .i64 a1,.sl .any 129 (.pair (.int .i64) (.pair (.pair (.int .i64) (.pair (.int .i64) (.pair (.int .i64) (.pair (.int .i64) (.pair (.int .i64) (.pair (.int .i64) (.int .i64))))))) (.pair .bool (.pair (.sl 3 (.int .i64)) (.sl 3 (.int .i64)))))) a2],.val false [.int .i64 a3],.val true [.int .i64 a4,.int .i64 a5,.int .i64 a6,.int .i64 a7,.int .i64 a8,.int .i64 a9,.int .i64 a10]]) = some ((g_Aw_FnExactFroBegin a0 a1 a2 a3 a4 a5 a6 a7 a8 a9 a10),.val false [.bool (g_Vw_FnExactFroBegin_0 a0 a1 a2 a3 a4 a5 a6 a7 a8 a9 a10)],[]) := by kernel_rfl
theorem sw_FnExactFroBegin:Sound Tryz.prog 5 msw_FnExactFroBegin Fw_FnExactFroBegin := by
 refine fn_gen goodw_FnExactFroBegin (by kernel_rfl) .std (fn := Tryz.f5) (c := (Tryz.f5.body.getD .skip)) (o := Ow_FnExactFroBegin_0) (k := 0) (by kernel_rfl) (by kernel_rfl) (by kernel_rfl) (by kernel_rfl) (by decide) kw_FnExactFroBegin_0 ?_
 intro ys r outs h
 unfold Fw_FnExactFroBegin at h
 split at h
 ·exact (vw_FnExactFroBegin _ _ _ _ _ _ _ _ _ _ _).trans h
 ·cases h
end
end Go.Proofs.YtedhpmhlmdcpbaaGreatDoor.E
