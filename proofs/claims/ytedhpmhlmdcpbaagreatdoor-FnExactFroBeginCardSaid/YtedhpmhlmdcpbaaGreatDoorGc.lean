/- What the functions that are reached do, by the engine: for the proof (laws.FnExactFroBegin): part 3. No conditions. -/
import Derived.Test.YtedhpmhlmdcpbaaGreatDoorGb
import Derived.Test.YtedhpmhlmdcpbaaGreatDoorProg
set_option linter.all false
namespace Go.Proofs.YtedhpmhlmdcpbaaGreatDoor.E
open Go
set_option maxRecDepth 100000
set_option maxHeartbeats 0
noncomputable def EZ48:Env where
 tt := mkTI Tryz.prog
 fn := fun f => match f with
  | 132 => some (msZ59,FSem.wk msZ59 FZ59)
  | _ => none
 bxf := fun _ => none
 mv := []
 keep := fun b => match b with
  | 0 => [(0,false),(1,false),(5,false)]
  | _ => []
 keepB := fun b => match b with
  | 0 => []
  | _ => []
 keepX := fun b => match b with
  | 0 => [(1,false),(4,false)]
  | _ => []
 keepXB := fun b => match b with
  | 0 => []
  | _ => []
theorem goodFZ48:∀ f ms F,EZ48.fn f = some (ms,F) → Sound Tryz.prog f ms F := fun f ms F h => by
 unfold EZ48 at h
 dsimp only at h
 split at h
 ·exact gF sZ59 h
 ·cases h
theorem goodZ48:Good Tryz.prog EZ48 := ⟨rfl,goodFZ48,fun f ms F h => by cases h⟩
noncomputable def OZ48_0:Orc := fun _ _ => none
noncomputable def msZ48:List PM := [.rd,.own]
noncomputable def lsZ48:List (Nat×Code) := loopsAll 0 (Tryz.f88.body.getD .skip)
noncomputable def cZ48_0:Code := (loopOf 0 (Tryz.f88.body.getD .skip)).getD .skip
theorem lseqZ48:lsZ48 = [(0,cZ48_0)] := by kernel_rfl
theorem mZ48_0:∀ p,p ∈ lsZ48 → p.1 = 0 → p.2 = cZ48_0 := by
 intro p hp
 rw [lseqZ48] at hp
 simp only [List.mem_cons,List.not_mem_nil,or_false] at hp
 subst hp; simp
theorem kZ48_0:OrcOk EZ48 OZ48_0 lsZ48 0 := orcOk_none
noncomputable def hZ48_0 (y0:tL1) (y1:Int) (y2:Int):List (Pl×LV) := [(.T 0,.t (.val false [.sl .any 169 (.pair (.int .i64) (.pair (.int .i64) (.pair (.sl 9 .str) (.sl 196 (.pair .str (.pair .bool (.sl 3 (.int .i64)))))))) y0])),(.T 1,.t (.val false [.int .i64 y1])),(.T 5,.t (.val false [.int .i64 y2]))]
noncomputable def g_SZ48_0 (y0:tL1):(Int×Int) → RT (Int×Int) ((Int×Int) ⊕ (Int))
 | (y1,y2) => .br (true) (.br (decide (y2 < (y0.length:Int))) (.br (decide (0 ≤ y2 ∧ y2 < (y0.length:Int))) (.br (g_AZ59 (at_ yT4 y0 (Int.toNat y2)).1 (at_ yT4 y0 (Int.toNat y2)).2.1 (at_ yT4 y0 (Int.toNat y2)).2.2.1 (at_ yT4 y0 (Int.toNat y2)).2.2.2 y1) (.br (true) (.br (decide (g_VZ59_0 (at_ yT4 y0 (Int.toNat y2)).1 (at_ yT4 y0 (Int.toNat y2)).2.1 (at_ yT4 y0 (Int.toNat y2)).2.2.1 (at_ yT4 y0 (Int.toNat y2)).2.2.2 y1 < 0)) (.out (.inl ((g_VZ59_0 (at_ yT4 y0 (Int.toNat y2)).1 (at_ yT4 y0 (Int.toNat y2)).2.1 (at_ yT4 y0 (Int.toNat y2)).2.2.1 (at_ yT4 y0 (Int.toNat y2)).2.2.2 y1,(-1:Int))))) (.br (true) (.go ((g_VZ59_0 (at_ yT4 y0 (Int.toNat y2)).1 (at_ yT4 y0 (Int.toNat y2)).2.1 (at_ yT4 y0 (Int.toNat y2)).2.2.1 (at_ yT4 y0 (Int.toNat y2)).2.2.2 y1,IntKind.i64.wrap (y2 + 1)))) .bad)) .bad) .bad) .bad) (.out (.inr (y1)))) .bad
noncomputable def g_LZ48_0 (y0:tL1) (x:Int×Int):Option ((Int×Int) ⊕ (Int)) := loopO (g_SZ48_0 y0) x
noncomputable def xZ48_0 (y0:tL1):((Int×Int) ⊕ (Int)) → Ex×List (Pl×LV) := fun
 | .inl r => (.ret,[(.T 1,.t (.val false [.int .i64 r.1])),(.T 4,.t (.val false [.int .i64 r.2]))])
 | .inr (r) => (.exit 0,[(.T 1,.t (.val false [.int .i64 r])),(.T 4,.t (.val false [.undef]))])
noncomputable def OZ48_1:Orc := fun b h => match b,h with
 | 0,[(.T 0,.t (.val false [.sl .any 169 (.pair (.int .i64) (.pair (.int .i64) (.pair (.sl 9 .str) (.sl 196 (.pair .str (.pair .bool (.sl 3 (.int .i64)))))))) y0])),(.T 1,.t (.val false [.int .i64 y1])),(.T 5,.t (.val false [.int .i64 y2]))] => some (okO (g_LZ48_0 y0 (y1,y2)),(.br (isL (valO (g_LZ48_0 y0 (y1,y2)))) (.leaf .ret [(.T 1,.t (.val false [.int .i64 (getL (valO (g_LZ48_0 y0 (y1,y2)))).1])),(.T 4,.t (.val false [.int .i64 (getL (valO (g_LZ48_0 y0 (y1,y2)))).2]))]) (.leaf (.exit 0) [(.T 1,.t (.val false [.int .i64 (getR (valO (g_LZ48_0 y0 (y1,y2))))])),(.T 4,.t (.val false [.undef]))])))
 | b,h => OZ48_0 b h
theorem bZ48_0 (y0:tL1) (y1:Int) (y2:Int):Tr.bt EZ48 OZ48_0 (exec EZ48 0 cZ48_0 (St.of (hZ48_0 y0 y1 y2)) (leafRd EZ48 0)) = (g_SZ48_0 y0 (y1,y2)).bt (fun ((y1,y2):Int×Int) => (hZ48_0 y0 y1 y2)) (xZ48_0 y0) := by kernel_rfl
theorem kZ48_1:OrcOk EZ48 OZ48_1 lsZ48 1 := orc_add kZ48_0 (fun n p hp h ex h' ho => by
 obtain ⟨b,c⟩ := p
 obtain ⟨xt,h1,h2⟩ := ho
 have h1:OZ48_1 b h = some (true,xt) := h1
 unfold OZ48_1 at h1
 split at h1
 ·injection h1 with h1
  injection h1 with e1 e2
  subst e2
  have hc:c = cZ48_0 := mZ48_0 _ hp rfl
  subst hc
  right
  rename_i y0 y1 y2
  have key := LT_step kZ48_0 hp (fun q hq => loopsAll_in _ _ _ _ hp hq) (fun ((y1,y2):Int×Int) => (hZ48_0 y0 y1 y2)) (xZ48_0 y0) (g_SZ48_0 y0) (fun x => by first | exact bZ48_0 y0 x.1 x.2) n (x := (y1,y2)) (okO_some e1)
  have hx:∀ r,XT.sel (.br (isL r) (.leaf .ret [(.T 1,.t (.val false [.int .i64 (getL r).1])),(.T 4,.t (.val false [.int .i64 (getL r).2]))]) (.leaf (.exit 0) [(.T 1,.t (.val false [.int .i64 (getR r)])),(.T 4,.t (.val false [.undef]))])) = xZ48_0 y0 r := fun r => by first | rfl | rcases r with r | r <;> rfl | rcases r with r | r | r <;> rfl | rcases r with r | r | r | r <;> rfl
  have h3 := (hx (valO (g_LZ48_0 y0 (y1,y2)))).symm.trans h2
  have e3 := congrArg Prod.fst h3
  have e4 := congrArg Prod.snd h3
  simp only at e3 e4
  rw [← e3,← e4]
  exact key
 ·exact .inl ⟨xt,h1,h2⟩)
noncomputable def g_AZ48 (a0:tL1) (a1:Int):Bool := decide (IntKind.i64.wrap (a1 - (a0.length:Int)) < 0) || okO (g_LZ48_0 a0 (IntKind.i64.wrap (a1 - (a0.length:Int)),(0:Int)))
noncomputable def g_VZ48_0 (a0:tL1) (a1:Int):Int := bif decide (IntKind.i64.wrap (a1 - (a0.length:Int)) < 0) then (-1:Int) else bif isL (valO (g_LZ48_0 a0 (IntKind.i64.wrap (a1 - (a0.length:Int)),(0:Int)))) then (getL (valO (g_LZ48_0 a0 (IntKind.i64.wrap (a1 - (a0.length:Int)),(0:Int))))).2 else getR (valO (g_LZ48_0 a0 (IntKind.i64.wrap (a1 - (a0.length:Int)),(0:Int))))
noncomputable def FZ48:FSem := fun ys => match ys with
 | [.val false [.sl .any 169 (.pair (.int .i64) (.pair (.int .i64) (.pair (.sl 9 .str) (.sl 196 (.pair .str (.pair .bool (.sl 3 (.int .i64)))))))) a0],.val false [.int .i64 a1]] => some ((g_AZ48 a0 a1),.val false [.int .i64 (g_VZ48_0 a0 a1)],[])
 | _ => none
theorem vZ48 (a0:tL1) (a1:Int):collapseH .std EZ48 OZ48_1 (execFn EZ48 Tryz.f88 msZ48 [.val false [.sl .any 169 (.pair (.int .i64) (.pair (.int .i64) (.pair (.sl 9 .str) (.sl 196 (.pair .str (.pair .bool (.sl 3 (.int .i64)))))))) a0],.val false [.int .i64 a1]]) = some ((g_AZ48 a0 a1),.val false [.int .i64 (g_VZ48_0 a0 a1)],[]) := by kernel_rfl
theorem sZ48:Sound Tryz.prog 88 msZ48 FZ48 := by
 refine fn_gen goodZ48 (by kernel_rfl) .std (fn := Tryz.f88) (c := (Tryz.f88.body.getD .skip)) (o := OZ48_1) (k := 1) (by kernel_rfl) (by kernel_rfl) (by kernel_rfl) (by kernel_rfl) (by decide) kZ48_1 ?_
 intro ys r outs h
 unfold FZ48 at h
 split at h
 ·exact (vZ48 _ _).trans h
 ·cases h
noncomputable def EZ60:Env where
 tt := mkTI Tryz.prog
 fn := fun f => match f with
  | 88 => some (msZ48,FSem.wk msZ48 FZ48)
  | _ => none
 bxf := fun _ => none
 mv := []
 keep := fun _ => []
 keepB := fun _ => []
 keepX := fun _ => []
 keepXB := fun _ => []
theorem goodFZ60:∀ f ms F,EZ60.fn f = some (ms,F) → Sound Tryz.prog f ms F := fun f ms F h => by
 unfold EZ60 at h
 dsimp only at h
 split at h
 ·exact gF sZ48 h
 ·cases h
theorem goodZ60:Good Tryz.prog EZ60 := ⟨rfl,goodFZ60,fun f ms F h => by cases h⟩
noncomputable def OZ60_0:Orc := fun _ _ => none
noncomputable def msZ60:List PM := [.rd,.own]
noncomputable def lsZ60:List (Nat×Code) := loopsAll 0 (Tryz.f27.body.getD .skip)
theorem kZ60_0:OrcOk EZ60 OZ60_0 lsZ60 0 := orcOk_none
noncomputable def g_AZ60 (a0:tL1) (a1:Int) (a2:Int):Bool := g_AZ48 a0 a2&&true
noncomputable def g_VZ60_0 (a0:tL1) (a1:Int) (a2:Int):Int := bif decide (g_VZ48_0 a0 a2 < 0) then (-1:Int) else g_VZ48_0 a0 a2
noncomputable def FZ60:FSem := fun ys => match ys with
 | [.val true [.sl .any 169 (.pair (.int .i64) (.pair (.int .i64) (.pair (.sl 9 .str) (.sl 196 (.pair .str (.pair .bool (.sl 3 (.int .i64)))))))) a0,.int .i64 a1],.val false [.int .i64 a2]] => some ((g_AZ60 a0 a1 a2),.val false [.int .i64 (g_VZ60_0 a0 a1 a2)],[])
 | _ => none
theorem vZ60 (a0:tL1) (a1:Int) (a2:Int):collapseH .std EZ60 OZ60_0 (execFn EZ60 Tryz.f27 msZ60 [.val true [.sl .any 169 (.pair (.int .i64) (.pair (.int .i64) (.pair (.sl 9 .str) (.sl 196 (.pair .str (.pair .bool (.sl 3 (.int .i64)))))))) a0,.int .i64 a1],.val false [.int .i64 a2]]) = some ((g_AZ60 a0 a1 a2),.val false [.int .i64 (g_VZ60_0 a0 a1 a2)],[]) := by kernel_rfl
theorem sZ60:Sound Tryz.prog 27 msZ60 FZ60 := by
 refine fn_gen goodZ60 (by kernel_rfl) .std (fn := Tryz.f27) (c := (Tryz.f27.body.getD .skip)) (o := OZ60_0) (k := 0) (by kernel_rfl) (by kernel_rfl) (by kernel_rfl) (by kernel_rfl) (by decide) kZ60_0 ?_
 intro ys r outs h
 unfold FZ60 at h
 split at h
 ·exact (vZ60 _ _ _).trans h
 ·cases h
noncomputable def EZ49:Env where
 tt := mkTI Tryz.prog
 fn := fun f => match f with
  | 27 => some (msZ60,FSem.wk msZ60 FZ60)
  | 28 => some (msZ78,FSem.wk msZ78 FZ78)
  | _ => none
 bxf := fun _ => none
 mv := []
 keep := fun _ => []
 keepB := fun _ => []
 keepX := fun _ => []
 keepXB := fun _ => []
theorem goodFZ49:∀ f ms F,EZ49.fn f = some (ms,F) → Sound Tryz.prog f ms F := fun f ms F h => by
 unfold EZ49 at h
 dsimp only at h
 split at h
 ·exact gF sZ60 h
 ·exact gF sZ78 h
 ·cases h
theorem goodZ49:Good Tryz.prog EZ49 := ⟨rfl,goodFZ49,fun f ms F h => by cases h⟩
noncomputable def OZ49_0:Orc := fun _ _ => none
noncomputable def msZ49:List PM := [.rd,.own]
noncomputable def lsZ49:List (Nat×Code) := loopsAll 0 (Tryz.f7.body.getD .skip)
theorem kZ49_0:OrcOk EZ49 OZ49_0 lsZ49 0 := orcOk_none
noncomputable def g_AZ49 (a0:tL1) (a1:Int) (a2:tL0) (a3:Int):Bool := g_AZ60 a0 a1 a3&&(decide (g_VZ60_0 a0 a1 a3 < 0) || g_AZ78 a2 (g_VZ60_0 a0 a1 a3)&&true)
noncomputable def g_VZ49_0 (a0:tL1) (a1:Int) (a2:tL0) (a3:Int):Int := bif decide (g_VZ60_0 a0 a1 a3 < 0) then (-1:Int) else bif decide (g_VZ78_0 a2 (g_VZ60_0 a0 a1 a3) < 0) then (-1:Int) else g_VZ78_0 a2 (g_VZ60_0 a0 a1 a3)
noncomputable def FZ49:FSem := fun ys => match ys with
 | [.val true [.sl .any 169 (.pair (.int .i64) (.pair (.int .i64) (.pair (.sl 9 .str) (.sl 196 (.pair .str (.pair .bool (.sl 3 (.int .i64)))))))) a0,.int .i64 a1,.sl .any 129 (.pair (.int .i64) (.pair (.pair (.int .i64) (.pair (.int .i64) (.pair (.int .i64) (.pair (.int .i64) (.pair (.int .i64) (.pair (.int .i64) (.int .i64))))))) (.pair .bool (.pair (.sl 3 (.int .i64)) (.sl 3 (.int .i64)))))) a2],.val false [.int .i64 a3]] => some ((g_AZ49 a0 a1 a2 a3),.val false [.int .i64 (g_VZ49_0 a0 a1 a2 a3)],[])
 | _ => none
theorem vZ49 (a0:tL1) (a1:Int) (a2:tL0) (a3:Int):collapseH .std EZ49 OZ49_0 (execFn EZ49 Tryz.f7 msZ49 [.val true [.sl .any 169 (.pair (.int .i64) (.pair (.int .i64) (.pair (.sl 9 .str) (.sl 196 (.pair .str (.pair .bool (.sl 3 (.int .i64)))))))) a0,.int .i64 a1,.sl .any 129 (.pair (.int .i64) (.pair (.pair (.int .i64) (.pair (.int .i64) (.pair (.int .i64) (.pair (.int .i64) (.pair (.int .i64) (.pair (.int .i64) (.int .i64))))))) (.pair .bool (.pair (.sl 3 (.int .i64)) (.sl 3 (.int .i64)))))) a2],.val false [.int .i64 a3]]) = some ((g_AZ49 a0 a1 a2 a3),.val false [.int .i64 (g_VZ49_0 a0 a1 a2 a3)],[]) := by kernel_rfl
theorem sZ49:Sound Tryz.prog 7 msZ49 FZ49 := by
 refine fn_gen goodZ49 (by kernel_rfl) .std (fn := Tryz.f7) (c := (Tryz.f7.body.getD .skip)) (o := OZ49_0) (k := 0) (by kernel_rfl) (by kernel_rfl) (by kernel_rfl) (by kernel_rfl) (by decide) kZ49_0 ?_
 intro ys r outs h
 unfold FZ49 at h
 split at h
 ·exact (vZ49 _ _ _ _).trans h
 ·cases h
noncomputable def Ew_toIntS:Env where
 tt := mkTI Tryz.prog
 fn := fun _ => none
 bxf := fun _ => none
 mv := []
 keep := fun b => match b with
  | 0 => [(0,false),(3,false),(4,false)]
  | _ => []
 keepB := fun b => match b with
  | 0 => []
  | _ => []
 keepX := fun b => match b with
  | 0 => [(3,false)]
  | _ => []
 keepXB := fun b => match b with
  | 0 => []
  | _ => []
theorem goodFw_toIntS:∀ f ms F,Ew_toIntS.fn f = some (ms,F) → Sound Tryz.prog f ms F := fun f ms F h => by cases h
theorem goodw_toIntS:Good Tryz.prog Ew_toIntS := ⟨rfl,goodFw_toIntS,fun f ms F h => by cases h⟩
noncomputable def Ow_toIntS_0:Orc := fun _ _ => none
noncomputable def msw_toIntS:List PM := [.rd]
noncomputable def lsw_toIntS:List (Nat×Code) := loopsAll 0 (Tryz.f136.body.getD .skip)
noncomputable def cw_toIntS_0:Code := (loopOf 0 (Tryz.f136.body.getD .skip)).getD .skip
theorem lseqw_toIntS:lsw_toIntS = [(0,cw_toIntS_0)] := by kernel_rfl
theorem mw_toIntS_0:∀ p,p ∈ lsw_toIntS → p.1 = 0 → p.2 = cw_toIntS_0 := by
 intro p hp
 rw [lseqw_toIntS] at hp
 simp only [List.mem_cons,List.not_mem_nil,or_false] at hp
 subst hp; simp
theorem kw_toIntS_0:OrcOk Ew_toIntS Ow_toIntS_0 lsw_toIntS 0 := orcOk_none
noncomputable def hw_toIntS_0 (y0:List Int) (y1:List Int) (y2:Int):List (Pl×LV) := [(.T 0,.t (.val false [.sl .any 3 (.int .i64) y0])),(.T 3,.t (.val false [.row 3 0 0])),(.R 3 0,.r 0 (some ⟨false,.non,true,3,(.int .i64),y1⟩)),(.T 4,.t (.val false [.int .i64 y2]))]
noncomputable def g_Sw_toIntS_0 (y0:List Int):((List Int)×Int) → RT ((List Int)×Int) (((List Int)))
 | (y1,y2) => .br (true) (.br (decide (y2 < (y0.length:Int))) (.br (decide (0 ≤ y2 ∧ y2 < (y0.length:Int))) (.br (decide (0 ≤ y2 ∧ y2 < (y1.length:Int))) (.br (decide (Int.toNat y2 < List.length y1)) (.br (true) (.go ((List.set y1 (Int.toNat y2) (at_ (.int .i64) y0 (Int.toNat y2)),IntKind.i64.wrap (y2 + 1)))) .bad) .bad) .bad) .bad) (.out (y1))) .bad
noncomputable def g_Lw_toIntS_0 (y0:List Int) (x:(List Int)×Int):Option (((List Int))) := loopO (g_Sw_toIntS_0 y0) x
noncomputable def xw_toIntS_0 (y0:List Int):(((List Int))) → Ex×List (Pl×LV) := fun r => (.exit 0,[(.T 3,.t (.val false [.row 3 0 0])),(.R 3 0,.r 0 (some ⟨false,.non,true,3,(.int .i64),r⟩))])
noncomputable def Ow_toIntS_1:Orc := fun b h => match b,h with
 | 0,[(.T 0,.t (.val false [.sl .any 3 (.int .i64) y0])),(.T 3,.t (.val false [.row 3 0 0])),(.R 3 0,.r 0 (some ⟨false,.non,true,3,(.int .i64),y1⟩)),(.T 4,.t (.val false [.int .i64 y2]))] => some (okO (g_Lw_toIntS_0 y0 (y1,y2)),(.leaf (.exit 0) [(.T 3,.t (.val false [.row 3 0 0])),(.R 3 0,.r 0 (some ⟨false,.non,true,3,(.int .i64),(valO (g_Lw_toIntS_0 y0 (y1,y2)))⟩))]))
 | b,h => Ow_toIntS_0 b h
theorem bw_toIntS_0 (y0:List Int) (y1:List Int) (y2:Int):Tr.bt Ew_toIntS Ow_toIntS_0 (exec Ew_toIntS 0 cw_toIntS_0 (St.of (hw_toIntS_0 y0 y1 y2)) (leafRd Ew_toIntS 0)) = (g_Sw_toIntS_0 y0 (y1,y2)).bt (fun ((y1,y2):(List Int)×Int) => (hw_toIntS_0 y0 y1 y2)) (xw_toIntS_0 y0) := by kernel_rfl
theorem kw_toIntS_1:OrcOk Ew_toIntS Ow_toIntS_1 lsw_toIntS 1 := orc_add kw_toIntS_0 (fun n p hp h ex h' ho => by
 obtain ⟨b,c⟩ := p
 obtain ⟨xt,h1,h2⟩ := ho
 have h1:Ow_toIntS_1 b h = some (true,xt) := h1
 unfold Ow_toIntS_1 at h1
 split at h1
 ·injection h1 with h1
  injection h1 with e1 e2
  subst e2
  have hc:c = cw_toIntS_0 := mw_toIntS_0 _ hp rfl
  subst hc
  right
  rename_i y0 y1 y2
  have key := LT_step kw_toIntS_0 hp (fun q hq => loopsAll_in _ _ _ _ hp hq) (fun ((y1,y2):(List Int)×Int) => (hw_toIntS_0 y0 y1 y2)) (xw_toIntS_0 y0) (g_Sw_toIntS_0 y0) (fun x => by first | exact bw_toIntS_0 y0 x.1 x.2) n (x := (y1,y2)) (okO_some e1)
  have hx:∀ r,XT.sel (.leaf (.exit 0) [(.T 3,.t (.val false [.row 3 0 0])),(.R 3 0,.r 0 (some ⟨false,.non,true,3,(.int .i64),r⟩))]) = xw_toIntS_0 y0 r := fun r => by first | rfl | rcases r with r | r <;> rfl | rcases r with r | r | r <;> rfl | rcases r with r | r | r | r <;> rfl
  have h3 := (hx (valO (g_Lw_toIntS_0 y0 (y1,y2)))).symm.trans h2
  have e3 := congrArg Prod.fst h3
  have e4 := congrArg Prod.snd h3
  simp only at e3 e4
  rw [← e3,← e4]
  exact key
 ·exact .inl ⟨xt,h1,h2⟩)
noncomputable def g_Aw_toIntS (a0:List Int):Bool := decide ((a0.length:Int) = (a0.length:Int) ∧ 0 ≤ (a0.length:Int) ∧ (a0.length:Int) ≤ 9223372036854775807 ∧ 8 * (a0.length:Int) ≤ 281474976710656)&&okO (g_Lw_toIntS_0 a0 (List.replicate (Int.toNat (a0.length:Int)) (0:Int),(0:Int)))
noncomputable def g_Vw_toIntS_0 (a0:List Int):List Int := valO (g_Lw_toIntS_0 a0 (List.replicate (Int.toNat (a0.length:Int)) (0:Int),(0:Int)))
noncomputable def Fw_toIntS:FSem := fun ys => match ys with
 | [.val false [.sl .any 3 (.int .i64) a0]] => some ((g_Aw_toIntS a0),.val false [.own .any true 3 (.int .i64) (g_Vw_toIntS_0 a0)],[])
 | _ => none
theorem vw_toIntS (a0:List Int):collapseH .std Ew_toIntS Ow_toIntS_1 (execFn Ew_toIntS Tryz.f136 msw_toIntS [.val false [.sl .any 3 (.int .i64) a0]]) = some ((g_Aw_toIntS a0),.val false [.own .any true 3 (.int .i64) (g_Vw_toIntS_0 a0)],[]) := by kernel_rfl
theorem sw_toIntS:Sound Tryz.prog 136 msw_toIntS Fw_toIntS := by
 refine fn_gen goodw_toIntS (by kernel_rfl) .std (fn := Tryz.f136) (c := (Tryz.f136.body.getD .skip)) (o := Ow_toIntS_1) (k := 1) (by kernel_rfl) (by kernel_rfl) (by kernel_rfl) (by kernel_rfl) (by decide) kw_toIntS_1 ?_
 intro ys r outs h
 unfold Fw_toIntS at h
 split at h
 ·exact (vw_toIntS _).trans h
 ·cases h
noncomputable def Ew_toOpOp:Env where
 tt := mkTI Tryz.prog
 fn := fun _ => none
 bxf := fun _ => none
 mv := []
 keep := fun _ => []
 keepB := fun _ => []
 keepX := fun _ => []
 keepXB := fun _ => []
theorem goodFw_toOpOp:∀ f ms F,Ew_toOpOp.fn f = some (ms,F) → Sound Tryz.prog f ms F := fun f ms F h => by cases h
theorem goodw_toOpOp:Good Tryz.prog Ew_toOpOp := ⟨rfl,goodFw_toOpOp,fun f ms F h => by cases h⟩
noncomputable def Ow_toOpOp_0:Orc := fun _ _ => none
noncomputable def msw_toOpOp:List PM := [.own]
noncomputable def lsw_toOpOp:List (Nat×Code) := loopsAll 0 (Tryz.f20.body.getD .skip)
theorem kw_toOpOp_0:OrcOk Ew_toOpOp Ow_toOpOp_0 lsw_toOpOp 0 := orcOk_none
noncomputable def Fw_toOpOp:FSem := fun ys => match ys with
 | [.val true [.int .i64 a0,.int .i64 a1,.int .i64 a2,.int .i64 a3,.int .i64 a4,.int .i64 a5,.int .i64 a6]] => some (true,.val true [.int .i64 a0,.int .i64 a1,.int .i64 a2,.int .i64 a3,.int .i64 a4,.int .i64 a5,.int .i64 a6],[])
 | _ => none
theorem vw_toOpOp (a0:Int) (a1:Int) (a2:Int) (a3:Int) (a4:Int) (a5:Int) (a6:Int):collapseH .std Ew_toOpOp Ow_toOpOp_0 (execFn Ew_toOpOp Tryz.f20 msw_toOpOp [.val true [.int .i64 a0,.int .i64 a1,.int .i64 a2,.int .i64 a3,.int .i64 a4,.int .i64 a5,.int .i64 a6]]) = some (true,.val true [.int .i64 a0,.int .i64 a1,.int .i64 a2,.int .i64 a3,.int .i64 a4,.int .i64 a5,.int .i64 a6],[]) := by kernel_rfl
theorem sw_toOpOp:Sound Tryz.prog 20 msw_toOpOp Fw_toOpOp := by
 refine fn_gen goodw_toOpOp (by kernel_rfl) .std (fn := Tryz.f20) (c := (Tryz.f20.body.getD .skip)) (o := Ow_toOpOp_0) (k := 0) (by kernel_rfl) (by kernel_rfl) (by kernel_rfl) (by kernel_rfl) (by decide) kw_toOpOp_0 ?_
 intro ys r outs h
 unfold Fw_toOpOp at h
 split at h
 ·exact (vw_toOpOp _ _ _ _ _ _ _).trans h
 ·cases h
noncomputable def Ew_toFroTx:Env where
 tt := mkTI Tryz.prog
 fn := fun f => match f with
  | 20 => some (msw_toOpOp,FSem.wk msw_toOpOp Fw_toOpOp)
  | 136 => some (msw_toIntS,FSem.wk msw_toIntS Fw_toIntS)
  | _ => none
 bxf := fun _ => none
 mv := []
 keep := fun _ => []
 keepB := fun _ => []
 keepX := fun _ => []
 keepXB := fun _ => []
theorem goodFw_toFroTx:∀ f ms F,Ew_toFroTx.fn f = some (ms,F) → Sound Tryz.prog f ms F := fun f ms F h => by
 unfold Ew_toFroTx at h
 dsimp only at h
 split at h
 ·exact gF sw_toOpOp h
 ·exact gF sw_toIntS h
 ·cases h
theorem goodw_toFroTx:Good Tryz.prog Ew_toFroTx := ⟨rfl,goodFw_toFroTx,fun f ms F h => by cases h⟩
noncomputable def Ow_toFroTx_0:Orc := fun _ _ => none
noncomputable def msw_toFroTx:List PM := [.rd]
noncomputable def lsw_toFroTx:List (Nat×Code) := loopsAll 0 (Tryz.f94.body.getD .skip)
theorem kw_toFroTx_0:OrcOk Ew_toFroTx Ow_toFroTx_0 lsw_toFroTx 0 := orcOk_none
noncomputable def g_Aw_toFroTx (a0:Int) (a1:Int) (a2:Int) (a3:Int) (a4:Int) (a5:Int) (a6:Int) (a7:Int) (a8:Bool) (a9:List Int) (a10:List Int):Bool := g_Aw_toIntS a9&&g_Aw_toIntS a10
noncomputable def Fw_toFroTx:FSem := fun ys => match ys with
 | [.val true [.int .i64 a0,.int .i64 a1,.int .i64 a2,.int .i64 a3,.int .i64 a4,.int .i64 a5,.int .i64 a6,.int .i64 a7,.bool a8,.sl .any 3 (.int .i64) a9,.sl .any 3 (.int .i64) a10]] => some ((g_Aw_toFroTx a0 a1 a2 a3 a4 a5 a6 a7 a8 a9 a10),.val true [.int .i64 a0,.int .i64 a1,.int .i64 a2,.int .i64 a3,.int .i64 a4,.int .i64 a5,.int .i64 a6,.int .i64 a7,.bool a8,.own .any true 3 (.int .i64) (g_Vw_toIntS_0 a9),.own .any true 3 (.int .i64) (g_Vw_toIntS_0 a10)],[])
 | _ => none
theorem vw_toFroTx (a0:Int) (a1:Int) (a2:Int) (a3:Int) (a4:Int) (a5:Int) (a6:Int) (a7:Int) (a8:Bool) (a9:List Int) (a10:List Int):collapseH .std Ew_toFroTx Ow_toFroTx_0 (execFn Ew_toFroTx Tryz.f94 msw_toFroTx [.val true [.int .i64 a0,.int .i64 a1,.int .i64 a2,.int .i64 a3,.int .i64 a4,.int .i64 a5,.int .i64 a6,.int .i64 a7,.bool a8,.sl .any 3 (.int .i64) a9,.sl .any 3 (.int .i64) a10]]) = some ((g_Aw_toFroTx a0 a1 a2 a3 a4 a5 a6 a7 a8 a9 a10),.val true [.int .i64 a0,.int .i64 a1,.int .i64 a2,.int .i64 a3,.int .i64 a4,.int .i64 a5,.int .i64 a6,.int .i64 a7,.bool a8,.own .any true 3 (.int .i64) (g_Vw_toIntS_0 a9),.own .any true 3 (.int .i64) (g_Vw_toIntS_0 a10)],[]) := by kernel_rfl
theorem sw_toFroTx:Sound Tryz.prog 94 msw_toFroTx Fw_toFroTx := by
 refine fn_gen goodw_toFroTx (by kernel_rfl) .std (fn := Tryz.f94) (c := (Tryz.f94.body.getD .skip)) (o := Ow_toFroTx_0) (k := 0) (by kernel_rfl) (by kernel_rfl) (by kernel_rfl) (by kernel_rfl) (by decide) kw_toFroTx_0 ?_
 intro ys r outs h
 unfold Fw_toFroTx at h
 split at h
 ·exact (vw_toFroTx _ _ _ _ _ _ _ _ _ _ _).trans h
 ·cases h
noncomputable def EZ79:Env where
 tt := mkTI Tryz.prog
 fn := fun f => match f with
  | 94 => some (msw_toFroTx,FSem.wk msw_toFroTx Fw_toFroTx)
  | _ => none
 bxf := fun _ => none
 mv := []
 keep := fun b => match b with
  | 0 => [(0,false),(3,false),(4,false)]
  | _ => []
 keepB := fun b => match b with
  | 0 => []
  | _ => []
 keepX := fun b => match b with
  | 0 => [(3,false)]
  | _ => []
 keepXB := fun b => match b with
  | 0 => []
  | _ => []
theorem goodFZ79:∀ f ms F,EZ79.fn f = some (ms,F) → Sound Tryz.prog f ms F := fun f ms F h => by
 unfold EZ79 at h
 dsimp only at h
 split at h
 ·exact gF sw_toFroTx h
 ·cases h
theorem goodZ79:Good Tryz.prog EZ79 := ⟨rfl,goodFZ79,fun f ms F h => by cases h⟩
noncomputable def OZ79_0:Orc := fun _ _ => none
noncomputable def msZ79:List PM := [.rd]
noncomputable def lsZ79:List (Nat×Code) := loopsAll 0 (Tryz.f35.body.getD .skip)
noncomputable def cZ79_0:Code := (loopOf 0 (Tryz.f35.body.getD .skip)).getD .skip
theorem lseqZ79:lsZ79 = [(0,cZ79_0)] := by kernel_rfl
theorem mZ79_0:∀ p,p ∈ lsZ79 → p.1 = 0 → p.2 = cZ79_0 := by
 intro p hp
 rw [lseqZ79] at hp
 simp only [List.mem_cons,List.not_mem_nil,or_false] at hp
 subst hp; simp
theorem kZ79_0:OrcOk EZ79 OZ79_0 lsZ79 0 := orcOk_none
noncomputable def hZ79_0 (y0:tL0) (y1:tL0) (y2:Int):List (Pl×LV) := [(.T 0,.t (.val false [.sl .any 129 (.pair (.int .i64) (.pair (.pair (.int .i64) (.pair (.int .i64) (.pair (.int .i64) (.pair (.int .i64) (.pair (.int .i64) (.pair (.int .i64) (.int .i64))))))) (.pair .bool (.pair (.sl 3 (.int .i64)) (.sl 3 (.int .i64)))))) y0])),(.T 3,.t (.val false [.row 3 0 0])),(.R 3 0,.r 0 (some ⟨false,.non,true,73,(.pair (.int .i64) (.pair (.pair (.int .i64) (.pair (.int .i64) (.pair (.int .i64) (.pair (.int .i64) (.pair (.int .i64) (.pair (.int .i64) (.int .i64))))))) (.pair .bool (.pair (.sl 3 (.int .i64)) (.sl 3 (.int .i64)))))),y1⟩)),(.T 4,.t (.val false [.int .i64 y2]))]
noncomputable def g_SZ79_0 (y0:tL0):(tL0×Int) → RT (tL0×Int) ((tL0))
 | (y1,y2) => .br (true) (.br (decide (y2 < (y0.length:Int))) (.br (decide (0 ≤ y2 ∧ y2 < (y0.length:Int))) (.br (g_Aw_toFroTx (at_ yT0 y0 (Int.toNat y2)).1 (at_ yT0 y0 (Int.toNat y2)).2.1.1 (at_ yT0 y0 (Int.toNat y2)).2.1.2.1 (at_ yT0 y0 (Int.toNat y2)).2.1.2.2.1 (at_ yT0 y0 (Int.toNat y2)).2.1.2.2.2.1 (at_ yT0 y0 (Int.toNat y2)).2.1.2.2.2.2.1 (at_ yT0 y0 (Int.toNat y2)).2.1.2.2.2.2.2.1 (at_ yT0 y0 (Int.toNat y2)).2.1.2.2.2.2.2.2 (at_ yT0 y0 (Int.toNat y2)).2.2.1 (at_ yT0 y0 (Int.toNat y2)).2.2.2.1 (at_ yT0 y0 (Int.toNat y2)).2.2.2.2) (.br (decide (0 ≤ y2 ∧ y2 < (y1.length:Int))) (.br (decide (Int.toNat y2 < List.length y1)) (.br (true) (.go ((List.set y1 (Int.toNat y2) ((at_ yT0 y0 (Int.toNat y2)).1,((at_ yT0 y0 (Int.toNat y2)).2.1.1,(at_ yT0 y0 (Int.toNat y2)).2.1.2.1,(at_ yT0 y0 (Int.toNat y2)).2.1.2.2.1,(at_ yT0 y0 (Int.toNat y2)).2.1.2.2.2.1,(at_ yT0 y0 (Int.toNat y2)).2.1.2.2.2.2.1,(at_ yT0 y0 (Int.toNat y2)).2.1.2.2.2.2.2.1,(at_ yT0 y0 (Int.toNat y2)).2.1.2.2.2.2.2.2),(at_ yT0 y0 (Int.toNat y2)).2.2.1,g_Vw_toIntS_0 (at_ yT0 y0 (Int.toNat y2)).2.2.2.1,g_Vw_toIntS_0 (at_ yT0 y0 (Int.toNat y2)).2.2.2.2),IntKind.i64.wrap (y2 + 1)))) .bad) .bad) .bad) .bad) .bad) (.out (y1))) .bad
noncomputable def g_LZ79_0 (y0:tL0) (x:tL0×Int):Option ((tL0)) := loopO (g_SZ79_0 y0) x
noncomputable def xZ79_0 (y0:tL0):((tL0)) → Ex×List (Pl×LV) := fun r => (.exit 0,[(.T 3,.t (.val false [.row 3 0 0])),(.R 3 0,.r 0 (some ⟨false,.non,true,73,(.pair (.int .i64) (.pair (.pair (.int .i64) (.pair (.int .i64) (.pair (.int .i64) (.pair (.int .i64) (.pair (.int .i64) (.pair (.int .i64) (.int .i64))))))) (.pair .bool (.pair (.sl 3 (.int .i64)) (.sl 3 (.int .i64)))))),r⟩))])
noncomputable def OZ79_1:Orc := fun b h => match b,h with
 | 0,[(.T 0,.t (.val false [.sl .any 129 (.pair (.int .i64) (.pair (.pair (.int .i64) (.pair (.int .i64) (.pair (.int .i64) (.pair (.int .i64) (.pair (.int .i64) (.pair (.int .i64) (.int .i64))))))) (.pair .bool (.pair (.sl 3 (.int .i64)) (.sl 3 (.int .i64)))))) y0])),(.T 3,.t (.val false [.row 3 0 0])),(.R 3 0,.r 0 (some ⟨false,.non,true,73,(.pair (.int .i64) (.pair (.pair (.int .i64) (.pair (.int .i64) (.pair (.int .i64) (.pair (.int .i64) (.pair (.int .i64) (.pair (.int .i64) (.int .i64))))))) (.pair .bool (.pair (.sl 3 (.int .i64)) (.sl 3 (.int .i64)))))),y1⟩)),(.T 4,.t (.val false [.int .i64 y2]))] => some (okO (g_LZ79_0 y0 (y1,y2)),(.leaf (.exit 0) [(.T 3,.t (.val false [.row 3 0 0])),(.R 3 0,.r 0 (some ⟨false,.non,true,73,(.pair (.int .i64) (.pair (.pair (.int .i64) (.pair (.int .i64) (.pair (.int .i64) (.pair (.int .i64) (.pair (.int .i64) (.pair (.int .i64) (.int .i64))))))) (.pair .bool (.pair (.sl 3 (.int .i64)) (.sl 3 (.int .i64)))))),(valO (g_LZ79_0 y0 (y1,y2)))⟩))]))
 | b,h => OZ79_0 b h
theorem bZ79_0 (y0:tL0) (y1:tL0) (y2:Int):Tr.bt EZ79 OZ79_0 (exec EZ79 0 cZ79_0 (St.of (hZ79_0 y0 y1 y2)) (leafRd EZ79 0)) = (g_SZ79_0 y0 (y1,y2)).bt (fun ((y1,y2):tL0×Int) => (hZ79_0 y0 y1 y2)) (xZ79_0 y0) := by kernel_rfl
theorem kZ79_1:OrcOk EZ79 OZ79_1 lsZ79 1 := orc_add kZ79_0 (fun n p hp h ex h' ho => by
 obtain ⟨b,c⟩ := p
 obtain ⟨xt,h1,h2⟩ := ho
 have h1:OZ79_1 b h = some (true,xt) := h1
 unfold OZ79_1 at h1
 split at h1
 ·injection h1 with h1
  injection h1 with e1 e2
  subst e2
  have hc:c = cZ79_0 := mZ79_0 _ hp rfl
  subst hc
  right
  rename_i y0 y1 y2
  have key := LT_step kZ79_0 hp (fun q hq => loopsAll_in _ _ _ _ hp hq) (fun ((y1,y2):tL0×Int) => (hZ79_0 y0 y1 y2)) (xZ79_0 y0) (g_SZ79_0 y0) (fun x => by first | exact bZ79_0 y0 x.1 x.2) n (x := (y1,y2)) (okO_some e1)
  have hx:∀ r,XT.sel (.leaf (.exit 0) [(.T 3,.t (.val false [.row 3 0 0])),(.R 3 0,.r 0 (some ⟨false,.non,true,73,(.pair (.int .i64) (.pair (.pair (.int .i64) (.pair (.int .i64) (.pair (.int .i64) (.pair (.int .i64) (.pair (.int .i64) (.pair (.int .i64) (.int .i64))))))) (.pair .bool (.pair (.sl 3 (.int .i64)) (.sl 3 (.int .i64)))))),r⟩))]) = xZ79_0 y0 r := fun r => by first | rfl | rcases r with r | r <;> rfl | rcases r with r | r | r <;> rfl | rcases r with r | r | r | r <;> rfl
  have h3 := (hx (valO (g_LZ79_0 y0 (y1,y2)))).symm.trans h2
  have e3 := congrArg Prod.fst h3
  have e4 := congrArg Prod.snd h3
  simp only at e3 e4
  rw [← e3,← e4]
  exact key
 ·exact .inl ⟨xt,h1,h2⟩)
noncomputable def g_AZ79 (a0:tL0):Bool := decide ((a0.length:Int) = (a0.length:Int) ∧ 0 ≤ (a0.length:Int) ∧ (a0.length:Int) ≤ 9223372036854775807 ∧ 120 * (a0.length:Int) ≤ 281474976710656)&&okO (g_LZ79_0 a0 (List.replicate (Int.toNat (a0.length:Int)) ((0:Int),((0:Int),(0:Int),(0:Int),(0:Int),(0:Int),(0:Int),(0:Int)),false,([]:List Int),([]:List Int)),(0:Int)))
noncomputable def g_VZ79_0 (a0:tL0):tL0 := valO (g_LZ79_0 a0 (List.replicate (Int.toNat (a0.length:Int)) ((0:Int),((0:Int),(0:Int),(0:Int),(0:Int),(0:Int),(0:Int),(0:Int)),false,([]:List Int),([]:List Int)),(0:Int)))
noncomputable def FZ79:FSem := fun ys => match ys with
 | [.val false [.sl .any 129 (.pair (.int .i64) (.pair (.pair (.int .i64) (.pair (.int .i64) (.pair (.int .i64) (.pair (.int .i64) (.pair (.int .i64) (.pair (.int .i64) (.int .i64))))))) (.pair .bool (.pair (.sl 3 (.int .i64)) (.sl 3 (.int .i64)))))) a0]] => some ((g_AZ79 a0),.val false [.own .any true 73 (.pair (.int .i64) (.pair (.pair (.int .i64) (.pair (.int .i64) (.pair (.int .i64) (.pair (.int .i64) (.pair (.int .i64) (.pair (.int .i64) (.int .i64))))))) (.pair .bool (.pair (.sl 3 (.int .i64)) (.sl 3 (.int .i64)))))) (g_VZ79_0 a0)],[])
 | _ => none
theorem vZ79 (a0:tL0):collapseH .std EZ79 OZ79_1 (execFn EZ79 Tryz.f35 msZ79 [.val false [.sl .any 129 (.pair (.int .i64) (.pair (.pair (.int .i64) (.pair (.int .i64) (.pair (.int .i64) (.pair (.int .i64) (.pair (.int .i64) (.pair (.int .i64) (.int .i64))))))) (.pair .bool (.pair (.sl 3 (.int .i64)) (.sl 3 (.int .i64)))))) a0]]) = some ((g_AZ79 a0),.val false [.own .any true 73 (.pair (.int .i64) (.pair (.pair (.int .i64) (.pair (.int .i64) (.pair (.int .i64) (.pair (.int .i64) (.pair (.int .i64) (.pair (.int .i64) (.int .i64))))))) (.pair .bool (.pair (.sl 3 (.int .i64)) (.sl 3 (.int .i64)))))) (g_VZ79_0 a0)],[]) := by kernel_rfl
theorem sZ79:Sound Tryz.prog 35 msZ79 FZ79 := by
 refine fn_gen goodZ79 (by kernel_rfl) .std (fn := Tryz.f35) (c := (Tryz.f35.body.getD .skip)) (o := OZ79_1) (k := 1) (by kernel_rfl) (by kernel_rfl) (by kernel_rfl) (by kernel_rfl) (by decide) kZ79_1 ?_
 intro ys r outs h
 unfold FZ79 at h
 split at h
 ·exact (vZ79 _).trans h
 ·cases h
noncomputable def EZ50:Env where
 tt := mkTI Tryz.prog
 fn := fun f => match f with
  | 136 => some (msw_toIntS,FSem.wk msw_toIntS Fw_toIntS)
  | _ => none
 bxf := fun _ => none
 mv := []
 keep := fun _ => []
 keepB := fun _ => []
 keepX := fun _ => []
 keepXB := fun _ => []
theorem goodFZ50:∀ f ms F,EZ50.fn f = some (ms,F) → Sound Tryz.prog f ms F := fun f ms F h => by
 unfold EZ50 at h
 dsimp only at h
 split at h
 ·exact gF sw_toIntS h
 ·cases h
theorem goodZ50:Good Tryz.prog EZ50 := ⟨rfl,goodFZ50,fun f ms F h => by cases h⟩
noncomputable def OZ50_0:Orc := fun _ _ => none
noncomputable def msZ50:List PM := [.rd]
noncomputable def lsZ50:List (Nat×Code) := loopsAll 0 (Tryz.f175.body.getD .skip)
theorem kZ50_0:OrcOk EZ50 OZ50_0 lsZ50 0 := orcOk_none
noncomputable def g_AZ50 (a0:ByteArray) (a1:Bool) (a2:List Int):Bool := g_Aw_toIntS a2
noncomputable def FZ50:FSem := fun ys => match ys with
 | [.val true [.str a0,.bool a1,.sl .any 3 (.int .i64) a2]] => some ((g_AZ50 a0 a1 a2),.val true [.str a0,.bool a1,.own .any true 3 (.int .i64) (g_Vw_toIntS_0 a2)],[])
 | _ => none
theorem vZ50 (a0:ByteArray) (a1:Bool) (a2:List Int):collapseH .std EZ50 OZ50_0 (execFn EZ50 Tryz.f175 msZ50 [.val true [.str a0,.bool a1,.sl .any 3 (.int .i64) a2]]) = some ((g_AZ50 a0 a1 a2),.val true [.str a0,.bool a1,.own .any true 3 (.int .i64) (g_Vw_toIntS_0 a2)],[]) := by kernel_rfl
theorem sZ50:Sound Tryz.prog 175 msZ50 FZ50 := by
 refine fn_gen goodZ50 (by kernel_rfl) .std (fn := Tryz.f175) (c := (Tryz.f175.body.getD .skip)) (o := OZ50_0) (k := 0) (by kernel_rfl) (by kernel_rfl) (by kernel_rfl) (by kernel_rfl) (by decide) kZ50_0 ?_
 intro ys r outs h
 unfold FZ50 at h
 split at h
 ·exact (vZ50 _ _ _).trans h
 ·cases h
noncomputable def EZ39:Env where
 tt := mkTI Tryz.prog
 fn := fun f => match f with
  | 175 => some (msZ50,FSem.wk msZ50 FZ50)
  | _ => none
 bxf := fun _ => none
 mv := []
 keep := fun b => match b with
  | 0 => [(0,false),(3,false),(4,false)]
  | _ => []
 keepB := fun b => match b with
  | 0 => []
  | _ => []
 keepX := fun b => match b with
  | 0 => [(3,false)]
  | _ => []
 keepXB := fun b => match b with
  | 0 => []
  | _ => []
theorem goodFZ39:∀ f ms F,EZ39.fn f = some (ms,F) → Sound Tryz.prog f ms F := fun f ms F h => by
 unfold EZ39 at h
 dsimp only at h
 split at h
 ·exact gF sZ50 h
 ·cases h
theorem goodZ39:Good Tryz.prog EZ39 := ⟨rfl,goodFZ39,fun f ms F h => by cases h⟩
noncomputable def OZ39_0:Orc := fun _ _ => none
noncomputable def msZ39:List PM := [.rd]
noncomputable def lsZ39:List (Nat×Code) := loopsAll 0 (Tryz.f159.body.getD .skip)
noncomputable def cZ39_0:Code := (loopOf 0 (Tryz.f159.body.getD .skip)).getD .skip
theorem lseqZ39:lsZ39 = [(0,cZ39_0)] := by kernel_rfl
theorem mZ39_0:∀ p,p ∈ lsZ39 → p.1 = 0 → p.2 = cZ39_0 := by
 intro p hp
 rw [lseqZ39] at hp
 simp only [List.mem_cons,List.not_mem_nil,or_false] at hp
 subst hp; simp
theorem kZ39_0:OrcOk EZ39 OZ39_0 lsZ39 0 := orcOk_none
noncomputable def hZ39_0 (y0:tL3) (y1:tL3) (y2:Int):List (Pl×LV) := [(.T 0,.t (.val false [.sl .any 196 (.pair .str (.pair .bool (.sl 3 (.int .i64)))) y0])),(.T 3,.t (.val false [.row 3 0 0])),(.R 3 0,.r 0 (some ⟨false,.non,true,155,(.pair .str (.pair .bool (.sl 3 (.int .i64)))),y1⟩)),(.T 4,.t (.val false [.int .i64 y2]))]
noncomputable def g_SZ39_0 (y0:tL3):(tL3×Int) → RT (tL3×Int) ((tL3))
 | (y1,y2) => .br (true) (.br (decide (y2 < (y0.length:Int))) (.br (decide (0 ≤ y2 ∧ y2 < (y0.length:Int))) (.br (g_AZ50 (at_ yT3 y0 (Int.toNat y2)).1 (at_ yT3 y0 (Int.toNat y2)).2.1 (at_ yT3 y0 (Int.toNat y2)).2.2) (.br (decide (0 ≤ y2 ∧ y2 < (y1.length:Int))) (.br (decide (Int.toNat y2 < List.length y1)) (.br (true) (.go ((List.set y1 (Int.toNat y2) ((at_ yT3 y0 (Int.toNat y2)).1,(at_ yT3 y0 (Int.toNat y2)).2.1,g_Vw_toIntS_0 (at_ yT3 y0 (Int.toNat y2)).2.2),IntKind.i64.wrap (y2 + 1)))) .bad) .bad) .bad) .bad) .bad) (.out (y1))) .bad
noncomputable def g_LZ39_0 (y0:tL3) (x:tL3×Int):Option ((tL3)) := loopO (g_SZ39_0 y0) x
noncomputable def xZ39_0 (y0:tL3):((tL3)) → Ex×List (Pl×LV) := fun r => (.exit 0,[(.T 3,.t (.val false [.row 3 0 0])),(.R 3 0,.r 0 (some ⟨false,.non,true,155,(.pair .str (.pair .bool (.sl 3 (.int .i64)))),r⟩))])
noncomputable def OZ39_1:Orc := fun b h => match b,h with
 | 0,[(.T 0,.t (.val false [.sl .any 196 (.pair .str (.pair .bool (.sl 3 (.int .i64)))) y0])),(.T 3,.t (.val false [.row 3 0 0])),(.R 3 0,.r 0 (some ⟨false,.non,true,155,(.pair .str (.pair .bool (.sl 3 (.int .i64)))),y1⟩)),(.T 4,.t (.val false [.int .i64 y2]))] => some (okO (g_LZ39_0 y0 (y1,y2)),(.leaf (.exit 0) [(.T 3,.t (.val false [.row 3 0 0])),(.R 3 0,.r 0 (some ⟨false,.non,true,155,(.pair .str (.pair .bool (.sl 3 (.int .i64)))),(valO (g_LZ39_0 y0 (y1,y2)))⟩))]))
 | b,h => OZ39_0 b h
theorem bZ39_0 (y0:tL3) (y1:tL3) (y2:Int):Tr.bt EZ39 OZ39_0 (exec EZ39 0 cZ39_0 (St.of (hZ39_0 y0 y1 y2)) (leafRd EZ39 0)) = (g_SZ39_0 y0 (y1,y2)).bt (fun ((y1,y2):tL3×Int) => (hZ39_0 y0 y1 y2)) (xZ39_0 y0) := by kernel_rfl
theorem kZ39_1:OrcOk EZ39 OZ39_1 lsZ39 1 := orc_add kZ39_0 (fun n p hp h ex h' ho => by
 obtain ⟨b,c⟩ := p
 obtain ⟨xt,h1,h2⟩ := ho
 have h1:OZ39_1 b h = some (true,xt) := h1
 unfold OZ39_1 at h1
 split at h1
 ·injection h1 with h1
  injection h1 with e1 e2
  subst e2
  have hc:c = cZ39_0 := mZ39_0 _ hp rfl
  subst hc
  right
  rename_i y0 y1 y2
  have key := LT_step kZ39_0 hp (fun q hq => loopsAll_in _ _ _ _ hp hq) (fun ((y1,y2):tL3×Int) => (hZ39_0 y0 y1 y2)) (xZ39_0 y0) (g_SZ39_0 y0) (fun x => by first | exact bZ39_0 y0 x.1 x.2) n (x := (y1,y2)) (okO_some e1)
  have hx:∀ r,XT.sel (.leaf (.exit 0) [(.T 3,.t (.val false [.row 3 0 0])),(.R 3 0,.r 0 (some ⟨false,.non,true,155,(.pair .str (.pair .bool (.sl 3 (.int .i64)))),r⟩))]) = xZ39_0 y0 r := fun r => by first | rfl | rcases r with r | r <;> rfl | rcases r with r | r | r <;> rfl | rcases r with r | r | r | r <;> rfl
  have h3 := (hx (valO (g_LZ39_0 y0 (y1,y2)))).symm.trans h2
  have e3 := congrArg Prod.fst h3
  have e4 := congrArg Prod.snd h3
  simp only at e3 e4
  rw [← e3,← e4]
  exact key
 ·exact .inl ⟨xt,h1,h2⟩)
noncomputable def g_AZ39 (a0:tL3):Bool := decide ((a0.length:Int) = (a0.length:Int) ∧ 0 ≤ (a0.length:Int) ∧ (a0.length:Int) ≤ 9223372036854775807 ∧ 48 * (a0.length:Int) ≤ 281474976710656)&&okO (g_LZ39_0 a0 (List.replicate (Int.toNat (a0.length:Int)) (lit [],false,[]),(0:Int)))
noncomputable def g_VZ39_0 (a0:tL3):tL3 := valO (g_LZ39_0 a0 (List.replicate (Int.toNat (a0.length:Int)) (lit [],false,[]),(0:Int)))
noncomputable def FZ39:FSem := fun ys => match ys with
 | [.val false [.sl .any 196 (.pair .str (.pair .bool (.sl 3 (.int .i64)))) a0]] => some ((g_AZ39 a0),.val false [.own .any true 155 (.pair .str (.pair .bool (.sl 3 (.int .i64)))) (g_VZ39_0 a0)],[])
 | _ => none
theorem vZ39 (a0:tL3):collapseH .std EZ39 OZ39_1 (execFn EZ39 Tryz.f159 msZ39 [.val false [.sl .any 196 (.pair .str (.pair .bool (.sl 3 (.int .i64)))) a0]]) = some ((g_AZ39 a0),.val false [.own .any true 155 (.pair .str (.pair .bool (.sl 3 (.int .i64)))) (g_VZ39_0 a0)],[]) := by kernel_rfl
theorem sZ39:Sound Tryz.prog 159 msZ39 FZ39 := by
 refine fn_gen goodZ39 (by kernel_rfl) .std (fn := Tryz.f159) (c := (Tryz.f159.body.getD .skip)) (o := OZ39_1) (k := 1) (by kernel_rfl) (by kernel_rfl) (by kernel_rfl) (by kernel_rfl) (by decide) kZ39_1 ?_
 intro ys r outs h
 unfold FZ39 at h
 split at h
 ·exact (vZ39 _).trans h
 ·cases h
noncomputable def EZ61:Env where
 tt := mkTI Tryz.prog
 fn := fun _ => none
 bxf := fun _ => none
 mv := []
 keep := fun b => match b with
  | 0 => [(0,false),(3,false),(4,false)]
  | _ => []
 keepB := fun b => match b with
  | 0 => []
  | _ => []
 keepX := fun b => match b with
  | 0 => [(3,false)]
  | _ => []
 keepXB := fun b => match b with
  | 0 => []
  | _ => []
theorem goodFZ61:∀ f ms F,EZ61.fn f = some (ms,F) → Sound Tryz.prog f ms F := fun f ms F h => by cases h
theorem goodZ61:Good Tryz.prog EZ61 := ⟨rfl,goodFZ61,fun f ms F h => by cases h⟩
noncomputable def OZ61_0:Orc := fun _ _ => none
noncomputable def msZ61:List PM := [.rd]
noncomputable def lsZ61:List (Nat×Code) := loopsAll 0 (Tryz.f158.body.getD .skip)
noncomputable def cZ61_0:Code := (loopOf 0 (Tryz.f158.body.getD .skip)).getD .skip
theorem lseqZ61:lsZ61 = [(0,cZ61_0)] := by kernel_rfl
theorem mZ61_0:∀ p,p ∈ lsZ61 → p.1 = 0 → p.2 = cZ61_0 := by
 intro p hp
 rw [lseqZ61] at hp
 simp only [List.mem_cons,List.not_mem_nil,or_false] at hp
 subst hp; simp
theorem kZ61_0:OrcOk EZ61 OZ61_0 lsZ61 0 := orcOk_none
noncomputable def hZ61_0 (y0:List ByteArray) (y1:List ByteArray) (y2:Int):List (Pl×LV) := [(.T 0,.t (.val false [.sl .any 9 .str y0])),(.T 3,.t (.val false [.row 3 0 0])),(.R 3 0,.r 0 (some ⟨false,.non,true,9,.str,y1⟩)),(.T 4,.t (.val false [.int .i64 y2]))]
noncomputable def g_SZ61_0 (y0:List ByteArray):((List ByteArray)×Int) → RT ((List ByteArray)×Int) (((List ByteArray)))
 | (y1,y2) => .br (true) (.br (decide (y2 < (y0.length:Int))) (.br (decide (0 ≤ y2 ∧ y2 < (y0.length:Int))) (.br (decide (0 ≤ y2 ∧ y2 < (y1.length:Int))) (.br (decide (Int.toNat y2 < List.length y1)) (.br (true) (.go ((List.set y1 (Int.toNat y2) (at_ Ty.str y0 (Int.toNat y2)),IntKind.i64.wrap (y2 + 1)))) .bad) .bad) .bad) .bad) (.out (y1))) .bad
noncomputable def g_LZ61_0 (y0:List ByteArray) (x:(List ByteArray)×Int):Option (((List ByteArray))) := loopO (g_SZ61_0 y0) x
noncomputable def xZ61_0 (y0:List ByteArray):(((List ByteArray))) → Ex×List (Pl×LV) := fun r => (.exit 0,[(.T 3,.t (.val false [.row 3 0 0])),(.R 3 0,.r 0 (some ⟨false,.non,true,9,.str,r⟩))])
noncomputable def OZ61_1:Orc := fun b h => match b,h with
 | 0,[(.T 0,.t (.val false [.sl .any 9 .str y0])),(.T 3,.t (.val false [.row 3 0 0])),(.R 3 0,.r 0 (some ⟨false,.non,true,9,.str,y1⟩)),(.T 4,.t (.val false [.int .i64 y2]))] => some (okO (g_LZ61_0 y0 (y1,y2)),(.leaf (.exit 0) [(.T 3,.t (.val false [.row 3 0 0])),(.R 3 0,.r 0 (some ⟨false,.non,true,9,.str,(valO (g_LZ61_0 y0 (y1,y2)))⟩))]))
 | b,h => OZ61_0 b h
theorem bZ61_0 (y0:List ByteArray) (y1:List ByteArray) (y2:Int):Tr.bt EZ61 OZ61_0 (exec EZ61 0 cZ61_0 (St.of (hZ61_0 y0 y1 y2)) (leafRd EZ61 0)) = (g_SZ61_0 y0 (y1,y2)).bt (fun ((y1,y2):(List ByteArray)×Int) => (hZ61_0 y0 y1 y2)) (xZ61_0 y0) := by kernel_rfl
theorem kZ61_1:OrcOk EZ61 OZ61_1 lsZ61 1 := orc_add kZ61_0 (fun n p hp h ex h' ho => by
 obtain ⟨b,c⟩ := p
 obtain ⟨xt,h1,h2⟩ := ho
 have h1:OZ61_1 b h = some (true,xt) := h1
 unfold OZ61_1 at h1
 split at h1
 ·injection h1 with h1
  injection h1 with e1 e2
  subst e2
  have hc:c = cZ61_0 := mZ61_0 _ hp rfl
  subst hc
  right
  rename_i y0 y1 y2
  have key := LT_step kZ61_0 hp (fun q hq => loopsAll_in _ _ _ _ hp hq) (fun ((y1,y2):(List ByteArray)×Int) => (hZ61_0 y0 y1 y2)) (xZ61_0 y0) (g_SZ61_0 y0) (fun x => by first | exact bZ61_0 y0 x.1 x.2) n (x := (y1,y2)) (okO_some e1)
  have hx:∀ r,XT.sel (.leaf (.exit 0) [(.T 3,.t (.val false [.row 3 0 0])),(.R 3 0,.r 0 (some ⟨false,.non,true,9,.str,r⟩))]) = xZ61_0 y0 r := fun r => by first | rfl | rcases r with r | r <;> rfl | rcases r with r | r | r <;> rfl | rcases r with r | r | r | r <;> rfl
  have h3 := (hx (valO (g_LZ61_0 y0 (y1,y2)))).symm.trans h2
  have e3 := congrArg Prod.fst h3
  have e4 := congrArg Prod.snd h3
  simp only at e3 e4
  rw [← e3,← e4]
  exact key
 ·exact .inl ⟨xt,h1,h2⟩)
noncomputable def g_AZ61 (a0:List ByteArray):Bool := decide ((a0.length:Int) = (a0.length:Int) ∧ 0 ≤ (a0.length:Int) ∧ (a0.length:Int) ≤ 9223372036854775807 ∧ 16 * (a0.length:Int) ≤ 281474976710656)&&okO (g_LZ61_0 a0 (List.replicate (Int.toNat (a0.length:Int)) (lit []),(0:Int)))
noncomputable def g_VZ61_0 (a0:List ByteArray):List ByteArray := valO (g_LZ61_0 a0 (List.replicate (Int.toNat (a0.length:Int)) (lit []),(0:Int)))
noncomputable def FZ61:FSem := fun ys => match ys with
 | [.val false [.sl .any 9 .str a0]] => some ((g_AZ61 a0),.val false [.own .any true 9 .str (g_VZ61_0 a0)],[])
 | _ => none
theorem vZ61 (a0:List ByteArray):collapseH .std EZ61 OZ61_1 (execFn EZ61 Tryz.f158 msZ61 [.val false [.sl .any 9 .str a0]]) = some ((g_AZ61 a0),.val false [.own .any true 9 .str (g_VZ61_0 a0)],[]) := by kernel_rfl
theorem sZ61:Sound Tryz.prog 158 msZ61 FZ61 := by
 refine fn_gen goodZ61 (by kernel_rfl) .std (fn := Tryz.f158) (c := (Tryz.f158.body.getD .skip)) (o := OZ61_1) (k := 1) (by kernel_rfl) (by kernel_rfl) (by kernel_rfl) (by kernel_rfl) (by decide) kZ61_1 ?_
 intro ys r outs h
 unfold FZ61 at h
 split at h
 ·exact (vZ61 _).trans h
 ·cases h
noncomputable def EZ62:Env where
 tt := mkTI Tryz.prog
 fn := fun f => match f with
  | 158 => some (msZ61,FSem.wk msZ61 FZ61)
  | 159 => some (msZ39,FSem.wk msZ39 FZ39)
  | _ => none
 bxf := fun _ => none
 mv := []
 keep := fun _ => []
 keepB := fun _ => []
 keepX := fun _ => []
 keepXB := fun _ => []
theorem goodFZ62:∀ f ms F,EZ62.fn f = some (ms,F) → Sound Tryz.prog f ms F := fun f ms F h => by
 unfold EZ62 at h
 dsimp only at h
 split at h
 ·exact gF sZ61 h
 ·exact gF sZ39 h
 ·cases h
theorem goodZ62:Good Tryz.prog EZ62 := ⟨rfl,goodFZ62,fun f ms F h => by cases h⟩
noncomputable def OZ62_0:Orc := fun _ _ => none
noncomputable def msZ62:List PM := [.rd]
noncomputable def lsZ62:List (Nat×Code) := loopsAll 0 (Tryz.f135.body.getD .skip)
theorem kZ62_0:OrcOk EZ62 OZ62_0 lsZ62 0 := orcOk_none
noncomputable def g_AZ62 (a0:Int) (a1:Int) (a2:List ByteArray) (a3:tL3):Bool := g_AZ61 a2&&g_AZ39 a3
noncomputable def FZ62:FSem := fun ys => match ys with
 | [.val true [.int .i64 a0,.int .i64 a1,.sl .any 9 .str a2,.sl .any 196 (.pair .str (.pair .bool (.sl 3 (.int .i64)))) a3]] => some ((g_AZ62 a0 a1 a2 a3),.val true [.int .i64 a0,.int .i64 a1,.own .any true 9 .str (g_VZ61_0 a2),.own .any true 155 (.pair .str (.pair .bool (.sl 3 (.int .i64)))) (g_VZ39_0 a3)],[])
 | _ => none
theorem vZ62 (a0:Int) (a1:Int) (a2:List ByteArray) (a3:tL3):collapseH .std EZ62 OZ62_0 (execFn EZ62 Tryz.f135 msZ62 [.val true [.int .i64 a0,.int .i64 a1,.sl .any 9 .str a2,.sl .any 196 (.pair .str (.pair .bool (.sl 3 (.int .i64)))) a3]]) = some ((g_AZ62 a0 a1 a2 a3),.val true [.int .i64 a0,.int .i64 a1,.own .any true 9 .str (g_VZ61_0 a2),.own .any true 155 (.pair .str (.pair .bool (.sl 3 (.int .i64)))) (g_VZ39_0 a3)],[]) := by kernel_rfl
theorem sZ62:Sound Tryz.prog 135 msZ62 FZ62 := by
 refine fn_gen goodZ62 (by kernel_rfl) .std (fn := Tryz.f135) (c := (Tryz.f135.body.getD .skip)) (o := OZ62_0) (k := 0) (by kernel_rfl) (by kernel_rfl) (by kernel_rfl) (by kernel_rfl) (by decide) kZ62_0 ?_
 intro ys r outs h
 unfold FZ62 at h
 split at h
 ·exact (vZ62 _ _ _ _).trans h
 ·cases h
noncomputable def EZ51:Env where
 tt := mkTI Tryz.prog
 fn := fun f => match f with
  | 135 => some (msZ62,FSem.wk msZ62 FZ62)
  | _ => none
 bxf := fun _ => none
 mv := []
 keep := fun b => match b with
  | 0 => [(0,false),(3,false),(4,false)]
  | _ => []
 keepB := fun b => match b with
  | 0 => []
  | _ => []
 keepX := fun b => match b with
  | 0 => [(3,false)]
  | _ => []
 keepXB := fun b => match b with
  | 0 => []
  | _ => []
theorem goodFZ51:∀ f ms F,EZ51.fn f = some (ms,F) → Sound Tryz.prog f ms F := fun f ms F h => by
 unfold EZ51 at h
 dsimp only at h
 split at h
 ·exact gF sZ62 h
 ·cases h
theorem goodZ51:Good Tryz.prog EZ51 := ⟨rfl,goodFZ51,fun f ms F h => by cases h⟩
noncomputable def OZ51_0:Orc := fun _ _ => none
noncomputable def msZ51:List PM := [.rd]
noncomputable def lsZ51:List (Nat×Code) := loopsAll 0 (Tryz.f93.body.getD .skip)
noncomputable def cZ51_0:Code := (loopOf 0 (Tryz.f93.body.getD .skip)).getD .skip
theorem lseqZ51:lsZ51 = [(0,cZ51_0)] := by kernel_rfl
theorem mZ51_0:∀ p,p ∈ lsZ51 → p.1 = 0 → p.2 = cZ51_0 := by
 intro p hp
 rw [lseqZ51] at hp
 simp only [List.mem_cons,List.not_mem_nil,or_false] at hp
 subst hp; simp
theorem kZ51_0:OrcOk EZ51 OZ51_0 lsZ51 0 := orcOk_none
noncomputable def hZ51_0 (y0:tL1) (y1:tL1) (y2:Int):List (Pl×LV) := [(.T 0,.t (.val false [.sl .any 169 (.pair (.int .i64) (.pair (.int .i64) (.pair (.sl 9 .str) (.sl 196 (.pair .str (.pair .bool (.sl 3 (.int .i64)))))))) y0])),(.T 3,.t (.val false [.row 3 0 0])),(.R 3 0,.r 0 (some ⟨false,.non,true,92,(.pair (.int .i64) (.pair (.int .i64) (.pair (.sl 9 .str) (.sl 155 (.pair .str (.pair .bool (.sl 3 (.int .i64)))))))),y1⟩)),(.T 4,.t (.val false [.int .i64 y2]))]
noncomputable def g_SZ51_0 (y0:tL1):(tL1×Int) → RT (tL1×Int) ((tL1))
 | (y1,y2) => .br (true) (.br (decide (y2 < (y0.length:Int))) (.br (decide (0 ≤ y2 ∧ y2 < (y0.length:Int))) (.br (g_AZ62 (at_ yT4 y0 (Int.toNat y2)).1 (at_ yT4 y0 (Int.toNat y2)).2.1 (at_ yT4 y0 (Int.toNat y2)).2.2.1 (at_ yT4 y0 (Int.toNat y2)).2.2.2) (.br (decide (0 ≤ y2 ∧ y2 < (y1.length:Int))) (.br (decide (Int.toNat y2 < List.length y1)) (.br (true) (.go ((List.set y1 (Int.toNat y2) ((at_ yT4 y0 (Int.toNat y2)).1,(at_ yT4 y0 (Int.toNat y2)).2.1,g_VZ61_0 (at_ yT4 y0 (Int.toNat y2)).2.2.1,g_VZ39_0 (at_ yT4 y0 (Int.toNat y2)).2.2.2),IntKind.i64.wrap (y2 + 1)))) .bad) .bad) .bad) .bad) .bad) (.out (y1))) .bad
noncomputable def g_LZ51_0 (y0:tL1) (x:tL1×Int):Option ((tL1)) := loopO (g_SZ51_0 y0) x
noncomputable def xZ51_0 (y0:tL1):((tL1)) → Ex×List (Pl×LV) := fun r => (.exit 0,[(.T 3,.t (.val false [.row 3 0 0])),(.R 3 0,.r 0 (some ⟨false,.non,true,92,(.pair (.int .i64) (.pair (.int .i64) (.pair (.sl 9 .str) (.sl 155 (.pair .str (.pair .bool (.sl 3 (.int .i64)))))))),r⟩))])
noncomputable def OZ51_1:Orc := fun b h => match b,h with
 | 0,[(.T 0,.t (.val false [.sl .any 169 (.pair (.int .i64) (.pair (.int .i64) (.pair (.sl 9 .str) (.sl 196 (.pair .str (.pair .bool (.sl 3 (.int .i64)))))))) y0])),(.T 3,.t (.val false [.row 3 0 0])),(.R 3 0,.r 0 (some ⟨false,.non,true,92,(.pair (.int .i64) (.pair (.int .i64) (.pair (.sl 9 .str) (.sl 155 (.pair .str (.pair .bool (.sl 3 (.int .i64)))))))),y1⟩)),(.T 4,.t (.val false [.int .i64 y2]))] => some (okO (g_LZ51_0 y0 (y1,y2)),(.leaf (.exit 0) [(.T 3,.t (.val false [.row 3 0 0])),(.R 3 0,.r 0 (some ⟨false,.non,true,92,(.pair (.int .i64) (.pair (.int .i64) (.pair (.sl 9 .str) (.sl 155 (.pair .str (.pair .bool (.sl 3 (.int .i64)))))))),(valO (g_LZ51_0 y0 (y1,y2)))⟩))]))
 | b,h => OZ51_0 b h
theorem bZ51_0 (y0:tL1) (y1:tL1) (y2:Int):Tr.bt EZ51 OZ51_0 (exec EZ51 0 cZ51_0 (St.of (hZ51_0 y0 y1 y2)) (leafRd EZ51 0)) = (g_SZ51_0 y0 (y1,y2)).bt (fun ((y1,y2):tL1×Int) => (hZ51_0 y0 y1 y2)) (xZ51_0 y0) := by kernel_rfl
theorem kZ51_1:OrcOk EZ51 OZ51_1 lsZ51 1 := orc_add kZ51_0 (fun n p hp h ex h' ho => by
 obtain ⟨b,c⟩ := p
 obtain ⟨xt,h1,h2⟩ := ho
 have h1:OZ51_1 b h = some (true,xt) := h1
 unfold OZ51_1 at h1
 split at h1
 ·injection h1 with h1
  injection h1 with e1 e2
  subst e2
  have hc:c = cZ51_0 := mZ51_0 _ hp rfl
  subst hc
  right
  rename_i y0 y1 y2
  have key := LT_step kZ51_0 hp (fun q hq => loopsAll_in _ _ _ _ hp hq) (fun ((y1,y2):tL1×Int) => (hZ51_0 y0 y1 y2)) (xZ51_0 y0) (g_SZ51_0 y0) (fun x => by first | exact bZ51_0 y0 x.1 x.2) n (x := (y1,y2)) (okO_some e1)
  have hx:∀ r,XT.sel (.leaf (.exit 0) [(.T 3,.t (.val false [.row 3 0 0])),(.R 3 0,.r 0 (some ⟨false,.non,true,92,(.pair (.int .i64) (.pair (.int .i64) (.pair (.sl 9 .str) (.sl 155 (.pair .str (.pair .bool (.sl 3 (.int .i64)))))))),r⟩))]) = xZ51_0 y0 r := fun r => by first | rfl | rcases r with r | r <;> rfl | rcases r with r | r | r <;> rfl | rcases r with r | r | r | r <;> rfl
  have h3 := (hx (valO (g_LZ51_0 y0 (y1,y2)))).symm.trans h2
  have e3 := congrArg Prod.fst h3
  have e4 := congrArg Prod.snd h3
  simp only at e3 e4
  rw [← e3,← e4]
  exact key
 ·exact .inl ⟨xt,h1,h2⟩)
noncomputable def g_AZ51 (a0:tL1):Bool := decide ((a0.length:Int) = (a0.length:Int) ∧ 0 ≤ (a0.length:Int) ∧ (a0.length:Int) ≤ 9223372036854775807 ∧ 64 * (a0.length:Int) ≤ 281474976710656)&&okO (g_LZ51_0 a0 (List.replicate (Int.toNat (a0.length:Int)) ((0:Int),(0:Int),[],[]),(0:Int)))
noncomputable def g_VZ51_0 (a0:tL1):tL1 := valO (g_LZ51_0 a0 (List.replicate (Int.toNat (a0.length:Int)) ((0:Int),(0:Int),[],[]),(0:Int)))
noncomputable def FZ51:FSem := fun ys => match ys with
 | [.val false [.sl .any 169 (.pair (.int .i64) (.pair (.int .i64) (.pair (.sl 9 .str) (.sl 196 (.pair .str (.pair .bool (.sl 3 (.int .i64)))))))) a0]] => some ((g_AZ51 a0),.val false [.own .any true 92 (.pair (.int .i64) (.pair (.int .i64) (.pair (.sl 9 .str) (.sl 155 (.pair .str (.pair .bool (.sl 3 (.int .i64)))))))) (g_VZ51_0 a0)],[])
 | _ => none
theorem vZ51 (a0:tL1):collapseH .std EZ51 OZ51_1 (execFn EZ51 Tryz.f93 msZ51 [.val false [.sl .any 169 (.pair (.int .i64) (.pair (.int .i64) (.pair (.sl 9 .str) (.sl 196 (.pair .str (.pair .bool (.sl 3 (.int .i64)))))))) a0]]) = some ((g_AZ51 a0),.val false [.own .any true 92 (.pair (.int .i64) (.pair (.int .i64) (.pair (.sl 9 .str) (.sl 155 (.pair .str (.pair .bool (.sl 3 (.int .i64)))))))) (g_VZ51_0 a0)],[]) := by kernel_rfl
theorem sZ51:Sound Tryz.prog 93 msZ51 FZ51 := by
 refine fn_gen goodZ51 (by kernel_rfl) .std (fn := Tryz.f93) (c := (Tryz.f93.body.getD .skip)) (o := OZ51_1) (k := 1) (by kernel_rfl) (by kernel_rfl) (by kernel_rfl) (by kernel_rfl) (by decide) kZ51_1 ?_
 intro ys r outs h
 unfold FZ51 at h
 split at h
 ·exact (vZ51 _).trans h
 ·cases h
noncomputable def EZ63:Env where
 tt := mkTI Tryz.prog
 fn := fun f => match f with
  | 93 => some (msZ51,FSem.wk msZ51 FZ51)
  | _ => none
 bxf := fun _ => none
 mv := []
 keep := fun _ => []
 keepB := fun _ => []
 keepX := fun _ => []
 keepXB := fun _ => []
theorem goodFZ63:∀ f ms F,EZ63.fn f = some (ms,F) → Sound Tryz.prog f ms F := fun f ms F h => by
 unfold EZ63 at h
 dsimp only at h
 split at h
 ·exact gF sZ51 h
 ·cases h
theorem goodZ63:Good Tryz.prog EZ63 := ⟨rfl,goodFZ63,fun f ms F h => by cases h⟩
noncomputable def OZ63_0:Orc := fun _ _ => none
noncomputable def msZ63:List PM := [.rd]
noncomputable def lsZ63:List (Nat×Code) := loopsAll 0 (Tryz.f34.body.getD .skip)
theorem kZ63_0:OrcOk EZ63 OZ63_0 lsZ63 0 := orcOk_none
noncomputable def g_AZ63 (a0:tL1) (a1:Int):Bool := g_AZ51 a0
noncomputable def FZ63:FSem := fun ys => match ys with
 | [.val true [.sl .any 169 (.pair (.int .i64) (.pair (.int .i64) (.pair (.sl 9 .str) (.sl 196 (.pair .str (.pair .bool (.sl 3 (.int .i64)))))))) a0,.int .i64 a1]] => some ((g_AZ63 a0 a1),.val true [.own .any true 92 (.pair (.int .i64) (.pair (.int .i64) (.pair (.sl 9 .str) (.sl 155 (.pair .str (.pair .bool (.sl 3 (.int .i64)))))))) (g_VZ51_0 a0),.int .i64 a1],[])
 | _ => none
theorem vZ63 (a0:tL1) (a1:Int):collapseH .std EZ63 OZ63_0 (execFn EZ63 Tryz.f34 msZ63 [.val true [.sl .any 169 (.pair (.int .i64) (.pair (.int .i64) (.pair (.sl 9 .str) (.sl 196 (.pair .str (.pair .bool (.sl 3 (.int .i64)))))))) a0,.int .i64 a1]]) = some ((g_AZ63 a0 a1),.val true [.own .any true 92 (.pair (.int .i64) (.pair (.int .i64) (.pair (.sl 9 .str) (.sl 155 (.pair .str (.pair .bool (.sl 3 (.int .i64)))))))) (g_VZ51_0 a0),.int .i64 a1],[]) := by kernel_rfl
theorem sZ63:Sound Tryz.prog 34 msZ63 FZ63 := by
 refine fn_gen goodZ63 (by kernel_rfl) .std (fn := Tryz.f34) (c := (Tryz.f34.body.getD .skip)) (o := OZ63_0) (k := 0) (by kernel_rfl) (by kernel_rfl) (by kernel_rfl) (by kernel_rfl) (by decide) kZ63_0 ?_
 intro ys r outs h
 unfold FZ63 at h
 split at h
 ·exact (vZ63 _ _).trans h
 ·cases h
noncomputable def EZ52:Env where
 tt := mkTI Tryz.prog
 fn := fun f => match f with
  | 34 => some (msZ63,FSem.wk msZ63 FZ63)
  | 35 => some (msZ79,FSem.wk msZ79 FZ79)
  | _ => none
 bxf := fun _ => none
 mv := []
 keep := fun _ => []
 keepB := fun _ => []
 keepX := fun _ => []
 keepXB := fun _ => []
theorem goodFZ52:∀ f ms F,EZ52.fn f = some (ms,F) → Sound Tryz.prog f ms F := fun f ms F h => by
 unfold EZ52 at h
 dsimp only at h
 split at h
 ·exact gF sZ63 h
 ·exact gF sZ79 h
 ·cases h
theorem goodZ52:Good Tryz.prog EZ52 := ⟨rfl,goodFZ52,fun f ms F h => by cases h⟩
noncomputable def OZ52_0:Orc := fun _ _ => none
noncomputable def msZ52:List PM := [.rd]
noncomputable def lsZ52:List (Nat×Code) := loopsAll 0 (Tryz.f9.body.getD .skip)
theorem kZ52_0:OrcOk EZ52 OZ52_0 lsZ52 0 := orcOk_none
noncomputable def g_AZ52 (a0:tL1) (a1:Int) (a2:tL0):Bool := g_AZ63 a0 a1&&g_AZ79 a2
noncomputable def FZ52:FSem := fun ys => match ys with
 | [.val true [.sl .any 169 (.pair (.int .i64) (.pair (.int .i64) (.pair (.sl 9 .str) (.sl 196 (.pair .str (.pair .bool (.sl 3 (.int .i64)))))))) a0,.int .i64 a1,.sl .any 129 (.pair (.int .i64) (.pair (.pair (.int .i64) (.pair (.int .i64) (.pair (.int .i64) (.pair (.int .i64) (.pair (.int .i64) (.pair (.int .i64) (.int .i64))))))) (.pair .bool (.pair (.sl 3 (.int .i64)) (.sl 3 (.int .i64)))))) a2]] => some ((g_AZ52 a0 a1 a2),.val true [.own .any true 92 (.pair (.int .i64) (.pair (.int .i64) (.pair (.sl 9 .str) (.sl 155 (.pair .str (.pair .bool (.sl 3 (.int .i64)))))))) (g_VZ51_0 a0),.int .i64 a1,.own .any true 73 (.pair (.int .i64) (.pair (.pair (.int .i64) (.pair (.int .i64) (.pair (.int .i64) (.pair (.int .i64) (.pair (.int .i64) (.pair (.int .i64) (.int .i64))))))) (.pair .bool (.pair (.sl 3 (.int .i64)) (.sl 3 (.int .i64)))))) (g_VZ79_0 a2)],[])
 | _ => none
theorem vZ52 (a0:tL1) (a1:Int) (a2:tL0):collapseH .std EZ52 OZ52_0 (execFn EZ52 Tryz.f9 msZ52 [.val true [.sl .any 169 (.pair (.int .i64) (.pair (.int .i64) (.pair (.sl 9 .str) (.sl 196 (.pair .str (.pair .bool (.sl 3 (.int .i64)))))))) a0,.int .i64 a1,.sl .any 129 (.pair (.int .i64) (.pair (.pair (.int .i64) (.pair (.int .i64) (.pair (.int .i64) (.pair (.int .i64) (.pair (.int .i64) (.pair (.int .i64) (.int .i64))))))) (.pair .bool (.pair (.sl 3 (.int .i64)) (.sl 3 (.int .i64)))))) a2]]) = some ((g_AZ52 a0 a1 a2),.val true [.own .any true 92 (.pair (.int .i64) (.pair (.int .i64) (.pair (.sl 9 .str) (.sl 155 (.pair .str (.pair .bool (.sl 3 (.int .i64)))))))) (g_VZ51_0 a0),.int .i64 a1,.own .any true 73 (.pair (.int .i64) (.pair (.pair (.int .i64) (.pair (.int .i64) (.pair (.int .i64) (.pair (.int .i64) (.pair (.int .i64) (.pair (.int .i64) (.int .i64))))))) (.pair .bool (.pair (.sl 3 (.int .i64)) (.sl 3 (.int .i64)))))) (g_VZ79_0 a2)],[]) := by kernel_rfl
theorem sZ52:Sound Tryz.prog 9 msZ52 FZ52 := by
 refine fn_gen goodZ52 (by kernel_rfl) .std (fn := Tryz.f9) (c := (Tryz.f9.body.getD .skip)) (o := OZ52_0) (k := 0) (by kernel_rfl) (by kernel_rfl) (by kernel_rfl) (by kernel_rfl) (by decide) kZ52_0 ?_
 intro ys r outs h
 unfold FZ52 at h
 split at h
 ·exact (vZ52 _ _ _).trans h
 ·cases h
noncomputable def Ew_FnExactFroBegin:Env where
 tt := mkTI Tryz.prog
 fn := fun f => match f with
  | 7 => some (msZ49,FSem.wk msZ49 FZ49)
  | 9 => some (msZ52,FSem.wk msZ52 FZ52)
  | 11 => some (msZ57,FSem.wk msZ57 FZ57)
  | 12 => some (msZ44,FSem.wk msZ44 FZ44)
  | 13 => some (msZ30,FSem.wk msZ30 FZ30)
  | 14 => some (msZ37,FSem.wk msZ37 FZ37)
  | 15 => some (msZ34,FSem.wk msZ34 FZ34)
  | 18 => some (msZ28,FSem.wk msZ28 FZ28)
  | 19 => some (msZ72,FSem.wk msZ72 FZ72)
  | 20 => some (msw_toOpOp,FSem.wk msw_toOpOp Fw_toOpOp)
  | 21 => some (msZ69,FSem.wk msZ69 FZ69)
  | _ => none
 bxf := fun _ => none
 mv := []
 keep := fun _ => []
 keepB := fun _ => []
 keepX := fun _ => []
 keepXB := fun _ => []
theorem goodFw_FnExactFroBegin:∀ f ms F,Ew_FnExactFroBegin.fn f = some (ms,F) → Sound Tryz.prog f ms F := fun f ms F h => by
 unfold Ew_FnExactFroBegin at h
 dsimp only at h
 split at h
 ·exact gF sZ49 h
 ·exact gF sZ52 h
 ·exact gF sZ57 h
 ·exact gF sZ44 h
 ·exact gF sZ30 h
 ·exact gF sZ37 h
 ·exact gF sZ34 h
 ·exact gF sZ28 h
 ·exact gF sZ72 h
 ·exact gF sw_toOpOp h
 ·exact gF sZ69 h
 ·cases h
theorem goodw_FnExactFroBegin:Good Tryz.prog Ew_FnExactFroBegin := ⟨rfl,goodFw_FnExactFroBegin,fun f ms F h => by cases h⟩
noncomputable def Ow_FnExactFroBegin_0:Orc := fun _ _ => none
noncomputable def msw_FnExactFroBegin:List PM := [.rd,.own,.own]
noncomputable def lsw_FnExactFroBegin:List (Nat×Code) := loopsAll 0 (Tryz.f5.body.getD .skip)
theorem kw_FnExactFroBegin_0:OrcOk Ew_FnExactFroBegin Ow_FnExactFroBegin_0 lsw_FnExactFroBegin 0 := orcOk_none
noncomputable def g_Aw_FnExactFroBegin (a0:tL1) (a1:Int) (a2:tL0) (a3:Int) (a4:Int) (a5:Int) (a6:Int) (a7:Int) (a8:Int) (a9:Int) (a10:Int):Bool := g_AZ49 a0 a1 a2 (1048576:Int)&&(decide (g_VZ49_0 a0 a1 a2 (1048576:Int) < (0:Int)) || g_AZ52 a0 a1 a2&&(g_AZ72 (g_VZ51_0 a0) a1 (g_VZ79_0 a2) a3 a4 a5 a6 a7 a8 a9 a10&&(g_AZ52 a0 a1 a2&&(g_AZ69 (g_VZ51_0 a0) a1 (g_VZ79_0 a2) a3 a4 a5 a6 a7 a8 a9 a10&&(g_AZ44 (g_VZ69_0 (g_VZ51_0 a0) a1 (g_VZ79_0 a2) a3 a4 a5 a6 a7 a8 a9 a10) (g_VZ69_1 (g_VZ51_0 a0) a1 (g_VZ79_0 a2) a3 a4 a5 a6 a7 a8 a9 a10) (g_VZ69_2 (g_VZ51_0 a0) a1 (g_VZ79_0 a2) a3 a4 a5 a6 a7 a8 a9 a10) (g_VZ72_0 (g_VZ51_0 a0) a1 (g_VZ79_0 a2) a3 a4 a5 a6 a7 a8 a9 a10) (g_VZ72_1 (g_VZ51_0 a0) a1 (g_VZ79_0 a2) a3 a4 a5 a6 a7 a8 a9 a10) (g_VZ72_2 (g_VZ51_0 a0) a1 (g_VZ79_0 a2) a3 a4 a5 a6 a7 a8 a9 a10)&&(!g_VZ44_0 (g_VZ69_0 (g_VZ51_0 a0) a1 (g_VZ79_0 a2) a3 a4 a5 a6 a7 a8 a9 a10) (g_VZ69_1 (g_VZ51_0 a0) a1 (g_VZ79_0 a2) a3 a4 a5 a6 a7 a8 a9 a10) (g_VZ69_2 (g_VZ51_0 a0) a1 (g_VZ79_0 a2) a3 a4 a5 a6 a7 a8 a9 a10) (g_VZ72_0 (g_VZ51_0 a0) a1 (g_VZ79_0 a2) a3 a4 a5 a6 a7 a8 a9 a10) (g_VZ72_1 (g_VZ51_0 a0) a1 (g_VZ79_0 a2) a3 a4 a5 a6 a7 a8 a9 a10) (g_VZ72_2 (g_VZ51_0 a0) a1 (g_VZ79_0 a2) a3 a4 a5 a6 a7 a8 a9 a10) || g_AZ57 (g_VZ69_3 (g_VZ51_0 a0) a1 (g_VZ79_0 a2) a3 a4 a5 a6 a7 a8 a9 a10) (g_VZ72_3 (g_VZ51_0 a0) a1 (g_VZ79_0 a2) a3 a4 a5 a6 a7 a8 a9 a10)&&(!g_VZ57_0 (g_VZ69_3 (g_VZ51_0 a0) a1 (g_VZ79_0 a2) a3 a4 a5 a6 a7 a8 a9 a10) (g_VZ72_3 (g_VZ51_0 a0) a1 (g_VZ79_0 a2) a3 a4 a5 a6 a7 a8 a9 a10) || (!g_VZ69_4 (g_VZ51_0 a0) a1 (g_VZ79_0 a2) a3 a4 a5 a6 a7 a8 a9 a10 == g_VZ72_4 (g_VZ51_0 a0) a1 (g_VZ79_0 a2) a3 a4 a5 a6 a7 a8 a9 a10 || g_AZ52 a0 a1 a2&&(g_AZ44 (g_VZ51_0 a0) a1 (g_VZ79_0 a2) (g_VZ51_0 a0) a1 (g_VZ79_0 a2)&&(!g_VZ44_0 (g_VZ51_0 a0) a1 (g_VZ79_0 a2) (g_VZ51_0 a0) a1 (g_VZ79_0 a2) || g_AZ30 (g_VZ51_0 a0) a1 (g_VZ79_0 a2) (1:Int)&&(decide (g_VZ46_0 (g_VZ79_0 a2) (g_VZ29_0 (g_VZ51_0 a0) (1:Int)) < 0) || g_AZ44 (g_VZ69_0 (g_VZ51_0 a0) a1 (g_VZ79_0 a2) a3 a4 a5 a6 a7 a8 a9 a10) (g_VZ69_1 (g_VZ51_0 a0) a1 (g_VZ79_0 a2) a3 a4 a5 a6 a7 a8 a9 a10) (g_VZ69_2 (g_VZ51_0 a0) a1 (g_VZ79_0 a2) a3 a4 a5 a6 a7 a8 a9 a10) (g_VZ72_0 (g_VZ51_0 a0) a1 (g_VZ79_0 a2) a3 a4 a5 a6 a7 a8 a9 a10) (g_VZ72_1 (g_VZ51_0 a0) a1 (g_VZ79_0 a2) a3 a4 a5 a6 a7 a8 a9 a10) (g_VZ72_2 (g_VZ51_0 a0) a1 (g_VZ79_0 a2) a3 a4 a5 a6 a7 a8 a9 a10)&&(!g_VZ44_0 (g_VZ69_0 (g_VZ51_0 a0) a1 (g_VZ79_0 a2) a3 a4 a5 a6 a7 a8 a9 a10) (g_VZ69_1 (g_VZ51_0 a0) a1 (g_VZ79_0 a2) a3 a4 a5 a6 a7 a8 a9 a10) (g_VZ69_2 (g_VZ51_0 a0) a1 (g_VZ79_0 a2) a3 a4 a5 a6 a7 a8 a9 a10) (g_VZ72_0 (g_VZ51_0 a0) a1 (g_VZ79_0 a2) a3 a4 a5 a6 a7 a8 a9 a10) (g_VZ72_1 (g_VZ51_0 a0) a1 (g_VZ79_0 a2) a3 a4 a5 a6 a7 a8 a9 a10) (g_VZ72_2 (g_VZ51_0 a0) a1 (g_VZ79_0 a2) a3 a4 a5 a6 a7 a8 a9 a10) || g_AZ57 (g_VZ69_3 (g_VZ51_0 a0) a1 (g_VZ79_0 a2) a3 a4 a5 a6 a7 a8 a9 a10) (g_VZ72_3 (g_VZ51_0 a0) a1 (g_VZ79_0 a2) a3 a4 a5 a6 a7 a8 a9 a10)&&(!g_VZ57_0 (g_VZ69_3 (g_VZ51_0 a0) a1 (g_VZ79_0 a2) a3 a4 a5 a6 a7 a8 a9 a10) (g_VZ72_3 (g_VZ51_0 a0) a1 (g_VZ79_0 a2) a3 a4 a5 a6 a7 a8 a9 a10) || (!g_VZ69_4 (g_VZ51_0 a0) a1 (g_VZ79_0 a2) a3 a4 a5 a6 a7 a8 a9 a10 == g_VZ72_4 (g_VZ51_0 a0) a1 (g_VZ79_0 a2) a3 a4 a5 a6 a7 a8 a9 a10 || g_AZ30 (g_VZ69_0 (g_VZ51_0 a0) a1 (g_VZ79_0 a2) a3 a4 a5 a6 a7 a8 a9 a10) (g_VZ69_1 (g_VZ51_0 a0) a1 (g_VZ79_0 a2) a3 a4 a5 a6 a7 a8 a9 a10) (g_VZ69_2 (g_VZ51_0 a0) a1 (g_VZ79_0 a2) a3 a4 a5 a6 a7 a8 a9 a10) (1:Int)&&(g_AZ37 (g_VZ69_3 (g_VZ51_0 a0) a1 (g_VZ79_0 a2) a3 a4 a5 a6 a7 a8 a9 a10) (g_VZ46_0 (g_VZ69_2 (g_VZ51_0 a0) a1 (g_VZ79_0 a2) a3 a4 a5 a6 a7 a8 a9 a10) (g_VZ29_0 (g_VZ69_0 (g_VZ51_0 a0) a1 (g_VZ79_0 a2) a3 a4 a5 a6 a7 a8 a9 a10) (1:Int)))&&(g_AZ28 (g_VZ29_1 (g_VZ69_0 (g_VZ51_0 a0) a1 (g_VZ79_0 a2) a3 a4 a5 a6 a7 a8 a9 a10) (1:Int)) (g_VZ69_1 (g_VZ51_0 a0) a1 (g_VZ79_0 a2) a3 a4 a5 a6 a7 a8 a9 a10) (g_VZ46_1 (g_VZ69_2 (g_VZ51_0 a0) a1 (g_VZ79_0 a2) a3 a4 a5 a6 a7 a8 a9 a10) (g_VZ29_0 (g_VZ69_0 (g_VZ51_0 a0) a1 (g_VZ79_0 a2) a3 a4 a5 a6 a7 a8 a9 a10) (1:Int))) (1:Int)&&(decide (g_VZ28_0 (g_VZ29_1 (g_VZ69_0 (g_VZ51_0 a0) a1 (g_VZ79_0 a2) a3 a4 a5 a6 a7 a8 a9 a10) (1:Int)) (g_VZ69_1 (g_VZ51_0 a0) a1 (g_VZ79_0 a2) a3 a4 a5 a6 a7 a8 a9 a10) (g_VZ46_1 (g_VZ69_2 (g_VZ51_0 a0) a1 (g_VZ79_0 a2) a3 a4 a5 a6 a7 a8 a9 a10) (g_VZ29_0 (g_VZ69_0 (g_VZ51_0 a0) a1 (g_VZ79_0 a2) a3 a4 a5 a6 a7 a8 a9 a10) (1:Int))) (1:Int) < (0:Int)) || g_AZ34 (g_VZ37_1 (g_VZ69_3 (g_VZ51_0 a0) a1 (g_VZ79_0 a2) a3 a4 a5 a6 a7 a8 a9 a10) (g_VZ46_0 (g_VZ69_2 (g_VZ51_0 a0) a1 (g_VZ79_0 a2) a3 a4 a5 a6 a7 a8 a9 a10) (g_VZ29_0 (g_VZ69_0 (g_VZ51_0 a0) a1 (g_VZ79_0 a2) a3 a4 a5 a6 a7 a8 a9 a10) (1:Int)))) (g_VZ28_0 (g_VZ29_1 (g_VZ69_0 (g_VZ51_0 a0) a1 (g_VZ79_0 a2) a3 a4 a5 a6 a7 a8 a9 a10) (1:Int)) (g_VZ69_1 (g_VZ51_0 a0) a1 (g_VZ79_0 a2) a3 a4 a5 a6 a7 a8 a9 a10) (g_VZ46_1 (g_VZ69_2 (g_VZ51_0 a0) a1 (g_VZ79_0 a2) a3 a4 a5 a6 a7 a8 a9 a10) (g_VZ29_0 (g_VZ69_0 (g_VZ51_0 a0) a1 (g_VZ79_0 a2) a3 a4 a5 a6 a7 a8 a9 a10) (1:Int))) (1:Int))&&(decide (g_VZ34_0 (g_VZ37_1 (g_VZ69_3 (g_VZ51_0 a0) a1 (g_VZ79_0 a2) a3 a4 a5 a6 a7 a8 a9 a10) (g_VZ46_0 (g_VZ69_2 (g_VZ51_0 a0) a1 (g_VZ79_0 a2) a3 a4 a5 a6 a7 a8 a9 a10) (g_VZ29_0 (g_VZ69_0 (g_VZ51_0 a0) a1 (g_VZ79_0 a2) a3 a4 a5 a6 a7 a8 a9 a10) (1:Int)))) (g_VZ28_0 (g_VZ29_1 (g_VZ69_0 (g_VZ51_0 a0) a1 (g_VZ79_0 a2) a3 a4 a5 a6 a7 a8 a9 a10) (1:Int)) (g_VZ69_1 (g_VZ51_0 a0) a1 (g_VZ79_0 a2) a3 a4 a5 a6 a7 a8 a9 a10) (g_VZ46_1 (g_VZ69_2 (g_VZ51_0 a0) a1 (g_VZ79_0 a2) a3 a4 a5 a6 a7 a8 a9 a10) (g_VZ29_0 (g_VZ69_0 (g_VZ51_0 a0) a1 (g_VZ79_0 a2) a3 a4 a5 a6 a7 a8 a9 a10) (1:Int))) (1:Int)) < 0) || (g_VZ34_0 (g_VZ37_1 (g_VZ69_3 (g_VZ51_0 a0) a1 (g_VZ79_0 a2) a3 a4 a5 a6 a7 a8 a9 a10) (g_VZ46_0 (g_VZ69_2 (g_VZ51_0 a0) a1 (g_VZ79_0 a2) a3 a4 a5 a6 a7 a8 a9 a10) (g_VZ29_0 (g_VZ69_0 (g_VZ51_0 a0) a1 (g_VZ79_0 a2) a3 a4 a5 a6 a7 a8 a9 a10) (1:Int)))) (g_VZ28_0 (g_VZ29_1 (g_VZ69_0 (g_VZ51_0 a0) a1 (g_VZ79_0 a2) a3 a4 a5 a6 a7 a8 a9 a10) (1:Int)) (g_VZ69_1 (g_VZ51_0 a0) a1 (g_VZ79_0 a2) a3 a4 a5 a6 a7 a8 a9 a10) (g_VZ46_1 (g_VZ69_2 (g_VZ51_0 a0) a1 (g_VZ79_0 a2) a3 a4 a5 a6 a7 a8 a9 a10) (g_VZ29_0 (g_VZ69_0 (g_VZ51_0 a0) a1 (g_VZ79_0 a2) a3 a4 a5 a6 a7 a8 a9 a10) (1:Int))) (1:Int)) != g_VZ37_0 (g_VZ69_3 (g_VZ51_0 a0) a1 (g_VZ79_0 a2) a3 a4 a5 a6 a7 a8 a9 a10) (g_VZ46_0 (g_VZ69_2 (g_VZ51_0 a0) a1 (g_VZ79_0 a2) a3 a4 a5 a6 a7 a8 a9 a10) (g_VZ29_0 (g_VZ69_0 (g_VZ51_0 a0) a1 (g_VZ79_0 a2) a3 a4 a5 a6 a7 a8 a9 a10) (1:Int))) || g_AZ52 a0 a1 a2&&(g_AZ69 (g_VZ51_0 a0) a1 (g_VZ79_0 a2) a3 a4 a5 a6 a7 a8 a9 a10&&(g_AZ44 (g_VZ69_0 (g_VZ51_0 a0) a1 (g_VZ79_0 a2) a3 a4 a5 a6 a7 a8 a9 a10) (g_VZ69_1 (g_VZ51_0 a0) a1 (g_VZ79_0 a2) a3 a4 a5 a6 a7 a8 a9 a10) (g_VZ69_2 (g_VZ51_0 a0) a1 (g_VZ79_0 a2) a3 a4 a5 a6 a7 a8 a9 a10) (g_VZ72_0 (g_VZ51_0 a0) a1 (g_VZ79_0 a2) a3 a4 a5 a6 a7 a8 a9 a10) (g_VZ72_1 (g_VZ51_0 a0) a1 (g_VZ79_0 a2) a3 a4 a5 a6 a7 a8 a9 a10) (g_VZ72_2 (g_VZ51_0 a0) a1 (g_VZ79_0 a2) a3 a4 a5 a6 a7 a8 a9 a10)&&(!g_VZ44_0 (g_VZ69_0 (g_VZ51_0 a0) a1 (g_VZ79_0 a2) a3 a4 a5 a6 a7 a8 a9 a10) (g_VZ69_1 (g_VZ51_0 a0) a1 (g_VZ79_0 a2) a3 a4 a5 a6 a7 a8 a9 a10) (g_VZ69_2 (g_VZ51_0 a0) a1 (g_VZ79_0 a2) a3 a4 a5 a6 a7 a8 a9 a10) (g_VZ72_0 (g_VZ51_0 a0) a1 (g_VZ79_0 a2) a3 a4 a5 a6 a7 a8 a9 a10) (g_VZ72_1 (g_VZ51_0 a0) a1 (g_VZ79_0 a2) a3 a4 a5 a6 a7 a8 a9 a10) (g_VZ72_2 (g_VZ51_0 a0) a1 (g_VZ79_0 a2) a3 a4 a5 a6 a7 a8 a9 a10) || g_AZ57 (g_VZ69_3 (g_VZ51_0 a0) a1 (g_VZ79_0 a2) a3 a4 a5 a6 a7 a8 a9 a10) (g_VZ72_3 (g_VZ51_0 a0) a1 (g_VZ79_0 a2) a3 a4 a5 a6 a7 a8 a9 a10)&&(!g_VZ57_0 (g_VZ69_3 (g_VZ51_0 a0) a1 (g_VZ79_0 a2) a3 a4 a5 a6 a7 a8 a9 a10) (g_VZ72_3 (g_VZ51_0 a0) a1 (g_VZ79_0 a2) a3 a4 a5 a6 a7 a8 a9 a10) || (!g_VZ69_4 (g_VZ51_0 a0) a1 (g_VZ79_0 a2) a3 a4 a5 a6 a7 a8 a9 a10 == g_VZ72_4 (g_VZ51_0 a0) a1 (g_VZ79_0 a2) a3 a4 a5 a6 a7 a8 a9 a10 || g_AZ28 (g_VZ29_1 (g_VZ69_0 (g_VZ51_0 a0) a1 (g_VZ79_0 a2) a3 a4 a5 a6 a7 a8 a9 a10) (1:Int)) (g_VZ69_1 (g_VZ51_0 a0) a1 (g_VZ79_0 a2) a3 a4 a5 a6 a7 a8 a9 a10) (g_VZ46_1 (g_VZ69_2 (g_VZ51_0 a0) a1 (g_VZ79_0 a2) a3 a4 a5 a6 a7 a8 a9 a10) (g_VZ29_0 (g_VZ69_0 (g_VZ51_0 a0) a1 (g_VZ79_0 a2) a3 a4 a5 a6 a7 a8 a9 a10) (1:Int))) (1:Int)&&(decide (g_VZ28_0 (g_VZ29_1 (g_VZ69_0 (g_VZ51_0 a0) a1 (g_VZ79_0 a2) a3 a4 a5 a6 a7 a8 a9 a10) (1:Int)) (g_VZ69_1 (g_VZ51_0 a0) a1 (g_VZ79_0 a2) a3 a4 a5 a6 a7 a8 a9 a10) (g_VZ46_1 (g_VZ69_2 (g_VZ51_0 a0) a1 (g_VZ79_0 a2) a3 a4 a5 a6 a7 a8 a9 a10) (g_VZ29_0 (g_VZ69_0 (g_VZ51_0 a0) a1 (g_VZ79_0 a2) a3 a4 a5 a6 a7 a8 a9 a10) (1:Int))) (1:Int) < (0:Int)) || g_AZ34 (g_VZ37_1 (g_VZ69_3 (g_VZ51_0 a0) a1 (g_VZ79_0 a2) a3 a4 a5 a6 a7 a8 a9 a10) (g_VZ46_0 (g_VZ69_2 (g_VZ51_0 a0) a1 (g_VZ79_0 a2) a3 a4 a5 a6 a7 a8 a9 a10) (g_VZ29_0 (g_VZ69_0 (g_VZ51_0 a0) a1 (g_VZ79_0 a2) a3 a4 a5 a6 a7 a8 a9 a10) (1:Int)))) (g_VZ28_0 (g_VZ29_1 (g_VZ69_0 (g_VZ51_0 a0) a1 (g_VZ79_0 a2) a3 a4 a5 a6 a7 a8 a9 a10) (1:Int)) (g_VZ69_1 (g_VZ51_0 a0) a1 (g_VZ79_0 a2) a3 a4 a5 a6 a7 a8 a9 a10) (g_VZ46_1 (g_VZ69_2 (g_VZ51_0 a0) a1 (g_VZ79_0 a2) a3 a4 a5 a6 a7 a8 a9 a10) (g_VZ29_0 (g_VZ69_0 (g_VZ51_0 a0) a1 (g_VZ79_0 a2) a3 a4 a5 a6 a7 a8 a9 a10) (1:Int))) (1:Int))&&(decide (g_VZ34_0 (g_VZ37_1 (g_VZ69_3 (g_VZ51_0 a0) a1 (g_VZ79_0 a2) a3 a4 a5 a6 a7 a8 a9 a10) (g_VZ46_0 (g_VZ69_2 (g_VZ51_0 a0) a1 (g_VZ79_0 a2) a3 a4 a5 a6 a7 a8 a9 a10) (g_VZ29_0 (g_VZ69_0 (g_VZ51_0 a0) a1 (g_VZ79_0 a2) a3 a4 a5 a6 a7 a8 a9 a10) (1:Int)))) (g_VZ28_0 (g_VZ29_1 (g_VZ69_0 (g_VZ51_0 a0) a1 (g_VZ79_0 a2) a3 a4 a5 a6 a7 a8 a9 a10) (1:Int)) (g_VZ69_1 (g_VZ51_0 a0) a1 (g_VZ79_0 a2) a3 a4 a5 a6 a7 a8 a9 a10) (g_VZ46_1 (g_VZ69_2 (g_VZ51_0 a0) a1 (g_VZ79_0 a2) a3 a4 a5 a6 a7 a8 a9 a10) (g_VZ29_0 (g_VZ69_0 (g_VZ51_0 a0) a1 (g_VZ79_0 a2) a3 a4 a5 a6 a7 a8 a9 a10) (1:Int))) (1:Int)) < 0) || true))))))))))))))))))))))))))
noncomputable def g_Vw_FnExactFroBegin_0 (a0:tL1) (a1:Int) (a2:tL0) (a3:Int) (a4:Int) (a5:Int) (a6:Int) (a7:Int) (a8:Int) (a9:Int) (a10:Int):Bool := bif decide (g_VZ49_0 a0 a1 a2 (1048576:Int) < (0:Int)) then true else bif !g_VZ44_0 (g_VZ69_0 (g_VZ51_0 a0) a1 (g_VZ79_0 a2) a3 a4 a5 a6 a7 a8 a9 a10) (g_VZ69_1 (g_VZ51_0 a0) a1 (g_VZ79_0 a2) a3 a4 a5 a6 a7 a8 a9 a10) (g_VZ69_2 (g_VZ51_0 a0) a1 (g_VZ79_0 a2) a3 a4 a5 a6 a7 a8 a9 a10) (g_VZ72_0 (g_VZ51_0 a0) a1 (g_VZ79_0 a2) a3 a4 a5 a6 a7 a8 a9 a10) (g_VZ72_1 (g_VZ51_0 a0) a1 (g_VZ79_0 a2) a3 a4 a5 a6 a7 a8 a9 a10) (g_VZ72_2 (g_VZ51_0 a0) a1 (g_VZ79_0 a2) a3 a4 a5 a6 a7 a8 a9 a10) then false else bif !g_VZ57_0 (g_VZ69_3 (g_VZ51_0 a0) a1 (g_VZ79_0 a2) a3 a4 a5 a6 a7 a8 a9 a10) (g_VZ72_3 (g_VZ51_0 a0) a1 (g_VZ79_0 a2) a3 a4 a5 a6 a7 a8 a9 a10) then false else bif !g_VZ69_4 (g_VZ51_0 a0) a1 (g_VZ79_0 a2) a3 a4 a5 a6 a7 a8 a9 a10 == g_VZ72_4 (g_VZ51_0 a0) a1 (g_VZ79_0 a2) a3 a4 a5 a6 a7 a8 a9 a10 then false else bif !g_VZ44_0 (g_VZ51_0 a0) a1 (g_VZ79_0 a2) (g_VZ51_0 a0) a1 (g_VZ79_0 a2) then false else bif decide (g_VZ46_0 (g_VZ79_0 a2) (g_VZ29_0 (g_VZ51_0 a0) (1:Int)) < 0) then false else bif !g_VZ44_0 (g_VZ69_0 (g_VZ51_0 a0) a1 (g_VZ79_0 a2) a3 a4 a5 a6 a7 a8 a9 a10) (g_VZ69_1 (g_VZ51_0 a0) a1 (g_VZ79_0 a2) a3 a4 a5 a6 a7 a8 a9 a10) (g_VZ69_2 (g_VZ51_0 a0) a1 (g_VZ79_0 a2) a3 a4 a5 a6 a7 a8 a9 a10) (g_VZ72_0 (g_VZ51_0 a0) a1 (g_VZ79_0 a2) a3 a4 a5 a6 a7 a8 a9 a10) (g_VZ72_1 (g_VZ51_0 a0) a1 (g_VZ79_0 a2) a3 a4 a5 a6 a7 a8 a9 a10) (g_VZ72_2 (g_VZ51_0 a0) a1 (g_VZ79_0 a2) a3 a4 a5 a6 a7 a8 a9 a10) then false else bif !g_VZ57_0 (g_VZ69_3 (g_VZ51_0 a0) a1 (g_VZ79_0 a2) a3 a4 a5 a6 a7 a8 a9 a10) (g_VZ72_3 (g_VZ51_0 a0) a1 (g_VZ79_0 a2) a3 a4 a5 a6 a7 a8 a9 a10) then false else bif !g_VZ69_4 (g_VZ51_0 a0) a1 (g_VZ79_0 a2) a3 a4 a5 a6 a7 a8 a9 a10 == g_VZ72_4 (g_VZ51_0 a0) a1 (g_VZ79_0 a2) a3 a4 a5 a6 a7 a8 a9 a10 then false else bif decide (g_VZ28_0 (g_VZ29_1 (g_VZ69_0 (g_VZ51_0 a0) a1 (g_VZ79_0 a2) a3 a4 a5 a6 a7 a8 a9 a10) (1:Int)) (g_VZ69_1 (g_VZ51_0 a0) a1 (g_VZ79_0 a2) a3 a4 a5 a6 a7 a8 a9 a10) (g_VZ46_1 (g_VZ69_2 (g_VZ51_0 a0) a1 (g_VZ79_0 a2) a3 a4 a5 a6 a7 a8 a9 a10) (g_VZ29_0 (g_VZ69_0 (g_VZ51_0 a0) a1 (g_VZ79_0 a2) a3 a4 a5 a6 a7 a8 a9 a10) (1:Int))) (1:Int) < (0:Int)) then false else bif decide (g_VZ34_0 (g_VZ37_1 (g_VZ69_3 (g_VZ51_0 a0) a1 (g_VZ79_0 a2) a3 a4 a5 a6 a7 a8 a9 a10) (g_VZ46_0 (g_VZ69_2 (g_VZ51_0 a0) a1 (g_VZ79_0 a2) a3 a4 a5 a6 a7 a8 a9 a10) (g_VZ29_0 (g_VZ69_0 (g_VZ51_0 a0) a1 (g_VZ79_0 a2) a3 a4 a5 a6 a7 a8 a9 a10) (1:Int)))) (g_VZ28_0 (g_VZ29_1 (g_VZ69_0 (g_VZ51_0 a0) a1 (g_VZ79_0 a2) a3 a4 a5 a6 a7 a8 a9 a10) (1:Int)) (g_VZ69_1 (g_VZ51_0 a0) a1 (g_VZ79_0 a2) a3 a4 a5 a6 a7 a8 a9 a10) (g_VZ46_1 (g_VZ69_2 (g_VZ51_0 a0) a1 (g_VZ79_0 a2) a3 a4 a5 a6 a7 a8 a9 a10) (g_VZ29_0 (g_VZ69_0 (g_VZ51_0 a0) a1 (g_VZ79_0 a2) a3 a4 a5 a6 a7 a8 a9 a10) (1:Int))) (1:Int)) < 0) then false else bif g_VZ34_0 (g_VZ37_1 (g_VZ69_3 (g_VZ51_0 a0) a1 (g_VZ79_0 a2) a3 a4 a5 a6 a7 a8 a9 a10) (g_VZ46_0 (g_VZ69_2 (g_VZ51_0 a0) a1 (g_VZ79_0 a2) a3 a4 a5 a6 a7 a8 a9 a10) (g_VZ29_0 (g_VZ69_0 (g_VZ51_0 a0) a1 (g_VZ79_0 a2) a3 a4 a5 a6 a7 a8 a9 a10) (1:Int)))) (g_VZ28_0 (g_VZ29_1 (g_VZ69_0 (g_VZ51_0 a0) a1 (g_VZ79_0 a2) a3 a4 a5 a6 a7 a8 a9 a10) (1:Int)) (g_VZ69_1 (g_VZ51_0 a0) a1 (g_VZ79_0 a2) a3 a4 a5 a6 a7 a8 a9 a10) (g_VZ46_1 (g_VZ69_2 (g_VZ51_0 a0) a1 (g_VZ79_0 a2) a3 a4 a5 a6 a7 a8 a9 a10) (g_VZ29_0 (g_VZ69_0 (g_VZ51_0 a0) a1 (g_VZ79_0 a2) a3 a4 a5 a6 a7 a8 a9 a10) (1:Int))) (1:Int)) != g_VZ37_0 (g_VZ69_3 (g_VZ51_0 a0) a1 (g_VZ79_0 a2) a3 a4 a5 a6 a7 a8 a9 a10) (g_VZ46_0 (g_VZ69_2 (g_VZ51_0 a0) a1 (g_VZ79_0 a2) a3 a4 a5 a6 a7 a8 a9 a10) (g_VZ29_0 (g_VZ69_0 (g_VZ51_0 a0) a1 (g_VZ79_0 a2) a3 a4 a5 a6 a7 a8 a9 a10) (1:Int))) then false else bif !g_VZ44_0 (g_VZ69_0 (g_VZ51_0 a0) a1 (g_VZ79_0 a2) a3 a4 a5 a6 a7 a8 a9 a10) (g_VZ69_1 (g_VZ51_0 a0) a1 (g_VZ79_0 a2) a3 a4 a5 a6 a7 a8 a9 a10) (g_VZ69_2 (g_VZ51_0 a0) a1 (g_VZ79_0 a2) a3 a4 a5 a6 a7 a8 a9 a10) (g_VZ72_0 (g_VZ51_0 a0) a1 (g_VZ79_0 a2) a3 a4 a5 a6 a7 a8 a9 a10) (g_VZ72_1 (g_VZ51_0 a0) a1 (g_VZ79_0 a2) a3 a4 a5 a6 a7 a8 a9 a10) (g_VZ72_2 (g_VZ51_0 a0) a1 (g_VZ79_0 a2) a3 a4 a5 a6 a7 a8 a9 a10) then false else bif !g_VZ57_0 (g_VZ69_3 (g_VZ51_0 a0) a1 (g_VZ79_0 a2) a3 a4 a5 a6 a7 a8 a9 a10) (g_VZ72_3 (g_VZ51_0 a0) a1 (g_VZ79_0 a2) a3 a4 a5 a6 a7 a8 a9 a10) then false else bif !g_VZ69_4 (g_VZ51_0 a0) a1 (g_VZ79_0 a2) a3 a4 a5 a6 a7 a8 a9 a10 == g_VZ72_4 (g_VZ51_0 a0) a1 (g_VZ79_0 a2) a3 a4 a5 a6 a7 a8 a9 a10 then false else bif decide (g_VZ28_0 (g_VZ29_1 (g_VZ69_0 (g_VZ51_0 a0) a1 (g_VZ79_0 a2) a3 a4 a5 a6 a7 a8 a9 a10) (1:Int)) (g_VZ69_1 (g_VZ51_0 a0) a1 (g_VZ79_0 a2) a3 a4 a5 a6 a7 a8 a9 a10) (g_VZ46_1 (g_VZ69_2 (g_VZ51_0 a0) a1 (g_VZ79_0 a2) a3 a4 a5 a6 a7 a8 a9 a10) (g_VZ29_0 (g_VZ69_0 (g_VZ51_0 a0) a1 (g_VZ79_0 a2) a3 a4 a5 a6 a7 a8 a9 a10) (1:Int))) (1:Int) < (0:Int)) then false else bif decide (g_VZ34_0 (g_VZ37_1 (g_VZ69_3 (g_VZ51_0 a0) a1 (g_VZ79_0 a2) a3 a4 a5 a6 a7 a8 a9 a10) (g_VZ46_0 (g_VZ69_2 (g_VZ51_0 a0) a1 (g_VZ79_0 a2) a3 a4 a5 a6 a7 a8 a9 a10) (g_VZ29_0 (g_VZ69_0 (g_VZ51_0 a0) a1 (g_VZ79_0 a2) a3 a4 a5 a6 a7 a8 a9 a10) (1:Int)))) (g_VZ28_0 (g_VZ29_1 (g_VZ69_0 (g_VZ51_0 a0) a1 (g_VZ79_0 a2) a3 a4 a5 a6 a7 a8 a9 a10) (1:Int)) (g_VZ69_1 (g_VZ51_0 a0) a1 (g_VZ79_0 a2) a3 a4 a5 a6 a7 a8 a9 a10) (g_VZ46_1 (g_VZ69_2 (g_VZ51_0 a0) a1 (g_VZ79_0 a2) a3 a4 a5 a6 a7 a8 a9 a10) (g_VZ29_0 (g_VZ69_0 (g_VZ51_0 a0) a1 (g_VZ79_0 a2) a3 a4 a5 a6 a7 a8 a9 a10) (1:Int))) (1:Int)) < 0) then false else bif g_VZ34_0 (g_VZ37_1 (g_VZ69_3 (g_VZ51_0 a0) a1 (g_VZ79_0 a2) a3 a4 a5 a6 a7 a8 a9 a10) (g_VZ46_0 (g_VZ69_2 (g_VZ51_0 a0) a1 (g_VZ79_0 a2) a3 a4 a5 a6 a7 a8 a9 a10) (g_VZ29_0 (g_VZ69_0 (g_VZ51_0 a0) a1 (g_VZ79_0 a2) a3 a4 a5 a6 a7 a8 a9 a10) (1:Int)))) (g_VZ28_0 (g_VZ29_1 (g_VZ69_0 (g_VZ51_0 a0) a1 (g_VZ79_0 a2) a3 a4 a5 a6 a7 a8 a9 a10) (1:Int)) (g_VZ69_1 (g_VZ51_0 a0) a1 (g_VZ79_0 a2) a3 a4 a5 a6 a7 a8 a9 a10) (g_VZ46_1 (g_VZ69_2 (g_VZ51_0 a0) a1 (g_VZ79_0 a2) a3 a4 a5 a6 a7 a8 a9 a10) (g_VZ29_0 (g_VZ69_0 (g_VZ51_0 a0) a1 (g_VZ79_0 a2) a3 a4 a5 a6 a7 a8 a9 a10) (1:Int))) (1:Int)) != g_VZ37_0 (g_VZ69_3 (g_VZ51_0 a0) a1 (g_VZ79_0 a2) a3 a4 a5 a6 a7 a8 a9 a10) (g_VZ46_0 (g_VZ69_2 (g_VZ51_0 a0) a1 (g_VZ79_0 a2) a3 a4 a5 a6 a7 a8 a9 a10) (g_VZ29_0 (g_VZ69_0 (g_VZ51_0 a0) a1 (g_VZ79_0 a2) a3 a4 a5 a6 a7 a8 a9 a10) (1:Int))) then false else true
noncomputable def Fw_FnExactFroBegin:FSem := fun ys => match ys with
 | [.val true [.sl .any 169 (.pair (.int .i64) (.pair (.int .i64) (.pair (.sl 9 .str) (.sl 196 (.pair .str (.pair .bool (.sl 3 (.int .i64)))))))) a0,.int .i64 a1,.sl .any 129 (.pair (.int .i64) (.pair (.pair (.int .i64) (.pair (.int .i64) (.pair (.int .i64) (.pair (.int .i64) (.pair (.int .i64) (.pair (.int .i64) (.int .i64))))))) (.pair .bool (.pair (.sl 3 (.int .i64)) (.sl 3 (.int .i64)))))) a2],.val false [.int .i64 a3],.val true [.int .i64 a4,.int .i64 a5,.int .i64 a6,.int .i64 a7,.int .i64 a8,.int .i64 a9,.int .i64 a10]] => some ((g_Aw_FnExactFroBegin a0 a1 a2 a3 a4 a5 a6 a7 a8 a9 a10),.val false [.bool (g_Vw_FnExactFroBegin_0 a0 a1 a2 a3 a4 a5 a6 a7 a8 a9 a10)],[])
 | _ => none
theorem vw_FnExactFroBegin (a0:tL1) (a1:Int) (a2:tL0) (a3:Int) (a4:Int) (a5:Int) (a6:Int) (a7:Int) (a8:Int) (a9:Int) (a10:Int):collapseH .std Ew_FnExactFroBegin Ow_FnExactFroBegin_0 (execFn Ew_FnExactFroBegin Tryz.f5 msw_FnExactFroBegin [.val true [.sl .any 169 (.pair (.int .i64) (.pair (.int .i64) (.pair (.sl 9 .str) (.sl 196 (.pair .str (.pair .bool (.sl 3 (.int .i64)))))))) a0,.int .i64 a1,.sl .any 129 (.pair (.int .i64) (.pair (.pair (.int .i64) (.pair (.int .i64) (.pair (.int .i64) (.pair (.int .i64) (.pair (.int .i64) (.pair (.int .i64) (.int .i64))))))) (.pair .bool (.pair (.sl 3 (.int .i64)) (.sl 3 (.int .i64)))))) a2],.val false [.int .i64 a3],.val true [.int .i64 a4,.int .i64 a5,.int .i64 a6,.int .i64 a7,.int .i64 a8,.int .i64 a9,.int .i64 a10]]) = some ((g_Aw_FnExactFroBegin a0 a1 a2 a3 a4 a5 a6 a7 a8 a9 a10),.val false [.bool (g_Vw_FnExactFroBegin_0 a0 a1 a2 a3 a4 a5 a6 a7 a8 a9 a10)],[]) := by kernel_rfl
theorem sw_FnExactFroBegin:Sound Tryz.prog 5 msw_FnExactFroBegin Fw_FnExactFroBegin := by
 refine fn_gen goodw_FnExactFroBegin (by kernel_rfl) .std (fn := Tryz.f5) (c := (Tryz.f5.body.getD .skip)) (o := Ow_FnExactFroBegin_0) (k := 0) (by kernel_rfl) (by kernel_rfl) (by kernel_rfl) (by kernel_rfl) (by decide) kw_FnExactFroBegin_0 ?_
 intro ys r outs h
 unfold Fw_FnExactFroBegin at h
 split at h
 ·exact (vw_FnExactFroBegin _ _ _ _ _ _ _ _ _ _ _).trans h
 ·cases h
end Go.Proofs.YtedhpmhlmdcpbaaGreatDoor.E
