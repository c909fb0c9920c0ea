/- What the functions that are reached do, by the engine: for the proof (laws.FnExactWldOk): part 3. No conditions. -/
import Derived.Test.YtedhpmhlmdcpbaaGreatDoorGb
import Derived.Test.YtedhpmhlmdcpbaaGreatDoorProg
set_option linter.all false
namespace Go.Proofs.YtedhpmhlmdcpbaaGreatDoor.E
open Go
set_option maxRecDepth 100000
set_option maxHeartbeats 0
noncomputable def EZ55:Env where
 tt := mkTI Tryz.prog
 fn := fun f => match f with
  | 103 => some (msZ37,FSem.wk msZ37 FZ37)
  | _ => none
 bxf := fun _ => none
 mv := []
 keep := fun _ => []
 keepB := fun _ => []
 keepX := fun _ => []
 keepXB := fun _ => []
theorem goodFZ55:∀ f ms F,EZ55.fn f = some (ms,F) → Sound Tryz.prog f ms F := fun f ms F h => by
 unfold EZ55 at h
 dsimp only at h
 split at h
 ·exact gF sZ37 h
 ·cases h
theorem goodZ55:Good Tryz.prog EZ55 := ⟨rfl,goodFZ55,fun f ms F h => by cases h⟩
noncomputable def OZ55_0:Orc := fun _ _ => none
noncomputable def msZ55:List PM := [.rd,.rd]
noncomputable def lsZ55:List (Nat×Code) := loopsAll 0 (Tryz.f42.body.getD .skip)
theorem kZ55_0:OrcOk EZ55 OZ55_0 lsZ55 0 := orcOk_none
noncomputable def g_AZ55 (a0:tL0) (a1:Int) (a2:tL0) (a3:Int):Bool := g_AZ37 a0 a2&&(!g_VZ37_0 a0 a2 || true)
noncomputable def g_VZ55_0 (a0:tL0) (a1:Int) (a2:tL0) (a3:Int):Bool := bif !g_VZ37_0 a0 a2 then false else bif a1 != a3 then false else true
noncomputable def FZ55:FSem := fun ys => match ys with
 | [.val true [.sl .any 92 (.pair (.int .i64) (.pair (.int .i64) (.pair (.sl 9 .str) (.sl 155 (.pair .str (.pair .bool (.sl 3 (.int .i64)))))))) a0,.int .i64 a1],.val true [.sl .any 92 (.pair (.int .i64) (.pair (.int .i64) (.pair (.sl 9 .str) (.sl 155 (.pair .str (.pair .bool (.sl 3 (.int .i64)))))))) a2,.int .i64 a3]] => some ((g_AZ55 a0 a1 a2 a3),.val false [.bool (g_VZ55_0 a0 a1 a2 a3)],[])
 | _ => none
theorem vZ55 (a0:tL0) (a1:Int) (a2:tL0) (a3:Int):collapseH .std EZ55 OZ55_0 (execFn EZ55 Tryz.f42 msZ55 [.val true [.sl .any 92 (.pair (.int .i64) (.pair (.int .i64) (.pair (.sl 9 .str) (.sl 155 (.pair .str (.pair .bool (.sl 3 (.int .i64)))))))) a0,.int .i64 a1],.val true [.sl .any 92 (.pair (.int .i64) (.pair (.int .i64) (.pair (.sl 9 .str) (.sl 155 (.pair .str (.pair .bool (.sl 3 (.int .i64)))))))) a2,.int .i64 a3]]) = some ((g_AZ55 a0 a1 a2 a3),.val false [.bool (g_VZ55_0 a0 a1 a2 a3)],[]) := by kernel_rfl
theorem sZ55:Sound Tryz.prog 42 msZ55 FZ55 := by
 refine fn_gen goodZ55 (by kernel_rfl) .std (fn := Tryz.f42) (c := (Tryz.f42.body.getD .skip)) (o := OZ55_0) (k := 0) (by kernel_rfl) (by kernel_rfl) (by kernel_rfl) (by kernel_rfl) (by decide) kZ55_0 ?_
 intro ys r outs h
 unfold FZ55 at h
 split at h
 ·exact (vZ55 _ _ _ _).trans h
 ·cases h
noncomputable def EZ38:Env where
 tt := mkTI Tryz.prog
 fn := fun f => match f with
  | 42 => some (msZ55,FSem.wk msZ55 FZ55)
  | 43 => some (msZ74,FSem.wk msZ74 FZ74)
  | _ => none
 bxf := fun _ => none
 mv := []
 keep := fun _ => []
 keepB := fun _ => []
 keepX := fun _ => []
 keepXB := fun _ => []
theorem goodFZ38:∀ f ms F,EZ38.fn f = some (ms,F) → Sound Tryz.prog f ms F := fun f ms F h => by
 unfold EZ38 at h
 dsimp only at h
 split at h
 ·exact gF sZ55 h
 ·exact gF sZ74 h
 ·cases h
theorem goodZ38:Good Tryz.prog EZ38 := ⟨rfl,goodFZ38,fun f ms F h => by cases h⟩
noncomputable def OZ38_0:Orc := fun _ _ => none
noncomputable def msZ38:List PM := [.rd,.rd]
noncomputable def lsZ38:List (Nat×Code) := loopsAll 0 (Tryz.f12.body.getD .skip)
theorem kZ38_0:OrcOk EZ38 OZ38_0 lsZ38 0 := orcOk_none
noncomputable def g_AZ38 (a0:tL0) (a1:Int) (a2:tL1) (a3:tL0) (a4:Int) (a5:tL1):Bool := g_AZ55 a0 a1 a3 a4&&(!g_VZ55_0 a0 a1 a3 a4 || g_AZ74 a2 a5)
noncomputable def g_VZ38_0 (a0:tL0) (a1:Int) (a2:tL1) (a3:tL0) (a4:Int) (a5:tL1):Bool := bif !g_VZ55_0 a0 a1 a3 a4 then false else bif !g_VZ74_0 a2 a5 then false else true
noncomputable def FZ38:FSem := fun ys => match ys with
 | [.val true [.sl .any 92 (.pair (.int .i64) (.pair (.int .i64) (.pair (.sl 9 .str) (.sl 155 (.pair .str (.pair .bool (.sl 3 (.int .i64)))))))) a0,.int .i64 a1,.sl .any 73 (.pair (.int .i64) (.pair (.pair (.int .i64) (.pair (.int .i64) (.pair (.int .i64) (.pair (.int .i64) (.pair (.int .i64) (.pair (.int .i64) (.int .i64))))))) (.pair .bool (.pair (.sl 3 (.int .i64)) (.sl 3 (.int .i64)))))) a2],.val true [.sl .any 92 (.pair (.int .i64) (.pair (.int .i64) (.pair (.sl 9 .str) (.sl 155 (.pair .str (.pair .bool (.sl 3 (.int .i64)))))))) a3,.int .i64 a4,.sl .any 73 (.pair (.int .i64) (.pair (.pair (.int .i64) (.pair (.int .i64) (.pair (.int .i64) (.pair (.int .i64) (.pair (.int .i64) (.pair (.int .i64) (.int .i64))))))) (.pair .bool (.pair (.sl 3 (.int .i64)) (.sl 3 (.int .i64)))))) a5]] => some ((g_AZ38 a0 a1 a2 a3 a4 a5),.val false [.bool (g_VZ38_0 a0 a1 a2 a3 a4 a5)],[])
 | _ => none
theorem vZ38 (a0:tL0) (a1:Int) (a2:tL1) (a3:tL0) (a4:Int) (a5:tL1):collapseH .std EZ38 OZ38_0 (execFn EZ38 Tryz.f12 msZ38 [.val true [.sl .any 92 (.pair (.int .i64) (.pair (.int .i64) (.pair (.sl 9 .str) (.sl 155 (.pair .str (.pair .bool (.sl 3 (.int .i64)))))))) a0,.int .i64 a1,.sl .any 73 (.pair (.int .i64) (.pair (.pair (.int .i64) (.pair (.int .i64) (.pair (.int .i64) (.pair (.int .i64) (.pair (.int .i64) (.pair (.int .i64) (.int .i64))))))) (.pair .bool (.pair (.sl 3 (.int .i64)) (.sl 3 (.int .i64)))))) a2],.val true [.sl .any 92 (.pair (.int .i64) (.pair (.int .i64) (.pair (.sl 9 .str) (.sl 155 (.pair .str (.pair .bool (.sl 3 (.int .i64)))))))) a3,.int .i64 a4,.sl .any 73 (.pair (.int .i64) (.pair (.pair (.int .i64) (.pair (.int .i64) (.pair (.int .i64) (.pair (.int .i64) (.pair (.int .i64) (.pair (.int .i64) (.int .i64))))))) (.pair .bool (.pair (.sl 3 (.int .i64)) (.sl 3 (.int .i64)))))) a5]]) = some ((g_AZ38 a0 a1 a2 a3 a4 a5),.val false [.bool (g_VZ38_0 a0 a1 a2 a3 a4 a5)],[]) := by kernel_rfl
theorem sZ38:Sound Tryz.prog 12 msZ38 FZ38 := by
 refine fn_gen goodZ38 (by kernel_rfl) .std (fn := Tryz.f12) (c := (Tryz.f12.body.getD .skip)) (o := OZ38_0) (k := 0) (by kernel_rfl) (by kernel_rfl) (by kernel_rfl) (by kernel_rfl) (by decide) kZ38_0 ?_
 intro ys r outs h
 unfold FZ38 at h
 split at h
 ·exact (vZ38 _ _ _ _ _ _).trans h
 ·cases h
noncomputable def EZ39:Env where
 tt := mkTI Tryz.prog
 fn := fun f => match f with
  | 42 => some (msZ55,FSem.wk msZ55 FZ55)
  | _ => none
 bxf := fun _ => none
 mv := []
 keep := fun b => match b with
  | 0 => [(0,false),(1,false),(5,false)]
  | _ => []
 keepB := fun b => match b with
  | 0 => []
  | _ => []
 keepX := fun b => match b with
  | 0 => [(4,false)]
  | _ => []
 keepXB := fun b => match b with
  | 0 => []
  | _ => []
theorem goodFZ39:∀ f ms F,EZ39.fn f = some (ms,F) → Sound Tryz.prog f ms F := fun f ms F h => by
 unfold EZ39 at h
 dsimp only at h
 split at h
 ·exact gF sZ55 h
 ·cases h
theorem goodZ39:Good Tryz.prog EZ39 := ⟨rfl,goodFZ39,fun f ms F h => by cases h⟩
noncomputable def OZ39_0:Orc := fun _ _ => none
noncomputable def msZ39:List PM := [.rd,.rd]
noncomputable def lsZ39:List (Nat×Code) := loopsAll 0 (Tryz.f85.body.getD .skip)
noncomputable def cZ39_0:Code := (loopOf 0 (Tryz.f85.body.getD .skip)).getD .skip
theorem lseqZ39:lsZ39 = [(0,cZ39_0)] := by kernel_rfl
theorem mZ39_0:∀ p,p ∈ lsZ39 → p.1 = 0 → p.2 = cZ39_0 := by
 intro p hp
 rw [lseqZ39] at hp
 simp only [List.mem_cons,List.not_mem_nil,or_false] at hp
 subst hp; simp
theorem kZ39_0:OrcOk EZ39 OZ39_0 lsZ39 0 := orcOk_none
noncomputable def hZ39_0 (y0:List (tL0×Int)) (y1:List (tL0×Int)) (y2:Int):List (Pl×LV) := [(.T 0,.t (.val false [.sl .any 33 (.pair (.sl 92 (.pair (.int .i64) (.pair (.int .i64) (.pair (.sl 9 .str) (.sl 155 (.pair .str (.pair .bool (.sl 3 (.int .i64))))))))) (.int .i64)) y0])),(.T 1,.t (.val false [.sl .any 33 (.pair (.sl 92 (.pair (.int .i64) (.pair (.int .i64) (.pair (.sl 9 .str) (.sl 155 (.pair .str (.pair .bool (.sl 3 (.int .i64))))))))) (.int .i64)) y1])),(.T 5,.t (.val false [.int .i64 y2]))]
noncomputable def g_SZ39_0 (y0:List (tL0×Int)) (y1:List (tL0×Int)):(Int) → RT (Int) ((Bool) ⊕ (Unit))
 | y2 => .br (true) (.br (decide (y2 < (y0.length:Int))) (.br (decide (0 ≤ y2 ∧ y2 < (y0.length:Int))) (.br (decide (0 ≤ y2 ∧ y2 < (y1.length:Int))) (.br (g_AZ55 (at_ yT4 y0 (Int.toNat y2)).1 (at_ yT4 y0 (Int.toNat y2)).2 (at_ yT4 y1 (Int.toNat y2)).1 (at_ yT4 y1 (Int.toNat y2)).2) (.br (!g_VZ55_0 (at_ yT4 y0 (Int.toNat y2)).1 (at_ yT4 y0 (Int.toNat y2)).2 (at_ yT4 y1 (Int.toNat y2)).1 (at_ yT4 y1 (Int.toNat y2)).2) (.out (.inl false)) (.br (true) (.go (IntKind.i64.wrap (y2 + 1))) .bad)) .bad) .bad) .bad) (.out (.inr (())))) .bad
noncomputable def g_LZ39_0 (y0:List (tL0×Int)) (y1:List (tL0×Int)) (x:Int):Option ((Bool) ⊕ (Unit)) := loopO (g_SZ39_0 y0 y1) x
noncomputable def xZ39_0 (y0:List (tL0×Int)) (y1:List (tL0×Int)):((Bool) ⊕ (Unit)) → Ex×List (Pl×LV) := fun
 | .inl r => (.ret,[(.T 4,.t (.val false [.bool r]))])
 | .inr (r) => (.exit 0,[(.T 4,.t (.val false [.undef]))])
noncomputable def OZ39_1:Orc := fun b h => match b,h with
 | 0,[(.T 0,.t (.val false [.sl .any 33 (.pair (.sl 92 (.pair (.int .i64) (.pair (.int .i64) (.pair (.sl 9 .str) (.sl 155 (.pair .str (.pair .bool (.sl 3 (.int .i64))))))))) (.int .i64)) y0])),(.T 1,.t (.val false [.sl .any 33 (.pair (.sl 92 (.pair (.int .i64) (.pair (.int .i64) (.pair (.sl 9 .str) (.sl 155 (.pair .str (.pair .bool (.sl 3 (.int .i64))))))))) (.int .i64)) y1])),(.T 5,.t (.val false [.int .i64 y2]))] => some (okO (g_LZ39_0 y0 y1 y2),(.br (isL (valO (g_LZ39_0 y0 y1 y2))) (.leaf .ret [(.T 4,.t (.val false [.bool (getL (valO (g_LZ39_0 y0 y1 y2)))]))]) (.leaf (.exit 0) [(.T 4,.t (.val false [.undef]))])))
 | b,h => OZ39_0 b h
theorem bZ39_0 (y0:List (tL0×Int)) (y1:List (tL0×Int)) (y2:Int):Tr.bt EZ39 OZ39_0 (exec EZ39 0 cZ39_0 (St.of (hZ39_0 y0 y1 y2)) (leafRd EZ39 0)) = (g_SZ39_0 y0 y1 y2).bt (fun (y2:Int) => (hZ39_0 y0 y1 y2)) (xZ39_0 y0 y1) := by kernel_rfl
theorem kZ39_1:OrcOk EZ39 OZ39_1 lsZ39 1 := orc_add kZ39_0 (fun n p hp h ex h' ho => by
 obtain ⟨b,c⟩ := p
 obtain ⟨xt,h1,h2⟩ := ho
 have h1:OZ39_1 b h = some (true,xt) := h1
 unfold OZ39_1 at h1
 split at h1
 ·injection h1 with h1
  injection h1 with e1 e2
  subst e2
  have hc:c = cZ39_0 := mZ39_0 _ hp rfl
  subst hc
  right
  rename_i y0 y1 y2
  have key := LT_step kZ39_0 hp (fun q hq => loopsAll_in _ _ _ _ hp hq) (fun (y2:Int) => (hZ39_0 y0 y1 y2)) (xZ39_0 y0 y1) (g_SZ39_0 y0 y1) (fun x => by first | exact bZ39_0 y0 y1 x) n (x := y2) (okO_some e1)
  have hx:∀ r,XT.sel (.br (isL r) (.leaf .ret [(.T 4,.t (.val false [.bool (getL r)]))]) (.leaf (.exit 0) [(.T 4,.t (.val false [.undef]))])) = xZ39_0 y0 y1 r := fun r => by first | rfl | rcases r with r | r <;> rfl | rcases r with r | r | r <;> rfl | rcases r with r | r | r | r <;> rfl
  have h3 := (hx (valO (g_LZ39_0 y0 y1 y2))).symm.trans h2
  have e3 := congrArg Prod.fst h3
  have e4 := congrArg Prod.snd h3
  simp only at e3 e4
  rw [← e3,← e4]
  exact key
 ·exact .inl ⟨xt,h1,h2⟩)
noncomputable def g_AZ39 (a0:List (tL0×Int)) (a1:List (tL0×Int)):Bool := (a0.length:Int) != (a1.length:Int) || okO (g_LZ39_0 a0 a1 (0:Int))
noncomputable def g_VZ39_0 (a0:List (tL0×Int)) (a1:List (tL0×Int)):Bool := bif (a0.length:Int) != (a1.length:Int) then false else bif isL (valO (g_LZ39_0 a0 a1 (0:Int))) then getL (valO (g_LZ39_0 a0 a1 (0:Int))) else true
noncomputable def FZ39:FSem := fun ys => match ys with
 | [.val false [.sl .any 33 (.pair (.sl 92 (.pair (.int .i64) (.pair (.int .i64) (.pair (.sl 9 .str) (.sl 155 (.pair .str (.pair .bool (.sl 3 (.int .i64))))))))) (.int .i64)) a0],.val false [.sl .any 33 (.pair (.sl 92 (.pair (.int .i64) (.pair (.int .i64) (.pair (.sl 9 .str) (.sl 155 (.pair .str (.pair .bool (.sl 3 (.int .i64))))))))) (.int .i64)) a1]] => some ((g_AZ39 a0 a1),.val false [.bool (g_VZ39_0 a0 a1)],[])
 | _ => none
theorem vZ39 (a0:List (tL0×Int)) (a1:List (tL0×Int)):collapseH .std EZ39 OZ39_1 (execFn EZ39 Tryz.f85 msZ39 [.val false [.sl .any 33 (.pair (.sl 92 (.pair (.int .i64) (.pair (.int .i64) (.pair (.sl 9 .str) (.sl 155 (.pair .str (.pair .bool (.sl 3 (.int .i64))))))))) (.int .i64)) a0],.val false [.sl .any 33 (.pair (.sl 92 (.pair (.int .i64) (.pair (.int .i64) (.pair (.sl 9 .str) (.sl 155 (.pair .str (.pair .bool (.sl 3 (.int .i64))))))))) (.int .i64)) a1]]) = some ((g_AZ39 a0 a1),.val false [.bool (g_VZ39_0 a0 a1)],[]) := by kernel_rfl
theorem sZ39:Sound Tryz.prog 85 msZ39 FZ39 := by
 refine fn_gen goodZ39 (by kernel_rfl) .std (fn := Tryz.f85) (c := (Tryz.f85.body.getD .skip)) (o := OZ39_1) (k := 1) (by kernel_rfl) (by kernel_rfl) (by kernel_rfl) (by kernel_rfl) (by decide) kZ39_1 ?_
 intro ys r outs h
 unfold FZ39 at h
 split at h
 ·exact (vZ39 _ _).trans h
 ·cases h
noncomputable def EZ75:Env where
 tt := mkTI Tryz.prog
 fn := fun f => match f with
  | 102 => some (msw_eqOpOp,FSem.wk msw_eqOpOp Fw_eqOpOp)
  | _ => none
 bxf := fun _ => none
 mv := []
 keep := fun _ => []
 keepB := fun _ => []
 keepX := fun _ => []
 keepXB := fun _ => []
theorem goodFZ75:∀ f ms F,EZ75.fn f = some (ms,F) → Sound Tryz.prog f ms F := fun f ms F h => by
 unfold EZ75 at h
 dsimp only at h
 split at h
 ·exact gF sw_eqOpOp h
 ·cases h
theorem goodZ75:Good Tryz.prog EZ75 := ⟨rfl,goodFZ75,fun f ms F h => by cases h⟩
noncomputable def OZ75_0:Orc := fun _ _ => none
noncomputable def msZ75:List PM := [.own,.own]
noncomputable def lsZ75:List (Nat×Code) := loopsAll 0 (Tryz.f41.body.getD .skip)
theorem kZ75_0:OrcOk EZ75 OZ75_0 lsZ75 0 := orcOk_none
noncomputable def g_AZ75 (a0:Int) (a1:Int) (a2:Int) (a3:Int) (a4:Int) (a5:Int) (a6:Int) (a7:Int) (a8:Int) (a9:Int) (a10:Int) (a11:Int) (a12:Int) (a13:Int) (a14:Int) (a15:Int) (a16:Int) (a17:Int) (a18:Int) (a19:Int) (a20:Int) (a21:Int):Bool := a0 != a11 || (a1 != a12 || (a2 != a13 || (a3 != a14 || g_Aw_eqOpOp a4 a5 a6 a7 a8 a9 a10 a15 a16 a17 a18 a19 a20 a21)))
noncomputable def g_VZ75_0 (a0:Int) (a1:Int) (a2:Int) (a3:Int) (a4:Int) (a5:Int) (a6:Int) (a7:Int) (a8:Int) (a9:Int) (a10:Int) (a11:Int) (a12:Int) (a13:Int) (a14:Int) (a15:Int) (a16:Int) (a17:Int) (a18:Int) (a19:Int) (a20:Int) (a21:Int):Bool := bif a0 != a11 then false else bif a1 != a12 then false else bif a2 != a13 then false else bif a3 != a14 then false else bif !g_Vw_eqOpOp_0 a4 a5 a6 a7 a8 a9 a10 a15 a16 a17 a18 a19 a20 a21 then false else true
noncomputable def FZ75:FSem := fun ys => match ys with
 | [.val true [.int .i64 a0,.int .i64 a1,.int .i64 a2,.int .i64 a3,.int .i64 a4,.int .i64 a5,.int .i64 a6,.int .i64 a7,.int .i64 a8,.int .i64 a9,.int .i64 a10],.val true [.int .i64 a11,.int .i64 a12,.int .i64 a13,.int .i64 a14,.int .i64 a15,.int .i64 a16,.int .i64 a17,.int .i64 a18,.int .i64 a19,.int .i64 a20,.int .i64 a21]] => some ((g_AZ75 a0 a1 a2 a3 a4 a5 a6 a7 a8 a9 a10 a11 a12 a13 a14 a15 a16 a17 a18 a19 a20 a21),.val false [.bool (g_VZ75_0 a0 a1 a2 a3 a4 a5 a6 a7 a8 a9 a10 a11 a12 a13 a14 a15 a16 a17 a18 a19 a20 a21)],[])
 | _ => none
theorem vZ75 (a0:Int) (a1:Int) (a2:Int) (a3:Int) (a4:Int) (a5:Int) (a6:Int) (a7:Int) (a8:Int) (a9:Int) (a10:Int) (a11:Int) (a12:Int) (a13:Int) (a14:Int) (a15:Int) (a16:Int) (a17:Int) (a18:Int) (a19:Int) (a20:Int) (a21:Int):collapseH .std EZ75 OZ75_0 (execFn EZ75 Tryz.f41 msZ75 [.val true [.int .i64 a0,.int .i64 a1,.int .i64 a2,.int .i64 a3,.int .i64 a4,.int .i64 a5,.int .i64 a6,.int .i64 a7,.int .i64 a8,.int .i64 a9,.int .i64 a10],.val true [.int .i64 a11,.int .i64 a12,.int .i64 a13,.int .i64 a14,.int .i64 a15,.int .i64 a16,.int .i64 a17,.int .i64 a18,.int .i64 a19,.int .i64 a20,.int .i64 a21]]) = some ((g_AZ75 a0 a1 a2 a3 a4 a5 a6 a7 a8 a9 a10 a11 a12 a13 a14 a15 a16 a17 a18 a19 a20 a21),.val false [.bool (g_VZ75_0 a0 a1 a2 a3 a4 a5 a6 a7 a8 a9 a10 a11 a12 a13 a14 a15 a16 a17 a18 a19 a20 a21)],[]) := by kernel_rfl
theorem sZ75:Sound Tryz.prog 41 msZ75 FZ75 := by
 refine fn_gen goodZ75 (by kernel_rfl) .std (fn := Tryz.f41) (c := (Tryz.f41.body.getD .skip)) (o := OZ75_0) (k := 0) (by kernel_rfl) (by kernel_rfl) (by kernel_rfl) (by kernel_rfl) (by decide) kZ75_0 ?_
 intro ys r outs h
 unfold FZ75 at h
 split at h
 ·exact (vZ75 _ _ _ _ _ _ _ _ _ _ _ _ _ _ _ _ _ _ _ _ _ _).trans h
 ·cases h
noncomputable def EZ56:Env where
 tt := mkTI Tryz.prog
 fn := fun f => match f with
  | 41 => some (msZ75,FSem.wk msZ75 FZ75)
  | _ => none
 bxf := fun _ => none
 mv := []
 keep := fun b => match b with
  | 0 => [(0,false),(1,false),(5,false)]
  | _ => []
 keepB := fun b => match b with
  | 0 => []
  | _ => []
 keepX := fun b => match b with
  | 0 => [(4,false)]
  | _ => []
 keepXB := fun b => match b with
  | 0 => []
  | _ => []
theorem goodFZ56:∀ f ms F,EZ56.fn f = some (ms,F) → Sound Tryz.prog f ms F := fun f ms F h => by
 unfold EZ56 at h
 dsimp only at h
 split at h
 ·exact gF sZ75 h
 ·cases h
theorem goodZ56:Good Tryz.prog EZ56 := ⟨rfl,goodFZ56,fun f ms F h => by cases h⟩
noncomputable def OZ56_0:Orc := fun _ _ => none
noncomputable def msZ56:List PM := [.rd,.rd]
noncomputable def lsZ56:List (Nat×Code) := loopsAll 0 (Tryz.f11.body.getD .skip)
noncomputable def cZ56_0:Code := (loopOf 0 (Tryz.f11.body.getD .skip)).getD .skip
theorem lseqZ56:lsZ56 = [(0,cZ56_0)] := by kernel_rfl
theorem mZ56_0:∀ p,p ∈ lsZ56 → p.1 = 0 → p.2 = cZ56_0 := by
 intro p hp
 rw [lseqZ56] at hp
 simp only [List.mem_cons,List.not_mem_nil,or_false] at hp
 subst hp; simp
theorem kZ56_0:OrcOk EZ56 OZ56_0 lsZ56 0 := orcOk_none
noncomputable def hZ56_0 (y0:tL2) (y1:tL2) (y2:Int):List (Pl×LV) := [(.T 0,.t (.val false [.sl .any 83 (.pair (.int .i64) (.pair (.int .i64) (.pair (.int .i64) (.pair (.int .i64) (.pair (.int .i64) (.pair (.int .i64) (.pair (.int .i64) (.pair (.int .i64) (.pair (.int .i64) (.pair (.int .i64) (.int .i64))))))))))) y0])),(.T 1,.t (.val false [.sl .any 83 (.pair (.int .i64) (.pair (.int .i64) (.pair (.int .i64) (.pair (.int .i64) (.pair (.int .i64) (.pair (.int .i64) (.pair (.int .i64) (.pair (.int .i64) (.pair (.int .i64) (.pair (.int .i64) (.int .i64))))))))))) y1])),(.T 5,.t (.val false [.int .i64 y2]))]
noncomputable def g_SZ56_0 (y0:tL2) (y1:tL2):(Int) → RT (Int) ((Bool) ⊕ (Unit))
 | y2 => .br (true) (.br (decide (y2 < (y0.length:Int))) (.br (decide (0 ≤ y2 ∧ y2 < (y0.length:Int))) (.br (decide (0 ≤ y2 ∧ y2 < (y1.length:Int))) (.br (g_AZ75 (at_ yT1 y0 (Int.toNat y2)).1 (at_ yT1 y0 (Int.toNat y2)).2.1 (at_ yT1 y0 (Int.toNat y2)).2.2.1 (at_ yT1 y0 (Int.toNat y2)).2.2.2.1 (at_ yT1 y0 (Int.toNat y2)).2.2.2.2.1 (at_ yT1 y0 (Int.toNat y2)).2.2.2.2.2.1 (at_ yT1 y0 (Int.toNat y2)).2.2.2.2.2.2.1 (at_ yT1 y0 (Int.toNat y2)).2.2.2.2.2.2.2.1 (at_ yT1 y0 (Int.toNat y2)).2.2.2.2.2.2.2.2.1 (at_ yT1 y0 (Int.toNat y2)).2.2.2.2.2.2.2.2.2.1 (at_ yT1 y0 (Int.toNat y2)).2.2.2.2.2.2.2.2.2.2 (at_ yT1 y1 (Int.toNat y2)).1 (at_ yT1 y1 (Int.toNat y2)).2.1 (at_ yT1 y1 (Int.toNat y2)).2.2.1 (at_ yT1 y1 (Int.toNat y2)).2.2.2.1 (at_ yT1 y1 (Int.toNat y2)).2.2.2.2.1 (at_ yT1 y1 (Int.toNat y2)).2.2.2.2.2.1 (at_ yT1 y1 (Int.toNat y2)).2.2.2.2.2.2.1 (at_ yT1 y1 (Int.toNat y2)).2.2.2.2.2.2.2.1 (at_ yT1 y1 (Int.toNat y2)).2.2.2.2.2.2.2.2.1 (at_ yT1 y1 (Int.toNat y2)).2.2.2.2.2.2.2.2.2.1 (at_ yT1 y1 (Int.toNat y2)).2.2.2.2.2.2.2.2.2.2) (.br (!g_VZ75_0 (at_ yT1 y0 (Int.toNat y2)).1 (at_ yT1 y0 (Int.toNat y2)).2.1 (at_ yT1 y0 (Int.toNat y2)).2.2.1 (at_ yT1 y0 (Int.toNat y2)).2.2.2.1 (at_ yT1 y0 (Int.toNat y2)).2.2.2.2.1 (at_ yT1 y0 (Int.toNat y2)).2.2.2.2.2.1 (at_ yT1 y0 (Int.toNat y2)).2.2.2.2.2.2.1 (at_ yT1 y0 (Int.toNat y2)).2.2.2.2.2.2.2.1 (at_ yT1 y0 (Int.toNat y2)).2.2.2.2.2.2.2.2.1 (at_ yT1 y0 (Int.toNat y2)).2.2.2.2.2.2.2.2.2.1 (at_ yT1 y0 (Int.toNat y2)).2.2.2.2.2.2.2.2.2.2 (at_ yT1 y1 (Int.toNat y2)).1 (at_ yT1 y1 (Int.toNat y2)).2.1 (at_ yT1 y1 (Int.toNat y2)).2.2.1 (at_ yT1 y1 (Int.toNat y2)).2.2.2.1 (at_ yT1 y1 (Int.toNat y2)).2.2.2.2.1 (at_ yT1 y1 (Int.toNat y2)).2.2.2.2.2.1 (at_ yT1 y1 (Int.toNat y2)).2.2.2.2.2.2.1 (at_ yT1 y1 (Int.toNat y2)).2.2.2.2.2.2.2.1 (at_ yT1 y1 (Int.toNat y2)).2.2.2.2.2.2.2.2.1 (at_ yT1 y1 (Int.toNat y2)).2.2.2.2.2.2.2.2.2.1 (at_ yT1 y1 (Int.toNat y2)).2.2.2.2.2.2.2.2.2.2) (.out (.inl false)) (.br (true) (.go (IntKind.i64.wrap (y2 + 1))) .bad)) .bad) .bad) .bad) (.out (.inr (())))) .bad
noncomputable def g_LZ56_0 (y0:tL2) (y1:tL2) (x:Int):Option ((Bool) ⊕ (Unit)) := loopO (g_SZ56_0 y0 y1) x
noncomputable def xZ56_0 (y0:tL2) (y1:tL2):((Bool) ⊕ (Unit)) → Ex×List (Pl×LV) := fun
 | .inl r => (.ret,[(.T 4,.t (.val false [.bool r]))])
 | .inr (r) => (.exit 0,[(.T 4,.t (.val false [.undef]))])
noncomputable def OZ56_1:Orc := fun b h => match b,h with
 | 0,[(.T 0,.t (.val false [.sl .any 83 (.pair (.int .i64) (.pair (.int .i64) (.pair (.int .i64) (.pair (.int .i64) (.pair (.int .i64) (.pair (.int .i64) (.pair (.int .i64) (.pair (.int .i64) (.pair (.int .i64) (.pair (.int .i64) (.int .i64))))))))))) y0])),(.T 1,.t (.val false [.sl .any 83 (.pair (.int .i64) (.pair (.int .i64) (.pair (.int .i64) (.pair (.int .i64) (.pair (.int .i64) (.pair (.int .i64) (.pair (.int .i64) (.pair (.int .i64) (.pair (.int .i64) (.pair (.int .i64) (.int .i64))))))))))) y1])),(.T 5,.t (.val false [.int .i64 y2]))] => some (okO (g_LZ56_0 y0 y1 y2),(.br (isL (valO (g_LZ56_0 y0 y1 y2))) (.leaf .ret [(.T 4,.t (.val false [.bool (getL (valO (g_LZ56_0 y0 y1 y2)))]))]) (.leaf (.exit 0) [(.T 4,.t (.val false [.undef]))])))
 | b,h => OZ56_0 b h
theorem bZ56_0 (y0:tL2) (y1:tL2) (y2:Int):Tr.bt EZ56 OZ56_0 (exec EZ56 0 cZ56_0 (St.of (hZ56_0 y0 y1 y2)) (leafRd EZ56 0)) = (g_SZ56_0 y0 y1 y2).bt (fun (y2:Int) => (hZ56_0 y0 y1 y2)) (xZ56_0 y0 y1) := by kernel_rfl
theorem kZ56_1:OrcOk EZ56 OZ56_1 lsZ56 1 := orc_add kZ56_0 (fun n p hp h ex h' ho => by
 obtain ⟨b,c⟩ := p
 obtain ⟨xt,h1,h2⟩ := ho
 have h1:OZ56_1 b h = some (true,xt) := h1
 unfold OZ56_1 at h1
 split at h1
 ·injection h1 with h1
  injection h1 with e1 e2
  subst e2
  have hc:c = cZ56_0 := mZ56_0 _ hp rfl
  subst hc
  right
  rename_i y0 y1 y2
  have key := LT_step kZ56_0 hp (fun q hq => loopsAll_in _ _ _ _ hp hq) (fun (y2:Int) => (hZ56_0 y0 y1 y2)) (xZ56_0 y0 y1) (g_SZ56_0 y0 y1) (fun x => by first | exact bZ56_0 y0 y1 x) n (x := y2) (okO_some e1)
  have hx:∀ r,XT.sel (.br (isL r) (.leaf .ret [(.T 4,.t (.val false [.bool (getL r)]))]) (.leaf (.exit 0) [(.T 4,.t (.val false [.undef]))])) = xZ56_0 y0 y1 r := fun r => by first | rfl | rcases r with r | r <;> rfl | rcases r with r | r | r <;> rfl | rcases r with r | r | r | r <;> rfl
  have h3 := (hx (valO (g_LZ56_0 y0 y1 y2))).symm.trans h2
  have e3 := congrArg Prod.fst h3
  have e4 := congrArg Prod.snd h3
  simp only at e3 e4
  rw [← e3,← e4]
  exact key
 ·exact .inl ⟨xt,h1,h2⟩)
noncomputable def g_AZ56 (a0:tL2) (a1:tL2):Bool := (a0.length:Int) != (a1.length:Int) || okO (g_LZ56_0 a0 a1 (0:Int))
noncomputable def g_VZ56_0 (a0:tL2) (a1:tL2):Bool := bif (a0.length:Int) != (a1.length:Int) then false else bif isL (valO (g_LZ56_0 a0 a1 (0:Int))) then getL (valO (g_LZ56_0 a0 a1 (0:Int))) else true
noncomputable def FZ56:FSem := fun ys => match ys with
 | [.val false [.sl .any 83 (.pair (.int .i64) (.pair (.int .i64) (.pair (.int .i64) (.pair (.int .i64) (.pair (.int .i64) (.pair (.int .i64) (.pair (.int .i64) (.pair (.int .i64) (.pair (.int .i64) (.pair (.int .i64) (.int .i64))))))))))) a0],.val false [.sl .any 83 (.pair (.int .i64) (.pair (.int .i64) (.pair (.int .i64) (.pair (.int .i64) (.pair (.int .i64) (.pair (.int .i64) (.pair (.int .i64) (.pair (.int .i64) (.pair (.int .i64) (.pair (.int .i64) (.int .i64))))))))))) a1]] => some ((g_AZ56 a0 a1),.val false [.bool (g_VZ56_0 a0 a1)],[])
 | _ => none
theorem vZ56 (a0:tL2) (a1:tL2):collapseH .std EZ56 OZ56_1 (execFn EZ56 Tryz.f11 msZ56 [.val false [.sl .any 83 (.pair (.int .i64) (.pair (.int .i64) (.pair (.int .i64) (.pair (.int .i64) (.pair (.int .i64) (.pair (.int .i64) (.pair (.int .i64) (.pair (.int .i64) (.pair (.int .i64) (.pair (.int .i64) (.int .i64))))))))))) a0],.val false [.sl .any 83 (.pair (.int .i64) (.pair (.int .i64) (.pair (.int .i64) (.pair (.int .i64) (.pair (.int .i64) (.pair (.int .i64) (.pair (.int .i64) (.pair (.int .i64) (.pair (.int .i64) (.pair (.int .i64) (.int .i64))))))))))) a1]]) = some ((g_AZ56 a0 a1),.val false [.bool (g_VZ56_0 a0 a1)],[]) := by kernel_rfl
theorem sZ56:Sound Tryz.prog 11 msZ56 FZ56 := by
 refine fn_gen goodZ56 (by kernel_rfl) .std (fn := Tryz.f11) (c := (Tryz.f11.body.getD .skip)) (o := OZ56_1) (k := 1) (by kernel_rfl) (by kernel_rfl) (by kernel_rfl) (by kernel_rfl) (by decide) kZ56_1 ?_
 intro ys r outs h
 unfold FZ56 at h
 split at h
 ·exact (vZ56 _ _).trans h
 ·cases h
noncomputable def Ew_eqOpOpS:Env where
 tt := mkTI Tryz.prog
 fn := fun f => match f with
  | 102 => some (msw_eqOpOp,FSem.wk msw_eqOpOp Fw_eqOpOp)
  | _ => none
 bxf := fun _ => none
 mv := []
 keep := fun b => match b with
  | 0 => [(0,false),(1,false),(5,false)]
  | _ => []
 keepB := fun b => match b with
  | 0 => []
  | _ => []
 keepX := fun b => match b with
  | 0 => [(4,false)]
  | _ => []
 keepXB := fun b => match b with
  | 0 => []
  | _ => []
theorem goodFw_eqOpOpS:∀ f ms F,Ew_eqOpOpS.fn f = some (ms,F) → Sound Tryz.prog f ms F := fun f ms F h => by
 unfold Ew_eqOpOpS at h
 dsimp only at h
 split at h
 ·exact gF sw_eqOpOp h
 ·cases h
theorem goodw_eqOpOpS:Good Tryz.prog Ew_eqOpOpS := ⟨rfl,goodFw_eqOpOpS,fun f ms F h => by cases h⟩
noncomputable def Ow_eqOpOpS_0:Orc := fun _ _ => none
noncomputable def msw_eqOpOpS:List PM := [.rd,.rd]
noncomputable def lsw_eqOpOpS:List (Nat×Code) := loopsAll 0 (Tryz.f86.body.getD .skip)
noncomputable def cw_eqOpOpS_0:Code := (loopOf 0 (Tryz.f86.body.getD .skip)).getD .skip
theorem lseqw_eqOpOpS:lsw_eqOpOpS = [(0,cw_eqOpOpS_0)] := by kernel_rfl
theorem mw_eqOpOpS_0:∀ p,p ∈ lsw_eqOpOpS → p.1 = 0 → p.2 = cw_eqOpOpS_0 := by
 intro p hp
 rw [lseqw_eqOpOpS] at hp
 simp only [List.mem_cons,List.not_mem_nil,or_false] at hp
 subst hp; simp
theorem kw_eqOpOpS_0:OrcOk Ew_eqOpOpS Ow_eqOpOpS_0 lsw_eqOpOpS 0 := orcOk_none
noncomputable def hw_eqOpOpS_0 (y0:tL3) (y1:tL3) (y2:Int):List (Pl×LV) := [(.T 0,.t (.val false [.sl .any 49 (.pair (.int .i64) (.pair (.int .i64) (.pair (.int .i64) (.pair (.int .i64) (.pair (.int .i64) (.pair (.int .i64) (.int .i64))))))) y0])),(.T 1,.t (.val false [.sl .any 49 (.pair (.int .i64) (.pair (.int .i64) (.pair (.int .i64) (.pair (.int .i64) (.pair (.int .i64) (.pair (.int .i64) (.int .i64))))))) y1])),(.T 5,.t (.val false [.int .i64 y2]))]
noncomputable def g_Sw_eqOpOpS_0 (y0:tL3) (y1:tL3):(Int) → RT (Int) ((Bool) ⊕ (Unit))
 | y2 => .br (true) (.br (decide (y2 < (y0.length:Int))) (.br (decide (0 ≤ y2 ∧ y2 < (y0.length:Int))) (.br (decide (0 ≤ y2 ∧ y2 < (y1.length:Int))) (.br (g_Aw_eqOpOp (at_ yT2 y0 (Int.toNat y2)).1 (at_ yT2 y0 (Int.toNat y2)).2.1 (at_ yT2 y0 (Int.toNat y2)).2.2.1 (at_ yT2 y0 (Int.toNat y2)).2.2.2.1 (at_ yT2 y0 (Int.toNat y2)).2.2.2.2.1 (at_ yT2 y0 (Int.toNat y2)).2.2.2.2.2.1 (at_ yT2 y0 (Int.toNat y2)).2.2.2.2.2.2 (at_ yT2 y1 (Int.toNat y2)).1 (at_ yT2 y1 (Int.toNat y2)).2.1 (at_ yT2 y1 (Int.toNat y2)).2.2.1 (at_ yT2 y1 (Int.toNat y2)).2.2.2.1 (at_ yT2 y1 (Int.toNat y2)).2.2.2.2.1 (at_ yT2 y1 (Int.toNat y2)).2.2.2.2.2.1 (at_ yT2 y1 (Int.toNat y2)).2.2.2.2.2.2) (.br (!g_Vw_eqOpOp_0 (at_ yT2 y0 (Int.toNat y2)).1 (at_ yT2 y0 (Int.toNat y2)).2.1 (at_ yT2 y0 (Int.toNat y2)).2.2.1 (at_ yT2 y0 (Int.toNat y2)).2.2.2.1 (at_ yT2 y0 (Int.toNat y2)).2.2.2.2.1 (at_ yT2 y0 (Int.toNat y2)).2.2.2.2.2.1 (at_ yT2 y0 (Int.toNat y2)).2.2.2.2.2.2 (at_ yT2 y1 (Int.toNat y2)).1 (at_ yT2 y1 (Int.toNat y2)).2.1 (at_ yT2 y1 (Int.toNat y2)).2.2.1 (at_ yT2 y1 (Int.toNat y2)).2.2.2.1 (at_ yT2 y1 (Int.toNat y2)).2.2.2.2.1 (at_ yT2 y1 (Int.toNat y2)).2.2.2.2.2.1 (at_ yT2 y1 (Int.toNat y2)).2.2.2.2.2.2) (.out (.inl false)) (.br (true) (.go (IntKind.i64.wrap (y2 + 1))) .bad)) .bad) .bad) .bad) (.out (.inr (())))) .bad
noncomputable def g_Lw_eqOpOpS_0 (y0:tL3) (y1:tL3) (x:Int):Option ((Bool) ⊕ (Unit)) := loopO (g_Sw_eqOpOpS_0 y0 y1) x
noncomputable def xw_eqOpOpS_0 (y0:tL3) (y1:tL3):((Bool) ⊕ (Unit)) → Ex×List (Pl×LV) := fun
 | .inl r => (.ret,[(.T 4,.t (.val false [.bool r]))])
 | .inr (r) => (.exit 0,[(.T 4,.t (.val false [.undef]))])
noncomputable def Ow_eqOpOpS_1:Orc := fun b h => match b,h with
 | 0,[(.T 0,.t (.val false [.sl .any 49 (.pair (.int .i64) (.pair (.int .i64) (.pair (.int .i64) (.pair (.int .i64) (.pair (.int .i64) (.pair (.int .i64) (.int .i64))))))) y0])),(.T 1,.t (.val false [.sl .any 49 (.pair (.int .i64) (.pair (.int .i64) (.pair (.int .i64) (.pair (.int .i64) (.pair (.int .i64) (.pair (.int .i64) (.int .i64))))))) y1])),(.T 5,.t (.val false [.int .i64 y2]))] => some (okO (g_Lw_eqOpOpS_0 y0 y1 y2),(.br (isL (valO (g_Lw_eqOpOpS_0 y0 y1 y2))) (.leaf .ret [(.T 4,.t (.val false [.bool (getL (valO (g_Lw_eqOpOpS_0 y0 y1 y2)))]))]) (.leaf (.exit 0) [(.T 4,.t (.val false [.undef]))])))
 | b,h => Ow_eqOpOpS_0 b h
theorem bw_eqOpOpS_0 (y0:tL3) (y1:tL3) (y2:Int):Tr.bt Ew_eqOpOpS Ow_eqOpOpS_0 (exec Ew_eqOpOpS 0 cw_eqOpOpS_0 (St.of (hw_eqOpOpS_0 y0 y1 y2)) (leafRd Ew_eqOpOpS 0)) = (g_Sw_eqOpOpS_0 y0 y1 y2).bt (fun (y2:Int) => (hw_eqOpOpS_0 y0 y1 y2)) (xw_eqOpOpS_0 y0 y1) := by kernel_rfl
theorem kw_eqOpOpS_1:OrcOk Ew_eqOpOpS Ow_eqOpOpS_1 lsw_eqOpOpS 1 := orc_add kw_eqOpOpS_0 (fun n p hp h ex h' ho => by
 obtain ⟨b,c⟩ := p
 obtain ⟨xt,h1,h2⟩ := ho
 have h1:Ow_eqOpOpS_1 b h = some (true,xt) := h1
 unfold Ow_eqOpOpS_1 at h1
 split at h1
 ·injection h1 with h1
  injection h1 with e1 e2
  subst e2
  have hc:c = cw_eqOpOpS_0 := mw_eqOpOpS_0 _ hp rfl
  subst hc
  right
  rename_i y0 y1 y2
  have key := LT_step kw_eqOpOpS_0 hp (fun q hq => loopsAll_in _ _ _ _ hp hq) (fun (y2:Int) => (hw_eqOpOpS_0 y0 y1 y2)) (xw_eqOpOpS_0 y0 y1) (g_Sw_eqOpOpS_0 y0 y1) (fun x => by first | exact bw_eqOpOpS_0 y0 y1 x) n (x := y2) (okO_some e1)
  have hx:∀ r,XT.sel (.br (isL r) (.leaf .ret [(.T 4,.t (.val false [.bool (getL r)]))]) (.leaf (.exit 0) [(.T 4,.t (.val false [.undef]))])) = xw_eqOpOpS_0 y0 y1 r := fun r => by first | rfl | rcases r with r | r <;> rfl | rcases r with r | r | r <;> rfl | rcases r with r | r | r | r <;> rfl
  have h3 := (hx (valO (g_Lw_eqOpOpS_0 y0 y1 y2))).symm.trans h2
  have e3 := congrArg Prod.fst h3
  have e4 := congrArg Prod.snd h3
  simp only at e3 e4
  rw [← e3,← e4]
  exact key
 ·exact .inl ⟨xt,h1,h2⟩)
noncomputable def g_Aw_eqOpOpS (a0:tL3) (a1:tL3):Bool := (a0.length:Int) != (a1.length:Int) || okO (g_Lw_eqOpOpS_0 a0 a1 (0:Int))
noncomputable def g_Vw_eqOpOpS_0 (a0:tL3) (a1:tL3):Bool := bif (a0.length:Int) != (a1.length:Int) then false else bif isL (valO (g_Lw_eqOpOpS_0 a0 a1 (0:Int))) then getL (valO (g_Lw_eqOpOpS_0 a0 a1 (0:Int))) else true
noncomputable def Fw_eqOpOpS:FSem := fun ys => match ys with
 | [.val false [.sl .any 49 (.pair (.int .i64) (.pair (.int .i64) (.pair (.int .i64) (.pair (.int .i64) (.pair (.int .i64) (.pair (.int .i64) (.int .i64))))))) a0],.val false [.sl .any 49 (.pair (.int .i64) (.pair (.int .i64) (.pair (.int .i64) (.pair (.int .i64) (.pair (.int .i64) (.pair (.int .i64) (.int .i64))))))) a1]] => some ((g_Aw_eqOpOpS a0 a1),.val false [.bool (g_Vw_eqOpOpS_0 a0 a1)],[])
 | _ => none
theorem vw_eqOpOpS (a0:tL3) (a1:tL3):collapseH .std Ew_eqOpOpS Ow_eqOpOpS_1 (execFn Ew_eqOpOpS Tryz.f86 msw_eqOpOpS [.val false [.sl .any 49 (.pair (.int .i64) (.pair (.int .i64) (.pair (.int .i64) (.pair (.int .i64) (.pair (.int .i64) (.pair (.int .i64) (.int .i64))))))) a0],.val false [.sl .any 49 (.pair (.int .i64) (.pair (.int .i64) (.pair (.int .i64) (.pair (.int .i64) (.pair (.int .i64) (.pair (.int .i64) (.int .i64))))))) a1]]) = some ((g_Aw_eqOpOpS a0 a1),.val false [.bool (g_Vw_eqOpOpS_0 a0 a1)],[]) := by kernel_rfl
theorem sw_eqOpOpS:Sound Tryz.prog 86 msw_eqOpOpS Fw_eqOpOpS := by
 refine fn_gen goodw_eqOpOpS (by kernel_rfl) .std (fn := Tryz.f86) (c := (Tryz.f86.body.getD .skip)) (o := Ow_eqOpOpS_1) (k := 1) (by kernel_rfl) (by kernel_rfl) (by kernel_rfl) (by kernel_rfl) (by decide) kw_eqOpOpS_1 ?_
 intro ys r outs h
 unfold Fw_eqOpOpS at h
 split at h
 ·exact (vw_eqOpOpS _ _).trans h
 ·cases h
noncomputable def EZ40:Env where
 tt := mkTI Tryz.prog
 fn := fun f => match f with
  | 11 => some (msZ56,FSem.wk msZ56 FZ56)
  | 12 => some (msZ38,FSem.wk msZ38 FZ38)
  | 85 => some (msZ39,FSem.wk msZ39 FZ39)
  | 86 => some (msw_eqOpOpS,FSem.wk msw_eqOpOpS Fw_eqOpOpS)
  | 87 => some (msZ52,FSem.wk msZ52 FZ52)
  | _ => none
 bxf := fun _ => none
 mv := []
 keep := fun _ => []
 keepB := fun _ => []
 keepX := fun _ => []
 keepXB := fun _ => []
theorem goodFZ40:∀ f ms F,EZ40.fn f = some (ms,F) → Sound Tryz.prog f ms F := fun f ms F h => by
 unfold EZ40 at h
 dsimp only at h
 split at h
 ·exact gF sZ56 h
 ·exact gF sZ38 h
 ·exact gF sZ39 h
 ·exact gF sw_eqOpOpS h
 ·exact gF sZ52 h
 ·cases h
theorem goodZ40:Good Tryz.prog EZ40 := ⟨rfl,goodFZ40,fun f ms F h => by cases h⟩
noncomputable def OZ40_0:Orc := fun _ _ => none
noncomputable def msZ40:List PM := [.rd,.rd]
noncomputable def lsZ40:List (Nat×Code) := loopsAll 0 (Tryz.f26.body.getD .skip)
theorem kZ40_0:OrcOk EZ40 OZ40_0 lsZ40 0 := orcOk_none
noncomputable def g_AZ40 (a0:tL0) (a1:Int) (a2:tL1) (a3:List (tL0×Int)) (a4:tL2) (a5:tL3) (a6:List (Int×Bool)) (a7:tL0) (a8:Int) (a9:tL1) (a10:List (tL0×Int)) (a11:tL2) (a12:tL3) (a13:List (Int×Bool)):Bool := g_AZ38 a0 a1 a2 a7 a8 a9&&(!g_VZ38_0 a0 a1 a2 a7 a8 a9 || g_AZ39 a3 a10&&(!g_VZ39_0 a3 a10 || g_AZ56 a4 a11&&(!g_VZ56_0 a4 a11 || g_Aw_eqOpOpS a5 a12&&(!g_Vw_eqOpOpS_0 a5 a12 || g_AZ52 a6 a13))))
noncomputable def g_VZ40_0 (a0:tL0) (a1:Int) (a2:tL1) (a3:List (tL0×Int)) (a4:tL2) (a5:tL3) (a6:List (Int×Bool)) (a7:tL0) (a8:Int) (a9:tL1) (a10:List (tL0×Int)) (a11:tL2) (a12:tL3) (a13:List (Int×Bool)):Bool := bif !g_VZ38_0 a0 a1 a2 a7 a8 a9 then false else bif !g_VZ39_0 a3 a10 then false else bif !g_VZ56_0 a4 a11 then false else bif !g_Vw_eqOpOpS_0 a5 a12 then false else bif !g_VZ52_0 a6 a13 then false else true
noncomputable def FZ40:FSem := fun ys => match ys with
 | [.val true [.sl .any 92 (.pair (.int .i64) (.pair (.int .i64) (.pair (.sl 9 .str) (.sl 155 (.pair .str (.pair .bool (.sl 3 (.int .i64)))))))) a0,.int .i64 a1,.sl .any 73 (.pair (.int .i64) (.pair (.pair (.int .i64) (.pair (.int .i64) (.pair (.int .i64) (.pair (.int .i64) (.pair (.int .i64) (.pair (.int .i64) (.int .i64))))))) (.pair .bool (.pair (.sl 3 (.int .i64)) (.sl 3 (.int .i64)))))) a2,.sl .any 33 (.pair (.sl 92 (.pair (.int .i64) (.pair (.int .i64) (.pair (.sl 9 .str) (.sl 155 (.pair .str (.pair .bool (.sl 3 (.int .i64))))))))) (.int .i64)) a3,.sl .any 83 (.pair (.int .i64) (.pair (.int .i64) (.pair (.int .i64) (.pair (.int .i64) (.pair (.int .i64) (.pair (.int .i64) (.pair (.int .i64) (.pair (.int .i64) (.pair (.int .i64) (.pair (.int .i64) (.int .i64))))))))))) a4,.sl .any 49 (.pair (.int .i64) (.pair (.int .i64) (.pair (.int .i64) (.pair (.int .i64) (.pair (.int .i64) (.pair (.int .i64) (.int .i64))))))) a5,.sl .any 110 (.pair (.int .i64) .bool) a6],.val true [.sl .any 92 (.pair (.int .i64) (.pair (.int .i64) (.pair (.sl 9 .str) (.sl 155 (.pair .str (.pair .bool (.sl 3 (.int .i64)))))))) a7,.int .i64 a8,.sl .any 73 (.pair (.int .i64) (.pair (.pair (.int .i64) (.pair (.int .i64) (.pair (.int .i64) (.pair (.int .i64) (.pair (.int .i64) (.pair (.int .i64) (.int .i64))))))) (.pair .bool (.pair (.sl 3 (.int .i64)) (.sl 3 (.int .i64)))))) a9,.sl .any 33 (.pair (.sl 92 (.pair (.int .i64) (.pair (.int .i64) (.pair (.sl 9 .str) (.sl 155 (.pair .str (.pair .bool (.sl 3 (.int .i64))))))))) (.int .i64)) a10,.sl .any 83 (.pair (.int .i64) (.pair (.int .i64) (.pair (.int .i64) (.pair (.int .i64) (.pair (.int .i64) (.pair (.int .i64) (.pair (.int .i64) (.pair (.int .i64) (.pair (.int .i64) (.pair (.int .i64) (.int .i64))))))))))) a11,.sl .any 49 (.pair (.int .i64) (.pair (.int .i64) (.pair (.int .i64) (.pair (.int .i64) (.pair (.int .i64) (.pair (.int .i64) (.int .i64))))))) a12,.sl .any 110 (.pair (.int .i64) .bool) a13]] => some ((g_AZ40 a0 a1 a2 a3 a4 a5 a6 a7 a8 a9 a10 a11 a12 a13),.val false [.bool (g_VZ40_0 a0 a1 a2 a3 a4 a5 a6 a7 a8 a9 a10 a11 a12 a13)],[])
 | _ => none
theorem vZ40 (a0:tL0) (a1:Int) (a2:tL1) (a3:List (tL0×Int)) (a4:tL2) (a5:tL3) (a6:List (Int×Bool)) (a7:tL0) (a8:Int) (a9:tL1) (a10:List (tL0×Int)) (a11:tL2) (a12:tL3) (a13:List (Int×Bool)):collapseH .std EZ40 OZ40_0 (execFn EZ40 Tryz.f26 msZ40 [.val true [.sl .any 92 (.pair (.int .i64) (.pair (.int .i64) (.pair (.sl 9 .str) (.sl 155 (.pair .str (.pair .bool (.sl 3 (.int .i64)))))))) a0,.int .i64 a1,.sl .any 73 (.pair (.int .i64) (.pair (.pair (.int .i64) (.pair (.int .i64) (.pair (.int .i64) (.pair (.int .i64) (.pair (.int .i64) (.pair (.int .i64) (.int .i64))))))) (.pair .bool (.pair (.sl 3 (.int .i64)) (.sl 3 (.int .i64)))))) a2,.sl .any 33 (.pair (.sl 92 (.pair (.int .i64) (.pair (.int .i64) (.pair (.sl 9 .str) (.sl 155 (.pair .str (.pair .bool (.sl 3 (.int .i64))))))))) (.int .i64)) a3,.sl .any 83 (.pair (.int .i64) (.pair (.int .i64) (.pair (.int .i64) (.pair (.int .i64) (.pair (.int .i64) (.pair (.int .i64) (.pair (.int .i64) (.pair (.int .i64) (.pair (.int .i64) (.pair (.int .i64) (.int .i64))))))))))) a4,.sl .any 49 (.pair (.int .i64) (.pair (.int .i64) (.pair (.int .i64) (.pair (.int .i64) (.pair (.int .i64) (.pair (.int .i64) (.int .i64))))))) a5,.sl .any 110 (.pair (.int .i64) .bool) a6],.val true [.sl .any 92 (.pair (.int .i64) (.pair (.int .i64) (.pair (.sl 9 .str) (.sl 155 (.pair .str (.pair .bool (.sl 3 (.int .i64)))))))) a7,.int .i64 a8,.sl .any 73 (.pair (.int .i64) (.pair (.pair (.int .i64) (.pair (.int .i64) (.pair (.int .i64) (.pair (.int .i64) (.pair (.int .i64) (.pair (.int .i64) (.int .i64))))))) (.pair .bool (.pair (.sl 3 (.int .i64)) (.sl 3 (.int .i64)))))) a9,.sl .any 33 (.pair (.sl 92 (.pair (.int .i64) (.pair (.int .i64) (.pair (.sl 9 .str) (.sl 155 (.pair .str (.pair .bool (.sl 3 (.int .i64))))))))) (.int .i64)) a10,.sl .any 83 (.pair (.int .i64) (.pair (.int .i64) (.pair (.int .i64) (.pair (.int .i64) (.pair (.int .i64) (.pair (.int .i64) (.pair (.int .i64) (.pair (.int .i64) (.pair (.int .i64) (.pair (.int .i64) (.int .i64))))))))))) a11,.sl .any 49 (.pair (.int .i64) (.pair (.int .i64) (.pair (.int .i64) (.pair (.int .i64) (.pair (.int .i64) (.pair (.int .i64) (.int .i64))))))) a12,.sl .any 110 (.pair (.int .i64) .bool) a13]]) = some ((g_AZ40 a0 a1 a2 a3 a4 a5 a6 a7 a8 a9 a10 a11 a12 a13),.val false [.bool (g_VZ40_0 a0 a1 a2 a3 a4 a5 a6 a7 a8 a9 a10 a11 a12 a13)],[]) := by kernel_rfl
theorem sZ40:Sound Tryz.prog 26 msZ40 FZ40 := by
 refine fn_gen goodZ40 (by kernel_rfl) .std (fn := Tryz.f26) (c := (Tryz.f26.body.getD .skip)) (o := OZ40_0) (k := 0) (by kernel_rfl) (by kernel_rfl) (by kernel_rfl) (by kernel_rfl) (by decide) kZ40_0 ?_
 intro ys r outs h
 unfold FZ40 at h
 split at h
 ·exact (vZ40 _ _ _ _ _ _ _ _ _ _ _ _ _ _).trans h
 ·cases h
noncomputable def EZ57:Env where
 tt := mkTI Tryz.prog
 fn := fun _ => none
 bxf := fun _ => none
 mv := []
 keep := fun _ => []
 keepB := fun _ => []
 keepX := fun _ => []
 keepXB := fun _ => []
theorem goodFZ57:∀ f ms F,EZ57.fn f = some (ms,F) → Sound Tryz.prog f ms F := fun f ms F h => by cases h
theorem goodZ57:Good Tryz.prog EZ57 := ⟨rfl,goodFZ57,fun f ms F h => by cases h⟩
noncomputable def OZ57_0:Orc := fun _ _ => none
noncomputable def msZ57:List PM := [.rd,.own]
noncomputable def lsZ57:List (Nat×Code) := loopsAll 0 (Tryz.f65.body.getD .skip)
theorem kZ57_0:OrcOk EZ57 OZ57_0 lsZ57 0 := orcOk_none
noncomputable def g_VZ57_0 (a0:List (Int×Bool)) (a1:Int):Int := bif decide (IntKind.i64.wrap (a1 - (a0.length:Int)) < 0) then (-1:Int) else IntKind.i64.wrap (a1 - (a0.length:Int))
noncomputable def FZ57:FSem := fun ys => match ys with
 | [.val false [.sl .any 153 (.pair (.int .i64) .bool) a0],.val false [.int .i64 a1]] => some (true,.val false [.int .i64 (g_VZ57_0 a0 a1)],[])
 | _ => none
theorem vZ57 (a0:List (Int×Bool)) (a1:Int):collapseH .std EZ57 OZ57_0 (execFn EZ57 Tryz.f65 msZ57 [.val false [.sl .any 153 (.pair (.int .i64) .bool) a0],.val false [.int .i64 a1]]) = some (true,.val false [.int .i64 (g_VZ57_0 a0 a1)],[]) := by kernel_rfl
theorem sZ57:Sound Tryz.prog 65 msZ57 FZ57 := by
 refine fn_gen goodZ57 (by kernel_rfl) .std (fn := Tryz.f65) (c := (Tryz.f65.body.getD .skip)) (o := OZ57_0) (k := 0) (by kernel_rfl) (by kernel_rfl) (by kernel_rfl) (by kernel_rfl) (by decide) kZ57_0 ?_
 intro ys r outs h
 unfold FZ57 at h
 split at h
 ·exact (vZ57 _ _).trans h
 ·cases h
noncomputable def Ew_szIntS:Env where
 tt := mkTI Tryz.prog
 fn := fun _ => none
 bxf := fun _ => none
 mv := []
 keep := fun _ => []
 keepB := fun _ => []
 keepX := fun _ => []
 keepXB := fun _ => []
theorem goodFw_szIntS:∀ f ms F,Ew_szIntS.fn f = some (ms,F) → Sound Tryz.prog f ms F := fun f ms F h => by cases h
theorem goodw_szIntS:Good Tryz.prog Ew_szIntS := ⟨rfl,goodFw_szIntS,fun f ms F h => by cases h⟩
noncomputable def Ow_szIntS_0:Orc := fun _ _ => none
noncomputable def msw_szIntS:List PM := [.rd,.own]
noncomputable def lsw_szIntS:List (Nat×Code) := loopsAll 0 (Tryz.f133.body.getD .skip)
theorem kw_szIntS_0:OrcOk Ew_szIntS Ow_szIntS_0 lsw_szIntS 0 := orcOk_none
noncomputable def g_Vw_szIntS_0 (a0:List Int) (a1:Int):Int := bif decide (IntKind.i64.wrap (a1 - (a0.length:Int)) < 0) then (-1:Int) else IntKind.i64.wrap (a1 - (a0.length:Int))
noncomputable def Fw_szIntS:FSem := fun ys => match ys with
 | [.val false [.sl .any 3 (.int .i64) a0],.val false [.int .i64 a1]] => some (true,.val false [.int .i64 (g_Vw_szIntS_0 a0 a1)],[])
 | _ => none
theorem vw_szIntS (a0:List Int) (a1:Int):collapseH .std Ew_szIntS Ow_szIntS_0 (execFn Ew_szIntS Tryz.f133 msw_szIntS [.val false [.sl .any 3 (.int .i64) a0],.val false [.int .i64 a1]]) = some (true,.val false [.int .i64 (g_Vw_szIntS_0 a0 a1)],[]) := by kernel_rfl
theorem sw_szIntS:Sound Tryz.prog 133 msw_szIntS Fw_szIntS := by
 refine fn_gen goodw_szIntS (by kernel_rfl) .std (fn := Tryz.f133) (c := (Tryz.f133.body.getD .skip)) (o := Ow_szIntS_0) (k := 0) (by kernel_rfl) (by kernel_rfl) (by kernel_rfl) (by kernel_rfl) (by decide) kw_szIntS_0 ?_
 intro ys r outs h
 unfold Fw_szIntS at h
 split at h
 ·exact (vw_szIntS _ _).trans h
 ·cases h
noncomputable def Ew_szFroTx:Env where
 tt := mkTI Tryz.prog
 fn := fun f => match f with
  | 133 => some (msw_szIntS,FSem.wk msw_szIntS Fw_szIntS)
  | _ => none
 bxf := fun _ => none
 mv := []
 keep := fun _ => []
 keepB := fun _ => []
 keepX := fun _ => []
 keepXB := fun _ => []
theorem goodFw_szFroTx:∀ f ms F,Ew_szFroTx.fn f = some (ms,F) → Sound Tryz.prog f ms F := fun f ms F h => by
 unfold Ew_szFroTx at h
 dsimp only at h
 split at h
 ·exact gF sw_szIntS h
 ·cases h
theorem goodw_szFroTx:Good Tryz.prog Ew_szFroTx := ⟨rfl,goodFw_szFroTx,fun f ms F h => by cases h⟩
noncomputable def Ow_szFroTx_0:Orc := fun _ _ => none
noncomputable def msw_szFroTx:List PM := [.rd,.own]
noncomputable def lsw_szFroTx:List (Nat×Code) := loopsAll 0 (Tryz.f89.body.getD .skip)
theorem kw_szFroTx_0:OrcOk Ew_szFroTx Ow_szFroTx_0 lsw_szFroTx 0 := orcOk_none
noncomputable def g_Aw_szFroTx (a0:Int) (a1:Int) (a2:Int) (a3:Int) (a4:Int) (a5:Int) (a6:Int) (a7:Int) (a8:Bool) (a9:List Int) (a10:List Int) (a11:Int):Bool := decide (g_Vw_szIntS_0 a9 a11 < 0) || true
noncomputable def g_Vw_szFroTx_0 (a0:Int) (a1:Int) (a2:Int) (a3:Int) (a4:Int) (a5:Int) (a6:Int) (a7:Int) (a8:Bool) (a9:List Int) (a10:List Int) (a11:Int):Int := bif decide (g_Vw_szIntS_0 a9 a11 < 0) then (-1:Int) else bif decide (g_Vw_szIntS_0 a10 (g_Vw_szIntS_0 a9 a11) < 0) then (-1:Int) else g_Vw_szIntS_0 a10 (g_Vw_szIntS_0 a9 a11)
noncomputable def Fw_szFroTx:FSem := fun ys => match ys with
 | [.val true [.int .i64 a0,.int .i64 a1,.int .i64 a2,.int .i64 a3,.int .i64 a4,.int .i64 a5,.int .i64 a6,.int .i64 a7,.bool a8,.sl .any 3 (.int .i64) a9,.sl .any 3 (.int .i64) a10],.val false [.int .i64 a11]] => some ((g_Aw_szFroTx a0 a1 a2 a3 a4 a5 a6 a7 a8 a9 a10 a11),.val false [.int .i64 (g_Vw_szFroTx_0 a0 a1 a2 a3 a4 a5 a6 a7 a8 a9 a10 a11)],[])
 | _ => none
theorem vw_szFroTx (a0:Int) (a1:Int) (a2:Int) (a3:Int) (a4:Int) (a5:Int) (a6:Int) (a7:Int) (a8:Bool) (a9:List Int) (a10:List Int) (a11:Int):collapseH .std Ew_szFroTx Ow_szFroTx_0 (execFn Ew_szFroTx Tryz.f89 msw_szFroTx [.val true [.int .i64 a0,.int .i64 a1,.int .i64 a2,.int .i64 a3,.int .i64 a4,.int .i64 a5,.int .i64 a6,.int .i64 a7,.bool a8,.sl .any 3 (.int .i64) a9,.sl .any 3 (.int .i64) a10],.val false [.int .i64 a11]]) = some ((g_Aw_szFroTx a0 a1 a2 a3 a4 a5 a6 a7 a8 a9 a10 a11),.val false [.int .i64 (g_Vw_szFroTx_0 a0 a1 a2 a3 a4 a5 a6 a7 a8 a9 a10 a11)],[]) := by kernel_rfl
theorem sw_szFroTx:Sound Tryz.prog 89 msw_szFroTx Fw_szFroTx := by
 refine fn_gen goodw_szFroTx (by kernel_rfl) .std (fn := Tryz.f89) (c := (Tryz.f89.body.getD .skip)) (o := Ow_szFroTx_0) (k := 0) (by kernel_rfl) (by kernel_rfl) (by kernel_rfl) (by kernel_rfl) (by decide) kw_szFroTx_0 ?_
 intro ys r outs h
 unfold Fw_szFroTx at h
 split at h
 ·exact (vw_szFroTx _ _ _ _ _ _ _ _ _ _ _ _).trans h
 ·cases h
noncomputable def EZ76:Env where
 tt := mkTI Tryz.prog
 fn := fun f => match f with
  | 89 => some (msw_szFroTx,FSem.wk msw_szFroTx Fw_szFroTx)
  | _ => none
 bxf := fun _ => none
 mv := []
 keep := fun b => match b with
  | 0 => [(0,false),(1,false),(5,false)]
  | _ => []
 keepB := fun b => match b with
  | 0 => []
  | _ => []
 keepX := fun b => match b with
  | 0 => [(1,false),(4,false)]
  | _ => []
 keepXB := fun b => match b with
  | 0 => []
  | _ => []
theorem goodFZ76:∀ f ms F,EZ76.fn f = some (ms,F) → Sound Tryz.prog f ms F := fun f ms F h => by
 unfold EZ76 at h
 dsimp only at h
 split at h
 ·exact gF sw_szFroTx h
 ·cases h
theorem goodZ76:Good Tryz.prog EZ76 := ⟨rfl,goodFZ76,fun f ms F h => by cases h⟩
noncomputable def OZ76_0:Orc := fun _ _ => none
noncomputable def msZ76:List PM := [.rd,.own]
noncomputable def lsZ76:List (Nat×Code) := loopsAll 0 (Tryz.f28.body.getD .skip)
noncomputable def cZ76_0:Code := (loopOf 0 (Tryz.f28.body.getD .skip)).getD .skip
theorem lseqZ76:lsZ76 = [(0,cZ76_0)] := by kernel_rfl
theorem mZ76_0:∀ p,p ∈ lsZ76 → p.1 = 0 → p.2 = cZ76_0 := by
 intro p hp
 rw [lseqZ76] at hp
 simp only [List.mem_cons,List.not_mem_nil,or_false] at hp
 subst hp; simp
theorem kZ76_0:OrcOk EZ76 OZ76_0 lsZ76 0 := orcOk_none
noncomputable def hZ76_0 (y0:tL1) (y1:Int) (y2:Int):List (Pl×LV) := [(.T 0,.t (.val false [.sl .any 129 (.pair (.int .i64) (.pair (.pair (.int .i64) (.pair (.int .i64) (.pair (.int .i64) (.pair (.int .i64) (.pair (.int .i64) (.pair (.int .i64) (.int .i64))))))) (.pair .bool (.pair (.sl 3 (.int .i64)) (.sl 3 (.int .i64)))))) y0])),(.T 1,.t (.val false [.int .i64 y1])),(.T 5,.t (.val false [.int .i64 y2]))]
noncomputable def g_SZ76_0 (y0:tL1):(Int×Int) → RT (Int×Int) ((Int×Int) ⊕ (Int))
 | (y1,y2) => .br (true) (.br (decide (y2 < (y0.length:Int))) (.br (decide (0 ≤ y2 ∧ y2 < (y0.length:Int))) (.br (g_Aw_szFroTx (at_ yT0 y0 (Int.toNat y2)).1 (at_ yT0 y0 (Int.toNat y2)).2.1.1 (at_ yT0 y0 (Int.toNat y2)).2.1.2.1 (at_ yT0 y0 (Int.toNat y2)).2.1.2.2.1 (at_ yT0 y0 (Int.toNat y2)).2.1.2.2.2.1 (at_ yT0 y0 (Int.toNat y2)).2.1.2.2.2.2.1 (at_ yT0 y0 (Int.toNat y2)).2.1.2.2.2.2.2.1 (at_ yT0 y0 (Int.toNat y2)).2.1.2.2.2.2.2.2 (at_ yT0 y0 (Int.toNat y2)).2.2.1 (at_ yT0 y0 (Int.toNat y2)).2.2.2.1 (at_ yT0 y0 (Int.toNat y2)).2.2.2.2 y1) (.br (true) (.br (decide (g_Vw_szFroTx_0 (at_ yT0 y0 (Int.toNat y2)).1 (at_ yT0 y0 (Int.toNat y2)).2.1.1 (at_ yT0 y0 (Int.toNat y2)).2.1.2.1 (at_ yT0 y0 (Int.toNat y2)).2.1.2.2.1 (at_ yT0 y0 (Int.toNat y2)).2.1.2.2.2.1 (at_ yT0 y0 (Int.toNat y2)).2.1.2.2.2.2.1 (at_ yT0 y0 (Int.toNat y2)).2.1.2.2.2.2.2.1 (at_ yT0 y0 (Int.toNat y2)).2.1.2.2.2.2.2.2 (at_ yT0 y0 (Int.toNat y2)).2.2.1 (at_ yT0 y0 (Int.toNat y2)).2.2.2.1 (at_ yT0 y0 (Int.toNat y2)).2.2.2.2 y1 < 0)) (.out (.inl ((g_Vw_szFroTx_0 (at_ yT0 y0 (Int.toNat y2)).1 (at_ yT0 y0 (Int.toNat y2)).2.1.1 (at_ yT0 y0 (Int.toNat y2)).2.1.2.1 (at_ yT0 y0 (Int.toNat y2)).2.1.2.2.1 (at_ yT0 y0 (Int.toNat y2)).2.1.2.2.2.1 (at_ yT0 y0 (Int.toNat y2)).2.1.2.2.2.2.1 (at_ yT0 y0 (Int.toNat y2)).2.1.2.2.2.2.2.1 (at_ yT0 y0 (Int.toNat y2)).2.1.2.2.2.2.2.2 (at_ yT0 y0 (Int.toNat y2)).2.2.1 (at_ yT0 y0 (Int.toNat y2)).2.2.2.1 (at_ yT0 y0 (Int.toNat y2)).2.2.2.2 y1,(-1:Int))))) (.br (true) (.go ((g_Vw_szFroTx_0 (at_ yT0 y0 (Int.toNat y2)).1 (at_ yT0 y0 (Int.toNat y2)).2.1.1 (at_ yT0 y0 (Int.toNat y2)).2.1.2.1 (at_ yT0 y0 (Int.toNat y2)).2.1.2.2.1 (at_ yT0 y0 (Int.toNat y2)).2.1.2.2.2.1 (at_ yT0 y0 (Int.toNat y2)).2.1.2.2.2.2.1 (at_ yT0 y0 (Int.toNat y2)).2.1.2.2.2.2.2.1 (at_ yT0 y0 (Int.toNat y2)).2.1.2.2.2.2.2.2 (at_ yT0 y0 (Int.toNat y2)).2.2.1 (at_ yT0 y0 (Int.toNat y2)).2.2.2.1 (at_ yT0 y0 (Int.toNat y2)).2.2.2.2 y1,IntKind.i64.wrap (y2 + 1)))) .bad)) .bad) .bad) .bad) (.out (.inr (y1)))) .bad
noncomputable def g_LZ76_0 (y0:tL1) (x:Int×Int):Option ((Int×Int) ⊕ (Int)) := loopO (g_SZ76_0 y0) x
noncomputable def xZ76_0 (y0:tL1):((Int×Int) ⊕ (Int)) → Ex×List (Pl×LV) := fun
 | .inl r => (.ret,[(.T 1,.t (.val false [.int .i64 r.1])),(.T 4,.t (.val false [.int .i64 r.2]))])
 | .inr (r) => (.exit 0,[(.T 1,.t (.val false [.int .i64 r])),(.T 4,.t (.val false [.undef]))])
noncomputable def OZ76_1:Orc := fun b h => match b,h with
 | 0,[(.T 0,.t (.val false [.sl .any 129 (.pair (.int .i64) (.pair (.pair (.int .i64) (.pair (.int .i64) (.pair (.int .i64) (.pair (.int .i64) (.pair (.int .i64) (.pair (.int .i64) (.int .i64))))))) (.pair .bool (.pair (.sl 3 (.int .i64)) (.sl 3 (.int .i64)))))) y0])),(.T 1,.t (.val false [.int .i64 y1])),(.T 5,.t (.val false [.int .i64 y2]))] => some (okO (g_LZ76_0 y0 (y1,y2)),(.br (isL (valO (g_LZ76_0 y0 (y1,y2)))) (.leaf .ret [(.T 1,.t (.val false [.int .i64 (getL (valO (g_LZ76_0 y0 (y1,y2)))).1])),(.T 4,.t (.val false [.int .i64 (getL (valO (g_LZ76_0 y0 (y1,y2)))).2]))]) (.leaf (.exit 0) [(.T 1,.t (.val false [.int .i64 (getR (valO (g_LZ76_0 y0 (y1,y2))))])),(.T 4,.t (.val false [.undef]))])))
 | b,h => OZ76_0 b h
theorem bZ76_0 (y0:tL1) (y1:Int) (y2:Int):Tr.bt EZ76 OZ76_0 (exec EZ76 0 cZ76_0 (St.of (hZ76_0 y0 y1 y2)) (leafRd EZ76 0)) = (g_SZ76_0 y0 (y1,y2)).bt (fun ((y1,y2):Int×Int) => (hZ76_0 y0 y1 y2)) (xZ76_0 y0) := by kernel_rfl
theorem kZ76_1:OrcOk EZ76 OZ76_1 lsZ76 1 := orc_add kZ76_0 (fun n p hp h ex h' ho => by
 obtain ⟨b,c⟩ := p
 obtain ⟨xt,h1,h2⟩ := ho
 have h1:OZ76_1 b h = some (true,xt) := h1
 unfold OZ76_1 at h1
 split at h1
 ·injection h1 with h1
  injection h1 with e1 e2
  subst e2
  have hc:c = cZ76_0 := mZ76_0 _ hp rfl
  subst hc
  right
  rename_i y0 y1 y2
  have key := LT_step kZ76_0 hp (fun q hq => loopsAll_in _ _ _ _ hp hq) (fun ((y1,y2):Int×Int) => (hZ76_0 y0 y1 y2)) (xZ76_0 y0) (g_SZ76_0 y0) (fun x => by first | exact bZ76_0 y0 x.1 x.2) n (x := (y1,y2)) (okO_some e1)
  have hx:∀ r,XT.sel (.br (isL r) (.leaf .ret [(.T 1,.t (.val false [.int .i64 (getL r).1])),(.T 4,.t (.val false [.int .i64 (getL r).2]))]) (.leaf (.exit 0) [(.T 1,.t (.val false [.int .i64 (getR r)])),(.T 4,.t (.val false [.undef]))])) = xZ76_0 y0 r := fun r => by first | rfl | rcases r with r | r <;> rfl | rcases r with r | r | r <;> rfl | rcases r with r | r | r | r <;> rfl
  have h3 := (hx (valO (g_LZ76_0 y0 (y1,y2)))).symm.trans h2
  have e3 := congrArg Prod.fst h3
  have e4 := congrArg Prod.snd h3
  simp only at e3 e4
  rw [← e3,← e4]
  exact key
 ·exact .inl ⟨xt,h1,h2⟩)
noncomputable def g_AZ76 (a0:tL1) (a1:Int):Bool := decide (IntKind.i64.wrap (a1 - (a0.length:Int)) < 0) || okO (g_LZ76_0 a0 (IntKind.i64.wrap (a1 - (a0.length:Int)),(0:Int)))
noncomputable def g_VZ76_0 (a0:tL1) (a1:Int):Int := bif decide (IntKind.i64.wrap (a1 - (a0.length:Int)) < 0) then (-1:Int) else bif isL (valO (g_LZ76_0 a0 (IntKind.i64.wrap (a1 - (a0.length:Int)),(0:Int)))) then (getL (valO (g_LZ76_0 a0 (IntKind.i64.wrap (a1 - (a0.length:Int)),(0:Int))))).2 else getR (valO (g_LZ76_0 a0 (IntKind.i64.wrap (a1 - (a0.length:Int)),(0:Int))))
noncomputable def FZ76:FSem := fun ys => match ys with
 | [.val false [.sl .any 129 (.pair (.int .i64) (.pair (.pair (.int .i64) (.pair (.int .i64) (.pair (.int .i64) (.pair (.int .i64) (.pair (.int .i64) (.pair (.int .i64) (.int .i64))))))) (.pair .bool (.pair (.sl 3 (.int .i64)) (.sl 3 (.int .i64)))))) a0],.val false [.int .i64 a1]] => some ((g_AZ76 a0 a1),.val false [.int .i64 (g_VZ76_0 a0 a1)],[])
 | _ => none
theorem vZ76 (a0:tL1) (a1:Int):collapseH .std EZ76 OZ76_1 (execFn EZ76 Tryz.f28 msZ76 [.val false [.sl .any 129 (.pair (.int .i64) (.pair (.pair (.int .i64) (.pair (.int .i64) (.pair (.int .i64) (.pair (.int .i64) (.pair (.int .i64) (.pair (.int .i64) (.int .i64))))))) (.pair .bool (.pair (.sl 3 (.int .i64)) (.sl 3 (.int .i64)))))) a0],.val false [.int .i64 a1]]) = some ((g_AZ76 a0 a1),.val false [.int .i64 (g_VZ76_0 a0 a1)],[]) := by kernel_rfl
theorem sZ76:Sound Tryz.prog 28 msZ76 FZ76 := by
 refine fn_gen goodZ76 (by kernel_rfl) .std (fn := Tryz.f28) (c := (Tryz.f28.body.getD .skip)) (o := OZ76_1) (k := 1) (by kernel_rfl) (by kernel_rfl) (by kernel_rfl) (by kernel_rfl) (by decide) kZ76_1 ?_
 intro ys r outs h
 unfold FZ76 at h
 split at h
 ·exact (vZ76 _ _).trans h
 ·cases h
noncomputable def EZ41:Env where
 tt := mkTI Tryz.prog
 fn := fun f => match f with
  | 133 => some (msw_szIntS,FSem.wk msw_szIntS Fw_szIntS)
  | _ => none
 bxf := fun _ => none
 mv := []
 keep := fun _ => []
 keepB := fun _ => []
 keepX := fun _ => []
 keepXB := fun _ => []
theorem goodFZ41:∀ f ms F,EZ41.fn f = some (ms,F) → Sound Tryz.prog f ms F := fun f ms F h => by
 unfold EZ41 at h
 dsimp only at h
 split at h
 ·exact gF sw_szIntS h
 ·cases h
theorem goodZ41:Good Tryz.prog EZ41 := ⟨rfl,goodFZ41,fun f ms F h => by cases h⟩
noncomputable def OZ41_0:Orc := fun _ _ => none
noncomputable def msZ41:List PM := [.rd,.own]
noncomputable def lsZ41:List (Nat×Code) := loopsAll 0 (Tryz.f173.body.getD .skip)
theorem kZ41_0:OrcOk EZ41 OZ41_0 lsZ41 0 := orcOk_none
noncomputable def g_AZ41 (a0:ByteArray) (a1:Bool) (a2:List Int) (a3:Int):Bool := decide (IntKind.i64.wrap (a3 - (↑(ByteArray.size a0):Int)) < 0) || true
noncomputable def g_VZ41_0 (a0:ByteArray) (a1:Bool) (a2:List Int) (a3:Int):Int := bif decide (IntKind.i64.wrap (a3 - (↑(ByteArray.size a0):Int)) < 0) then (-1:Int) else bif decide (g_Vw_szIntS_0 a2 (IntKind.i64.wrap (a3 - (↑(ByteArray.size a0):Int))) < 0) then (-1:Int) else g_Vw_szIntS_0 a2 (IntKind.i64.wrap (a3 - (↑(ByteArray.size a0):Int)))
noncomputable def FZ41:FSem := fun ys => match ys with
 | [.val true [.str a0,.bool a1,.sl .any 3 (.int .i64) a2],.val false [.int .i64 a3]] => some ((g_AZ41 a0 a1 a2 a3),.val false [.int .i64 (g_VZ41_0 a0 a1 a2 a3)],[])
 | _ => none
theorem vZ41 (a0:ByteArray) (a1:Bool) (a2:List Int) (a3:Int):collapseH .std EZ41 OZ41_0 (execFn EZ41 Tryz.f173 msZ41 [.val true [.str a0,.bool a1,.sl .any 3 (.int .i64) a2],.val false [.int .i64 a3]]) = some ((g_AZ41 a0 a1 a2 a3),.val false [.int .i64 (g_VZ41_0 a0 a1 a2 a3)],[]) := by kernel_rfl
theorem sZ41:Sound Tryz.prog 173 msZ41 FZ41 := by
 refine fn_gen goodZ41 (by kernel_rfl) .std (fn := Tryz.f173) (c := (Tryz.f173.body.getD .skip)) (o := OZ41_0) (k := 0) (by kernel_rfl) (by kernel_rfl) (by kernel_rfl) (by kernel_rfl) (by decide) kZ41_0 ?_
 intro ys r outs h
 unfold FZ41 at h
 split at h
 ·exact (vZ41 _ _ _ _).trans h
 ·cases h
noncomputable def EZ32:Env where
 tt := mkTI Tryz.prog
 fn := fun f => match f with
  | 173 => some (msZ41,FSem.wk msZ41 FZ41)
  | _ => none
 bxf := fun _ => none
 mv := []
 keep := fun b => match b with
  | 0 => [(0,false),(1,false),(5,false)]
  | _ => []
 keepB := fun b => match b with
  | 0 => []
  | _ => []
 keepX := fun b => match b with
  | 0 => [(1,false),(4,false)]
  | _ => []
 keepXB := fun b => match b with
  | 0 => []
  | _ => []
theorem goodFZ32:∀ f ms F,EZ32.fn f = some (ms,F) → Sound Tryz.prog f ms F := fun f ms F h => by
 unfold EZ32 at h
 dsimp only at h
 split at h
 ·exact gF sZ41 h
 ·cases h
theorem goodZ32:Good Tryz.prog EZ32 := ⟨rfl,goodFZ32,fun f ms F h => by cases h⟩
noncomputable def OZ32_0:Orc := fun _ _ => none
noncomputable def msZ32:List PM := [.rd,.own]
noncomputable def lsZ32:List (Nat×Code) := loopsAll 0 (Tryz.f154.body.getD .skip)
noncomputable def cZ32_0:Code := (loopOf 0 (Tryz.f154.body.getD .skip)).getD .skip
theorem lseqZ32:lsZ32 = [(0,cZ32_0)] := by kernel_rfl
theorem mZ32_0:∀ p,p ∈ lsZ32 → p.1 = 0 → p.2 = cZ32_0 := by
 intro p hp
 rw [lseqZ32] at hp
 simp only [List.mem_cons,List.not_mem_nil,or_false] at hp
 subst hp; simp
theorem kZ32_0:OrcOk EZ32 OZ32_0 lsZ32 0 := orcOk_none
noncomputable def hZ32_0 (y0:tL4) (y1:Int) (y2:Int):List (Pl×LV) := [(.T 0,.t (.val false [.sl .any 196 (.pair .str (.pair .bool (.sl 3 (.int .i64)))) y0])),(.T 1,.t (.val false [.int .i64 y1])),(.T 5,.t (.val false [.int .i64 y2]))]
noncomputable def g_SZ32_0 (y0:tL4):(Int×Int) → RT (Int×Int) ((Int×Int) ⊕ (Int))
 | (y1,y2) => .br (true) (.br (decide (y2 < (y0.length:Int))) (.br (decide (0 ≤ y2 ∧ y2 < (y0.length:Int))) (.br (g_AZ41 (at_ yT6 y0 (Int.toNat y2)).1 (at_ yT6 y0 (Int.toNat y2)).2.1 (at_ yT6 y0 (Int.toNat y2)).2.2 y1) (.br (true) (.br (decide (g_VZ41_0 (at_ yT6 y0 (Int.toNat y2)).1 (at_ yT6 y0 (Int.toNat y2)).2.1 (at_ yT6 y0 (Int.toNat y2)).2.2 y1 < 0)) (.out (.inl ((g_VZ41_0 (at_ yT6 y0 (Int.toNat y2)).1 (at_ yT6 y0 (Int.toNat y2)).2.1 (at_ yT6 y0 (Int.toNat y2)).2.2 y1,(-1:Int))))) (.br (true) (.go ((g_VZ41_0 (at_ yT6 y0 (Int.toNat y2)).1 (at_ yT6 y0 (Int.toNat y2)).2.1 (at_ yT6 y0 (Int.toNat y2)).2.2 y1,IntKind.i64.wrap (y2 + 1)))) .bad)) .bad) .bad) .bad) (.out (.inr (y1)))) .bad
noncomputable def g_LZ32_0 (y0:tL4) (x:Int×Int):Option ((Int×Int) ⊕ (Int)) := loopO (g_SZ32_0 y0) x
noncomputable def xZ32_0 (y0:tL4):((Int×Int) ⊕ (Int)) → Ex×List (Pl×LV) := fun
 | .inl r => (.ret,[(.T 1,.t (.val false [.int .i64 r.1])),(.T 4,.t (.val false [.int .i64 r.2]))])
 | .inr (r) => (.exit 0,[(.T 1,.t (.val false [.int .i64 r])),(.T 4,.t (.val false [.undef]))])
noncomputable def OZ32_1:Orc := fun b h => match b,h with
 | 0,[(.T 0,.t (.val false [.sl .any 196 (.pair .str (.pair .bool (.sl 3 (.int .i64)))) y0])),(.T 1,.t (.val false [.int .i64 y1])),(.T 5,.t (.val false [.int .i64 y2]))] => some (okO (g_LZ32_0 y0 (y1,y2)),(.br (isL (valO (g_LZ32_0 y0 (y1,y2)))) (.leaf .ret [(.T 1,.t (.val false [.int .i64 (getL (valO (g_LZ32_0 y0 (y1,y2)))).1])),(.T 4,.t (.val false [.int .i64 (getL (valO (g_LZ32_0 y0 (y1,y2)))).2]))]) (.leaf (.exit 0) [(.T 1,.t (.val false [.int .i64 (getR (valO (g_LZ32_0 y0 (y1,y2))))])),(.T 4,.t (.val false [.undef]))])))
 | b,h => OZ32_0 b h
theorem bZ32_0 (y0:tL4) (y1:Int) (y2:Int):Tr.bt EZ32 OZ32_0 (exec EZ32 0 cZ32_0 (St.of (hZ32_0 y0 y1 y2)) (leafRd EZ32 0)) = (g_SZ32_0 y0 (y1,y2)).bt (fun ((y1,y2):Int×Int) => (hZ32_0 y0 y1 y2)) (xZ32_0 y0) := by kernel_rfl
theorem kZ32_1:OrcOk EZ32 OZ32_1 lsZ32 1 := orc_add kZ32_0 (fun n p hp h ex h' ho => by
 obtain ⟨b,c⟩ := p
 obtain ⟨xt,h1,h2⟩ := ho
 have h1:OZ32_1 b h = some (true,xt) := h1
 unfold OZ32_1 at h1
 split at h1
 ·injection h1 with h1
  injection h1 with e1 e2
  subst e2
  have hc:c = cZ32_0 := mZ32_0 _ hp rfl
  subst hc
  right
  rename_i y0 y1 y2
  have key := LT_step kZ32_0 hp (fun q hq => loopsAll_in _ _ _ _ hp hq) (fun ((y1,y2):Int×Int) => (hZ32_0 y0 y1 y2)) (xZ32_0 y0) (g_SZ32_0 y0) (fun x => by first | exact bZ32_0 y0 x.1 x.2) n (x := (y1,y2)) (okO_some e1)
  have hx:∀ r,XT.sel (.br (isL r) (.leaf .ret [(.T 1,.t (.val false [.int .i64 (getL r).1])),(.T 4,.t (.val false [.int .i64 (getL r).2]))]) (.leaf (.exit 0) [(.T 1,.t (.val false [.int .i64 (getR r)])),(.T 4,.t (.val false [.undef]))])) = xZ32_0 y0 r := fun r => by first | rfl | rcases r with r | r <;> rfl | rcases r with r | r | r <;> rfl | rcases r with r | r | r | r <;> rfl
  have h3 := (hx (valO (g_LZ32_0 y0 (y1,y2)))).symm.trans h2
  have e3 := congrArg Prod.fst h3
  have e4 := congrArg Prod.snd h3
  simp only at e3 e4
  rw [← e3,← e4]
  exact key
 ·exact .inl ⟨xt,h1,h2⟩)
noncomputable def g_AZ32 (a0:tL4) (a1:Int):Bool := decide (IntKind.i64.wrap (a1 - (a0.length:Int)) < 0) || okO (g_LZ32_0 a0 (IntKind.i64.wrap (a1 - (a0.length:Int)),(0:Int)))
noncomputable def g_VZ32_0 (a0:tL4) (a1:Int):Int := bif decide (IntKind.i64.wrap (a1 - (a0.length:Int)) < 0) then (-1:Int) else bif isL (valO (g_LZ32_0 a0 (IntKind.i64.wrap (a1 - (a0.length:Int)),(0:Int)))) then (getL (valO (g_LZ32_0 a0 (IntKind.i64.wrap (a1 - (a0.length:Int)),(0:Int))))).2 else getR (valO (g_LZ32_0 a0 (IntKind.i64.wrap (a1 - (a0.length:Int)),(0:Int))))
noncomputable def FZ32:FSem := fun ys => match ys with
 | [.val false [.sl .any 196 (.pair .str (.pair .bool (.sl 3 (.int .i64)))) a0],.val false [.int .i64 a1]] => some ((g_AZ32 a0 a1),.val false [.int .i64 (g_VZ32_0 a0 a1)],[])
 | _ => none
theorem vZ32 (a0:tL4) (a1:Int):collapseH .std EZ32 OZ32_1 (execFn EZ32 Tryz.f154 msZ32 [.val false [.sl .any 196 (.pair .str (.pair .bool (.sl 3 (.int .i64)))) a0],.val false [.int .i64 a1]]) = some ((g_AZ32 a0 a1),.val false [.int .i64 (g_VZ32_0 a0 a1)],[]) := by kernel_rfl
theorem sZ32:Sound Tryz.prog 154 msZ32 FZ32 := by
 refine fn_gen goodZ32 (by kernel_rfl) .std (fn := Tryz.f154) (c := (Tryz.f154.body.getD .skip)) (o := OZ32_1) (k := 1) (by kernel_rfl) (by kernel_rfl) (by kernel_rfl) (by kernel_rfl) (by decide) kZ32_1 ?_
 intro ys r outs h
 unfold FZ32 at h
 split at h
 ·exact (vZ32 _ _).trans h
 ·cases h
noncomputable def EZ58:Env where
 tt := mkTI Tryz.prog
 fn := fun _ => none
 bxf := fun _ => none
 mv := []
 keep := fun b => match b with
  | 0 => [(0,false),(1,false),(5,false)]
  | _ => []
 keepB := fun b => match b with
  | 0 => []
  | _ => []
 keepX := fun b => match b with
  | 0 => [(1,false),(4,false)]
  | _ => []
 keepXB := fun b => match b with
  | 0 => []
  | _ => []
theorem goodFZ58:∀ f ms F,EZ58.fn f = some (ms,F) → Sound Tryz.prog f ms F := fun f ms F h => by cases h
theorem goodZ58:Good Tryz.prog EZ58 := ⟨rfl,goodFZ58,fun f ms F h => by cases h⟩
noncomputable def OZ58_0:Orc := fun _ _ => none
noncomputable def msZ58:List PM := [.rd,.own]
noncomputable def lsZ58:List (Nat×Code) := loopsAll 0 (Tryz.f153.body.getD .skip)
noncomputable def cZ58_0:Code := (loopOf 0 (Tryz.f153.body.getD .skip)).getD .skip
theorem lseqZ58:lsZ58 = [(0,cZ58_0)] := by kernel_rfl
theorem mZ58_0:∀ p,p ∈ lsZ58 → p.1 = 0 → p.2 = cZ58_0 := by
 intro p hp
 rw [lseqZ58] at hp
 simp only [List.mem_cons,List.not_mem_nil,or_false] at hp
 subst hp; simp
theorem kZ58_0:OrcOk EZ58 OZ58_0 lsZ58 0 := orcOk_none
noncomputable def hZ58_0 (y0:List ByteArray) (y1:Int) (y2:Int):List (Pl×LV) := [(.T 0,.t (.val false [.sl .any 9 .str y0])),(.T 1,.t (.val false [.int .i64 y1])),(.T 5,.t (.val false [.int .i64 y2]))]
noncomputable def g_SZ58_0 (y0:List ByteArray):(Int×Int) → RT (Int×Int) ((Int×Int) ⊕ (Int))
 | (y1,y2) => .br (true) (.br (decide (y2 < (y0.length:Int))) (.br (decide (0 ≤ y2 ∧ y2 < (y0.length:Int))) (.br (true) (.br (true) (.br (decide (IntKind.i64.wrap (y1 - (↑(ByteArray.size (at_ Ty.str y0 (Int.toNat y2))):Int)) < 0)) (.out (.inl ((IntKind.i64.wrap (y1 - (↑(ByteArray.size (at_ Ty.str y0 (Int.toNat y2))):Int)),(-1:Int))))) (.br (true) (.go ((IntKind.i64.wrap (y1 - (↑(ByteArray.size (at_ Ty.str y0 (Int.toNat y2))):Int)),IntKind.i64.wrap (y2 + 1)))) .bad)) .bad) .bad) .bad) (.out (.inr (y1)))) .bad
noncomputable def g_LZ58_0 (y0:List ByteArray) (x:Int×Int):Option ((Int×Int) ⊕ (Int)) := loopO (g_SZ58_0 y0) x
noncomputable def xZ58_0 (y0:List ByteArray):((Int×Int) ⊕ (Int)) → Ex×List (Pl×LV) := fun
 | .inl r => (.ret,[(.T 1,.t (.val false [.int .i64 r.1])),(.T 4,.t (.val false [.int .i64 r.2]))])
 | .inr (r) => (.exit 0,[(.T 1,.t (.val false [.int .i64 r])),(.T 4,.t (.val false [.undef]))])
noncomputable def OZ58_1:Orc := fun b h => match b,h with
 | 0,[(.T 0,.t (.val false [.sl .any 9 .str y0])),(.T 1,.t (.val false [.int .i64 y1])),(.T 5,.t (.val false [.int .i64 y2]))] => some (okO (g_LZ58_0 y0 (y1,y2)),(.br (isL (valO (g_LZ58_0 y0 (y1,y2)))) (.leaf .ret [(.T 1,.t (.val false [.int .i64 (getL (valO (g_LZ58_0 y0 (y1,y2)))).1])),(.T 4,.t (.val false [.int .i64 (getL (valO (g_LZ58_0 y0 (y1,y2)))).2]))]) (.leaf (.exit 0) [(.T 1,.t (.val false [.int .i64 (getR (valO (g_LZ58_0 y0 (y1,y2))))])),(.T 4,.t (.val false [.undef]))])))
 | b,h => OZ58_0 b h
theorem bZ58_0 (y0:List ByteArray) (y1:Int) (y2:Int):Tr.bt EZ58 OZ58_0 (exec EZ58 0 cZ58_0 (St.of (hZ58_0 y0 y1 y2)) (leafRd EZ58 0)) = (g_SZ58_0 y0 (y1,y2)).bt (fun ((y1,y2):Int×Int) => (hZ58_0 y0 y1 y2)) (xZ58_0 y0) := by kernel_rfl
theorem kZ58_1:OrcOk EZ58 OZ58_1 lsZ58 1 := orc_add kZ58_0 (fun n p hp h ex h' ho => by
 obtain ⟨b,c⟩ := p
 obtain ⟨xt,h1,h2⟩ := ho
 have h1:OZ58_1 b h = some (true,xt) := h1
 unfold OZ58_1 at h1
 split at h1
 ·injection h1 with h1
  injection h1 with e1 e2
  subst e2
  have hc:c = cZ58_0 := mZ58_0 _ hp rfl
  subst hc
  right
  rename_i y0 y1 y2
  have key := LT_step kZ58_0 hp (fun q hq => loopsAll_in _ _ _ _ hp hq) (fun ((y1,y2):Int×Int) => (hZ58_0 y0 y1 y2)) (xZ58_0 y0) (g_SZ58_0 y0) (fun x => by first | exact bZ58_0 y0 x.1 x.2) n (x := (y1,y2)) (okO_some e1)
  have hx:∀ r,XT.sel (.br (isL r) (.leaf .ret [(.T 1,.t (.val false [.int .i64 (getL r).1])),(.T 4,.t (.val false [.int .i64 (getL r).2]))]) (.leaf (.exit 0) [(.T 1,.t (.val false [.int .i64 (getR r)])),(.T 4,.t (.val false [.undef]))])) = xZ58_0 y0 r := fun r => by first | rfl | rcases r with r | r <;> rfl | rcases r with r | r | r <;> rfl | rcases r with r | r | r | r <;> rfl
  have h3 := (hx (valO (g_LZ58_0 y0 (y1,y2)))).symm.trans h2
  have e3 := congrArg Prod.fst h3
  have e4 := congrArg Prod.snd h3
  simp only at e3 e4
  rw [← e3,← e4]
  exact key
 ·exact .inl ⟨xt,h1,h2⟩)
noncomputable def g_AZ58 (a0:List ByteArray) (a1:Int):Bool := decide (IntKind.i64.wrap (a1 - (a0.length:Int)) < 0) || okO (g_LZ58_0 a0 (IntKind.i64.wrap (a1 - (a0.length:Int)),(0:Int)))
noncomputable def g_VZ58_0 (a0:List ByteArray) (a1:Int):Int := bif decide (IntKind.i64.wrap (a1 - (a0.length:Int)) < 0) then (-1:Int) else bif isL (valO (g_LZ58_0 a0 (IntKind.i64.wrap (a1 - (a0.length:Int)),(0:Int)))) then (getL (valO (g_LZ58_0 a0 (IntKind.i64.wrap (a1 - (a0.length:Int)),(0:Int))))).2 else getR (valO (g_LZ58_0 a0 (IntKind.i64.wrap (a1 - (a0.length:Int)),(0:Int))))
noncomputable def FZ58:FSem := fun ys => match ys with
 | [.val false [.sl .any 9 .str a0],.val false [.int .i64 a1]] => some ((g_AZ58 a0 a1),.val false [.int .i64 (g_VZ58_0 a0 a1)],[])
 | _ => none
theorem vZ58 (a0:List ByteArray) (a1:Int):collapseH .std EZ58 OZ58_1 (execFn EZ58 Tryz.f153 msZ58 [.val false [.sl .any 9 .str a0],.val false [.int .i64 a1]]) = some ((g_AZ58 a0 a1),.val false [.int .i64 (g_VZ58_0 a0 a1)],[]) := by kernel_rfl
theorem sZ58:Sound Tryz.prog 153 msZ58 FZ58 := by
 refine fn_gen goodZ58 (by kernel_rfl) .std (fn := Tryz.f153) (c := (Tryz.f153.body.getD .skip)) (o := OZ58_1) (k := 1) (by kernel_rfl) (by kernel_rfl) (by kernel_rfl) (by kernel_rfl) (by decide) kZ58_1 ?_
 intro ys r outs h
 unfold FZ58 at h
 split at h
 ·exact (vZ58 _ _).trans h
 ·cases h
noncomputable def EZ59:Env where
 tt := mkTI Tryz.prog
 fn := fun f => match f with
  | 153 => some (msZ58,FSem.wk msZ58 FZ58)
  | 154 => some (msZ32,FSem.wk msZ32 FZ32)
  | _ => none
 bxf := fun _ => none
 mv := []
 keep := fun _ => []
 keepB := fun _ => []
 keepX := fun _ => []
 keepXB := fun _ => []
theorem goodFZ59:∀ f ms F,EZ59.fn f = some (ms,F) → Sound Tryz.prog f ms F := fun f ms F h => by
 unfold EZ59 at h
 dsimp only at h
 split at h
 ·exact gF sZ58 h
 ·exact gF sZ32 h
 ·cases h
theorem goodZ59:Good Tryz.prog EZ59 := ⟨rfl,goodFZ59,fun f ms F h => by cases h⟩
noncomputable def OZ59_0:Orc := fun _ _ => none
noncomputable def msZ59:List PM := [.rd,.own]
noncomputable def lsZ59:List (Nat×Code) := loopsAll 0 (Tryz.f132.body.getD .skip)
theorem kZ59_0:OrcOk EZ59 OZ59_0 lsZ59 0 := orcOk_none
noncomputable def g_AZ59 (a0:Int) (a1:Int) (a2:List ByteArray) (a3:tL4) (a4:Int):Bool := g_AZ58 a2 a4&&(decide (g_VZ58_0 a2 a4 < 0) || g_AZ32 a3 (g_VZ58_0 a2 a4)&&true)
noncomputable def g_VZ59_0 (a0:Int) (a1:Int) (a2:List ByteArray) (a3:tL4) (a4:Int):Int := bif decide (g_VZ58_0 a2 a4 < 0) then (-1:Int) else bif decide (g_VZ32_0 a3 (g_VZ58_0 a2 a4) < 0) then (-1:Int) else g_VZ32_0 a3 (g_VZ58_0 a2 a4)
noncomputable def FZ59:FSem := fun ys => match ys with
 | [.val true [.int .i64 a0,.int .i64 a1,.sl .any 9 .str a2,.sl .any 196 (.pair .str (.pair .bool (.sl 3 (.int .i64)))) a3],.val false [.int .i64 a4]] => some ((g_AZ59 a0 a1 a2 a3 a4),.val false [.int .i64 (g_VZ59_0 a0 a1 a2 a3 a4)],[])
 | _ => none
theorem vZ59 (a0:Int) (a1:Int) (a2:List ByteArray) (a3:tL4) (a4:Int):collapseH .std EZ59 OZ59_0 (execFn EZ59 Tryz.f132 msZ59 [.val true [.int .i64 a0,.int .i64 a1,.sl .any 9 .str a2,.sl .any 196 (.pair .str (.pair .bool (.sl 3 (.int .i64)))) a3],.val false [.int .i64 a4]]) = some ((g_AZ59 a0 a1 a2 a3 a4),.val false [.int .i64 (g_VZ59_0 a0 a1 a2 a3 a4)],[]) := by kernel_rfl
theorem sZ59:Sound Tryz.prog 132 msZ59 FZ59 := by
 refine fn_gen goodZ59 (by kernel_rfl) .std (fn := Tryz.f132) (c := (Tryz.f132.body.getD .skip)) (o := OZ59_0) (k := 0) (by kernel_rfl) (by kernel_rfl) (by kernel_rfl) (by kernel_rfl) (by decide) kZ59_0 ?_
 intro ys r outs h
 unfold FZ59 at h
 split at h
 ·exact (vZ59 _ _ _ _ _).trans h
 ·cases h
noncomputable def EZ42:Env where
 tt := mkTI Tryz.prog
 fn := fun f => match f with
  | 132 => some (msZ59,FSem.wk msZ59 FZ59)
  | _ => none
 bxf := fun _ => none
 mv := []
 keep := fun b => match b with
  | 0 => [(0,false),(1,false),(5,false)]
  | _ => []
 keepB := fun b => match b with
  | 0 => []
  | _ => []
 keepX := fun b => match b with
  | 0 => [(1,false),(4,false)]
  | _ => []
 keepXB := fun b => match b with
  | 0 => []
  | _ => []
theorem goodFZ42:∀ f ms F,EZ42.fn f = some (ms,F) → Sound Tryz.prog f ms F := fun f ms F h => by
 unfold EZ42 at h
 dsimp only at h
 split at h
 ·exact gF sZ59 h
 ·cases h
theorem goodZ42:Good Tryz.prog EZ42 := ⟨rfl,goodFZ42,fun f ms F h => by cases h⟩
noncomputable def OZ42_0:Orc := fun _ _ => none
noncomputable def msZ42:List PM := [.rd,.own]
noncomputable def lsZ42:List (Nat×Code) := loopsAll 0 (Tryz.f88.body.getD .skip)
noncomputable def cZ42_0:Code := (loopOf 0 (Tryz.f88.body.getD .skip)).getD .skip
theorem lseqZ42:lsZ42 = [(0,cZ42_0)] := by kernel_rfl
theorem mZ42_0:∀ p,p ∈ lsZ42 → p.1 = 0 → p.2 = cZ42_0 := by
 intro p hp
 rw [lseqZ42] at hp
 simp only [List.mem_cons,List.not_mem_nil,or_false] at hp
 subst hp; simp
theorem kZ42_0:OrcOk EZ42 OZ42_0 lsZ42 0 := orcOk_none
noncomputable def hZ42_0 (y0:tL0) (y1:Int) (y2:Int):List (Pl×LV) := [(.T 0,.t (.val false [.sl .any 169 (.pair (.int .i64) (.pair (.int .i64) (.pair (.sl 9 .str) (.sl 196 (.pair .str (.pair .bool (.sl 3 (.int .i64)))))))) y0])),(.T 1,.t (.val false [.int .i64 y1])),(.T 5,.t (.val false [.int .i64 y2]))]
noncomputable def g_SZ42_0 (y0:tL0):(Int×Int) → RT (Int×Int) ((Int×Int) ⊕ (Int))
 | (y1,y2) => .br (true) (.br (decide (y2 < (y0.length:Int))) (.br (decide (0 ≤ y2 ∧ y2 < (y0.length:Int))) (.br (g_AZ59 (at_ yT5 y0 (Int.toNat y2)).1 (at_ yT5 y0 (Int.toNat y2)).2.1 (at_ yT5 y0 (Int.toNat y2)).2.2.1 (at_ yT5 y0 (Int.toNat y2)).2.2.2 y1) (.br (true) (.br (decide (g_VZ59_0 (at_ yT5 y0 (Int.toNat y2)).1 (at_ yT5 y0 (Int.toNat y2)).2.1 (at_ yT5 y0 (Int.toNat y2)).2.2.1 (at_ yT5 y0 (Int.toNat y2)).2.2.2 y1 < 0)) (.out (.inl ((g_VZ59_0 (at_ yT5 y0 (Int.toNat y2)).1 (at_ yT5 y0 (Int.toNat y2)).2.1 (at_ yT5 y0 (Int.toNat y2)).2.2.1 (at_ yT5 y0 (Int.toNat y2)).2.2.2 y1,(-1:Int))))) (.br (true) (.go ((g_VZ59_0 (at_ yT5 y0 (Int.toNat y2)).1 (at_ yT5 y0 (Int.toNat y2)).2.1 (at_ yT5 y0 (Int.toNat y2)).2.2.1 (at_ yT5 y0 (Int.toNat y2)).2.2.2 y1,IntKind.i64.wrap (y2 + 1)))) .bad)) .bad) .bad) .bad) (.out (.inr (y1)))) .bad
noncomputable def g_LZ42_0 (y0:tL0) (x:Int×Int):Option ((Int×Int) ⊕ (Int)) := loopO (g_SZ42_0 y0) x
noncomputable def xZ42_0 (y0:tL0):((Int×Int) ⊕ (Int)) → Ex×List (Pl×LV) := fun
 | .inl r => (.ret,[(.T 1,.t (.val false [.int .i64 r.1])),(.T 4,.t (.val false [.int .i64 r.2]))])
 | .inr (r) => (.exit 0,[(.T 1,.t (.val false [.int .i64 r])),(.T 4,.t (.val false [.undef]))])
noncomputable def OZ42_1:Orc := fun b h => match b,h with
 | 0,[(.T 0,.t (.val false [.sl .any 169 (.pair (.int .i64) (.pair (.int .i64) (.pair (.sl 9 .str) (.sl 196 (.pair .str (.pair .bool (.sl 3 (.int .i64)))))))) y0])),(.T 1,.t (.val false [.int .i64 y1])),(.T 5,.t (.val false [.int .i64 y2]))] => some (okO (g_LZ42_0 y0 (y1,y2)),(.br (isL (valO (g_LZ42_0 y0 (y1,y2)))) (.leaf .ret [(.T 1,.t (.val false [.int .i64 (getL (valO (g_LZ42_0 y0 (y1,y2)))).1])),(.T 4,.t (.val false [.int .i64 (getL (valO (g_LZ42_0 y0 (y1,y2)))).2]))]) (.leaf (.exit 0) [(.T 1,.t (.val false [.int .i64 (getR (valO (g_LZ42_0 y0 (y1,y2))))])),(.T 4,.t (.val false [.undef]))])))
 | b,h => OZ42_0 b h
theorem bZ42_0 (y0:tL0) (y1:Int) (y2:Int):Tr.bt EZ42 OZ42_0 (exec EZ42 0 cZ42_0 (St.of (hZ42_0 y0 y1 y2)) (leafRd EZ42 0)) = (g_SZ42_0 y0 (y1,y2)).bt (fun ((y1,y2):Int×Int) => (hZ42_0 y0 y1 y2)) (xZ42_0 y0) := by kernel_rfl
theorem kZ42_1:OrcOk EZ42 OZ42_1 lsZ42 1 := orc_add kZ42_0 (fun n p hp h ex h' ho => by
 obtain ⟨b,c⟩ := p
 obtain ⟨xt,h1,h2⟩ := ho
 have h1:OZ42_1 b h = some (true,xt) := h1
 unfold OZ42_1 at h1
 split at h1
 ·injection h1 with h1
  injection h1 with e1 e2
  subst e2
  have hc:c = cZ42_0 := mZ42_0 _ hp rfl
  subst hc
  right
  rename_i y0 y1 y2
  have key := LT_step kZ42_0 hp (fun q hq => loopsAll_in _ _ _ _ hp hq) (fun ((y1,y2):Int×Int) => (hZ42_0 y0 y1 y2)) (xZ42_0 y0) (g_SZ42_0 y0) (fun x => by first | exact bZ42_0 y0 x.1 x.2) n (x := (y1,y2)) (okO_some e1)
  have hx:∀ r,XT.sel (.br (isL r) (.leaf .ret [(.T 1,.t (.val false [.int .i64 (getL r).1])),(.T 4,.t (.val false [.int .i64 (getL r).2]))]) (.leaf (.exit 0) [(.T 1,.t (.val false [.int .i64 (getR r)])),(.T 4,.t (.val false [.undef]))])) = xZ42_0 y0 r := fun r => by first | rfl | rcases r with r | r <;> rfl | rcases r with r | r | r <;> rfl | rcases r with r | r | r | r <;> rfl
  have h3 := (hx (valO (g_LZ42_0 y0 (y1,y2)))).symm.trans h2
  have e3 := congrArg Prod.fst h3
  have e4 := congrArg Prod.snd h3
  simp only at e3 e4
  rw [← e3,← e4]
  exact key
 ·exact .inl ⟨xt,h1,h2⟩)
noncomputable def g_AZ42 (a0:tL0) (a1:Int):Bool := decide (IntKind.i64.wrap (a1 - (a0.length:Int)) < 0) || okO (g_LZ42_0 a0 (IntKind.i64.wrap (a1 - (a0.length:Int)),(0:Int)))
noncomputable def g_VZ42_0 (a0:tL0) (a1:Int):Int := bif decide (IntKind.i64.wrap (a1 - (a0.length:Int)) < 0) then (-1:Int) else bif isL (valO (g_LZ42_0 a0 (IntKind.i64.wrap (a1 - (a0.length:Int)),(0:Int)))) then (getL (valO (g_LZ42_0 a0 (IntKind.i64.wrap (a1 - (a0.length:Int)),(0:Int))))).2 else getR (valO (g_LZ42_0 a0 (IntKind.i64.wrap (a1 - (a0.length:Int)),(0:Int))))
noncomputable def FZ42:FSem := fun ys => match ys with
 | [.val false [.sl .any 169 (.pair (.int .i64) (.pair (.int .i64) (.pair (.sl 9 .str) (.sl 196 (.pair .str (.pair .bool (.sl 3 (.int .i64)))))))) a0],.val false [.int .i64 a1]] => some ((g_AZ42 a0 a1),.val false [.int .i64 (g_VZ42_0 a0 a1)],[])
 | _ => none
theorem vZ42 (a0:tL0) (a1:Int):collapseH .std EZ42 OZ42_1 (execFn EZ42 Tryz.f88 msZ42 [.val false [.sl .any 169 (.pair (.int .i64) (.pair (.int .i64) (.pair (.sl 9 .str) (.sl 196 (.pair .str (.pair .bool (.sl 3 (.int .i64)))))))) a0],.val false [.int .i64 a1]]) = some ((g_AZ42 a0 a1),.val false [.int .i64 (g_VZ42_0 a0 a1)],[]) := by kernel_rfl
theorem sZ42:Sound Tryz.prog 88 msZ42 FZ42 := by
 refine fn_gen goodZ42 (by kernel_rfl) .std (fn := Tryz.f88) (c := (Tryz.f88.body.getD .skip)) (o := OZ42_1) (k := 1) (by kernel_rfl) (by kernel_rfl) (by kernel_rfl) (by kernel_rfl) (by decide) kZ42_1 ?_
 intro ys r outs h
 unfold FZ42 at h
 split at h
 ·exact (vZ42 _ _).trans h
 ·cases h
noncomputable def EZ60:Env where
 tt := mkTI Tryz.prog
 fn := fun f => match f with
  | 88 => some (msZ42,FSem.wk msZ42 FZ42)
  | _ => none
 bxf := fun _ => none
 mv := []
 keep := fun _ => []
 keepB := fun _ => []
 keepX := fun _ => []
 keepXB := fun _ => []
theorem goodFZ60:∀ f ms F,EZ60.fn f = some (ms,F) → Sound Tryz.prog f ms F := fun f ms F h => by
 unfold EZ60 at h
 dsimp only at h
 split at h
 ·exact gF sZ42 h
 ·cases h
theorem goodZ60:Good Tryz.prog EZ60 := ⟨rfl,goodFZ60,fun f ms F h => by cases h⟩
noncomputable def OZ60_0:Orc := fun _ _ => none
noncomputable def msZ60:List PM := [.rd,.own]
noncomputable def lsZ60:List (Nat×Code) := loopsAll 0 (Tryz.f27.body.getD .skip)
theorem kZ60_0:OrcOk EZ60 OZ60_0 lsZ60 0 := orcOk_none
noncomputable def g_AZ60 (a0:tL0) (a1:Int) (a2:Int):Bool := g_AZ42 a0 a2&&true
noncomputable def g_VZ60_0 (a0:tL0) (a1:Int) (a2:Int):Int := bif decide (g_VZ42_0 a0 a2 < 0) then (-1:Int) else g_VZ42_0 a0 a2
noncomputable def FZ60:FSem := fun ys => match ys with
 | [.val true [.sl .any 169 (.pair (.int .i64) (.pair (.int .i64) (.pair (.sl 9 .str) (.sl 196 (.pair .str (.pair .bool (.sl 3 (.int .i64)))))))) a0,.int .i64 a1],.val false [.int .i64 a2]] => some ((g_AZ60 a0 a1 a2),.val false [.int .i64 (g_VZ60_0 a0 a1 a2)],[])
 | _ => none
theorem vZ60 (a0:tL0) (a1:Int) (a2:Int):collapseH .std EZ60 OZ60_0 (execFn EZ60 Tryz.f27 msZ60 [.val true [.sl .any 169 (.pair (.int .i64) (.pair (.int .i64) (.pair (.sl 9 .str) (.sl 196 (.pair .str (.pair .bool (.sl 3 (.int .i64)))))))) a0,.int .i64 a1],.val false [.int .i64 a2]]) = some ((g_AZ60 a0 a1 a2),.val false [.int .i64 (g_VZ60_0 a0 a1 a2)],[]) := by kernel_rfl
theorem sZ60:Sound Tryz.prog 27 msZ60 FZ60 := by
 refine fn_gen goodZ60 (by kernel_rfl) .std (fn := Tryz.f27) (c := (Tryz.f27.body.getD .skip)) (o := OZ60_0) (k := 0) (by kernel_rfl) (by kernel_rfl) (by kernel_rfl) (by kernel_rfl) (by decide) kZ60_0 ?_
 intro ys r outs h
 unfold FZ60 at h
 split at h
 ·exact (vZ60 _ _ _).trans h
 ·cases h
noncomputable def EZ43:Env where
 tt := mkTI Tryz.prog
 fn := fun f => match f with
  | 27 => some (msZ60,FSem.wk msZ60 FZ60)
  | 28 => some (msZ76,FSem.wk msZ76 FZ76)
  | _ => none
 bxf := fun _ => none
 mv := []
 keep := fun _ => []
 keepB := fun _ => []
 keepX := fun _ => []
 keepXB := fun _ => []
theorem goodFZ43:∀ f ms F,EZ43.fn f = some (ms,F) → Sound Tryz.prog f ms F := fun f ms F h => by
 unfold EZ43 at h
 dsimp only at h
 split at h
 ·exact gF sZ60 h
 ·exact gF sZ76 h
 ·cases h
theorem goodZ43:Good Tryz.prog EZ43 := ⟨rfl,goodFZ43,fun f ms F h => by cases h⟩
noncomputable def OZ43_0:Orc := fun _ _ => none
noncomputable def msZ43:List PM := [.rd,.own]
noncomputable def lsZ43:List (Nat×Code) := loopsAll 0 (Tryz.f7.body.getD .skip)
theorem kZ43_0:OrcOk EZ43 OZ43_0 lsZ43 0 := orcOk_none
noncomputable def g_AZ43 (a0:tL0) (a1:Int) (a2:tL1) (a3:Int):Bool := g_AZ60 a0 a1 a3&&(decide (g_VZ60_0 a0 a1 a3 < 0) || g_AZ76 a2 (g_VZ60_0 a0 a1 a3)&&true)
noncomputable def g_VZ43_0 (a0:tL0) (a1:Int) (a2:tL1) (a3:Int):Int := bif decide (g_VZ60_0 a0 a1 a3 < 0) then (-1:Int) else bif decide (g_VZ76_0 a2 (g_VZ60_0 a0 a1 a3) < 0) then (-1:Int) else g_VZ76_0 a2 (g_VZ60_0 a0 a1 a3)
noncomputable def FZ43:FSem := fun ys => match ys with
 | [.val true [.sl .any 169 (.pair (.int .i64) (.pair (.int .i64) (.pair (.sl 9 .str) (.sl 196 (.pair .str (.pair .bool (.sl 3 (.int .i64)))))))) a0,.int .i64 a1,.sl .any 129 (.pair (.int .i64) (.pair (.pair (.int .i64) (.pair (.int .i64) (.pair (.int .i64) (.pair (.int .i64) (.pair (.int .i64) (.pair (.int .i64) (.int .i64))))))) (.pair .bool (.pair (.sl 3 (.int .i64)) (.sl 3 (.int .i64)))))) a2],.val false [.int .i64 a3]] => some ((g_AZ43 a0 a1 a2 a3),.val false [.int .i64 (g_VZ43_0 a0 a1 a2 a3)],[])
 | _ => none
theorem vZ43 (a0:tL0) (a1:Int) (a2:tL1) (a3:Int):collapseH .std EZ43 OZ43_0 (execFn EZ43 Tryz.f7 msZ43 [.val true [.sl .any 169 (.pair (.int .i64) (.pair (.int .i64) (.pair (.sl 9 .str) (.sl 196 (.pair .str (.pair .bool (.sl 3 (.int .i64)))))))) a0,.int .i64 a1,.sl .any 129 (.pair (.int .i64) (.pair (.pair (.int .i64) (.pair (.int .i64) (.pair (.int .i64) (.pair (.int .i64) (.pair (.int .i64) (.pair (.int .i64) (.int .i64))))))) (.pair .bool (.pair (.sl 3 (.int .i64)) (.sl 3 (.int .i64)))))) a2],.val false [.int .i64 a3]]) = some ((g_AZ43 a0 a1 a2 a3),.val false [.int .i64 (g_VZ43_0 a0 a1 a2 a3)],[]) := by kernel_rfl
theorem sZ43:Sound Tryz.prog 7 msZ43 FZ43 := by
 refine fn_gen goodZ43 (by kernel_rfl) .std (fn := Tryz.f7) (c := (Tryz.f7.body.getD .skip)) (o := OZ43_0) (k := 0) (by kernel_rfl) (by kernel_rfl) (by kernel_rfl) (by kernel_rfl) (by decide) kZ43_0 ?_
 intro ys r outs h
 unfold FZ43 at h
 split at h
 ·exact (vZ43 _ _ _ _).trans h
 ·cases h
noncomputable def EZ44:Env where
 tt := mkTI Tryz.prog
 fn := fun f => match f with
  | 27 => some (msZ60,FSem.wk msZ60 FZ60)
  | _ => none
 bxf := fun _ => none
 mv := []
 keep := fun b => match b with
  | 0 => [(0,false),(1,false),(5,false)]
  | _ => []
 keepB := fun b => match b with
  | 0 => []
  | _ => []
 keepX := fun b => match b with
  | 0 => [(1,false),(4,false)]
  | _ => []
 keepXB := fun b => match b with
  | 0 => []
  | _ => []
theorem goodFZ44:∀ f ms F,EZ44.fn f = some (ms,F) → Sound Tryz.prog f ms F := fun f ms F h => by
 unfold EZ44 at h
 dsimp only at h
 split at h
 ·exact gF sZ60 h
 ·cases h
theorem goodZ44:Good Tryz.prog EZ44 := ⟨rfl,goodFZ44,fun f ms F h => by cases h⟩
noncomputable def OZ44_0:Orc := fun _ _ => none
noncomputable def msZ44:List PM := [.rd,.own]
noncomputable def lsZ44:List (Nat×Code) := loopsAll 0 (Tryz.f62.body.getD .skip)
noncomputable def cZ44_0:Code := (loopOf 0 (Tryz.f62.body.getD .skip)).getD .skip
theorem lseqZ44:lsZ44 = [(0,cZ44_0)] := by kernel_rfl
theorem mZ44_0:∀ p,p ∈ lsZ44 → p.1 = 0 → p.2 = cZ44_0 := by
 intro p hp
 rw [lseqZ44] at hp
 simp only [List.mem_cons,List.not_mem_nil,or_false] at hp
 subst hp; simp
theorem kZ44_0:OrcOk EZ44 OZ44_0 lsZ44 0 := orcOk_none
noncomputable def hZ44_0 (y0:List (tL0×Int)) (y1:Int) (y2:Int):List (Pl×LV) := [(.T 0,.t (.val false [.sl .any 24 (.pair (.sl 169 (.pair (.int .i64) (.pair (.int .i64) (.pair (.sl 9 .str) (.sl 196 (.pair .str (.pair .bool (.sl 3 (.int .i64))))))))) (.int .i64)) y0])),(.T 1,.t (.val false [.int .i64 y1])),(.T 5,.t (.val false [.int .i64 y2]))]
noncomputable def g_SZ44_0 (y0:List (tL0×Int)):(Int×Int) → RT (Int×Int) ((Int×Int) ⊕ (Int))
 | (y1,y2) => .br (true) (.br (decide (y2 < (y0.length:Int))) (.br (decide (0 ≤ y2 ∧ y2 < (y0.length:Int))) (.br (g_AZ60 (at_ yT7 y0 (Int.toNat y2)).1 (at_ yT7 y0 (Int.toNat y2)).2 y1) (.br (true) (.br (decide (g_VZ60_0 (at_ yT7 y0 (Int.toNat y2)).1 (at_ yT7 y0 (Int.toNat y2)).2 y1 < 0)) (.out (.inl ((g_VZ60_0 (at_ yT7 y0 (Int.toNat y2)).1 (at_ yT7 y0 (Int.toNat y2)).2 y1,(-1:Int))))) (.br (true) (.go ((g_VZ60_0 (at_ yT7 y0 (Int.toNat y2)).1 (at_ yT7 y0 (Int.toNat y2)).2 y1,IntKind.i64.wrap (y2 + 1)))) .bad)) .bad) .bad) .bad) (.out (.inr (y1)))) .bad
noncomputable def g_LZ44_0 (y0:List (tL0×Int)) (x:Int×Int):Option ((Int×Int) ⊕ (Int)) := loopO (g_SZ44_0 y0) x
noncomputable def xZ44_0 (y0:List (tL0×Int)):((Int×Int) ⊕ (Int)) → Ex×List (Pl×LV) := fun
 | .inl r => (.ret,[(.T 1,.t (.val false [.int .i64 r.1])),(.T 4,.t (.val false [.int .i64 r.2]))])
 | .inr (r) => (.exit 0,[(.T 1,.t (.val false [.int .i64 r])),(.T 4,.t (.val false [.undef]))])
noncomputable def OZ44_1:Orc := fun b h => match b,h with
 | 0,[(.T 0,.t (.val false [.sl .any 24 (.pair (.sl 169 (.pair (.int .i64) (.pair (.int .i64) (.pair (.sl 9 .str) (.sl 196 (.pair .str (.pair .bool (.sl 3 (.int .i64))))))))) (.int .i64)) y0])),(.T 1,.t (.val false [.int .i64 y1])),(.T 5,.t (.val false [.int .i64 y2]))] => some (okO (g_LZ44_0 y0 (y1,y2)),(.br (isL (valO (g_LZ44_0 y0 (y1,y2)))) (.leaf .ret [(.T 1,.t (.val false [.int .i64 (getL (valO (g_LZ44_0 y0 (y1,y2)))).1])),(.T 4,.t (.val false [.int .i64 (getL (valO (g_LZ44_0 y0 (y1,y2)))).2]))]) (.leaf (.exit 0) [(.T 1,.t (.val false [.int .i64 (getR (valO (g_LZ44_0 y0 (y1,y2))))])),(.T 4,.t (.val false [.undef]))])))
 | b,h => OZ44_0 b h
theorem bZ44_0 (y0:List (tL0×Int)) (y1:Int) (y2:Int):Tr.bt EZ44 OZ44_0 (exec EZ44 0 cZ44_0 (St.of (hZ44_0 y0 y1 y2)) (leafRd EZ44 0)) = (g_SZ44_0 y0 (y1,y2)).bt (fun ((y1,y2):Int×Int) => (hZ44_0 y0 y1 y2)) (xZ44_0 y0) := by kernel_rfl
theorem kZ44_1:OrcOk EZ44 OZ44_1 lsZ44 1 := orc_add kZ44_0 (fun n p hp h ex h' ho => by
 obtain ⟨b,c⟩ := p
 obtain ⟨xt,h1,h2⟩ := ho
 have h1:OZ44_1 b h = some (true,xt) := h1
 unfold OZ44_1 at h1
 split at h1
 ·injection h1 with h1
  injection h1 with e1 e2
  subst e2
  have hc:c = cZ44_0 := mZ44_0 _ hp rfl
  subst hc
  right
  rename_i y0 y1 y2
  have key := LT_step kZ44_0 hp (fun q hq => loopsAll_in _ _ _ _ hp hq) (fun ((y1,y2):Int×Int) => (hZ44_0 y0 y1 y2)) (xZ44_0 y0) (g_SZ44_0 y0) (fun x => by first | exact bZ44_0 y0 x.1 x.2) n (x := (y1,y2)) (okO_some e1)
  have hx:∀ r,XT.sel (.br (isL r) (.leaf .ret [(.T 1,.t (.val false [.int .i64 (getL r).1])),(.T 4,.t (.val false [.int .i64 (getL r).2]))]) (.leaf (.exit 0) [(.T 1,.t (.val false [.int .i64 (getR r)])),(.T 4,.t (.val false [.undef]))])) = xZ44_0 y0 r := fun r => by first | rfl | rcases r with r | r <;> rfl | rcases r with r | r | r <;> rfl | rcases r with r | r | r | r <;> rfl
  have h3 := (hx (valO (g_LZ44_0 y0 (y1,y2)))).symm.trans h2
  have e3 := congrArg Prod.fst h3
  have e4 := congrArg Prod.snd h3
  simp only at e3 e4
  rw [← e3,← e4]
  exact key
 ·exact .inl ⟨xt,h1,h2⟩)
noncomputable def g_AZ44 (a0:List (tL0×Int)) (a1:Int):Bool := decide (IntKind.i64.wrap (a1 - (a0.length:Int)) < 0) || okO (g_LZ44_0 a0 (IntKind.i64.wrap (a1 - (a0.length:Int)),(0:Int)))
noncomputable def g_VZ44_0 (a0:List (tL0×Int)) (a1:Int):Int := bif decide (IntKind.i64.wrap (a1 - (a0.length:Int)) < 0) then (-1:Int) else bif isL (valO (g_LZ44_0 a0 (IntKind.i64.wrap (a1 - (a0.length:Int)),(0:Int)))) then (getL (valO (g_LZ44_0 a0 (IntKind.i64.wrap (a1 - (a0.length:Int)),(0:Int))))).2 else getR (valO (g_LZ44_0 a0 (IntKind.i64.wrap (a1 - (a0.length:Int)),(0:Int))))
noncomputable def FZ44:FSem := fun ys => match ys with
 | [.val false [.sl .any 24 (.pair (.sl 169 (.pair (.int .i64) (.pair (.int .i64) (.pair (.sl 9 .str) (.sl 196 (.pair .str (.pair .bool (.sl 3 (.int .i64))))))))) (.int .i64)) a0],.val false [.int .i64 a1]] => some ((g_AZ44 a0 a1),.val false [.int .i64 (g_VZ44_0 a0 a1)],[])
 | _ => none
theorem vZ44 (a0:List (tL0×Int)) (a1:Int):collapseH .std EZ44 OZ44_1 (execFn EZ44 Tryz.f62 msZ44 [.val false [.sl .any 24 (.pair (.sl 169 (.pair (.int .i64) (.pair (.int .i64) (.pair (.sl 9 .str) (.sl 196 (.pair .str (.pair .bool (.sl 3 (.int .i64))))))))) (.int .i64)) a0],.val false [.int .i64 a1]]) = some ((g_AZ44 a0 a1),.val false [.int .i64 (g_VZ44_0 a0 a1)],[]) := by kernel_rfl
theorem sZ44:Sound Tryz.prog 62 msZ44 FZ44 := by
 refine fn_gen goodZ44 (by kernel_rfl) .std (fn := Tryz.f62) (c := (Tryz.f62.body.getD .skip)) (o := OZ44_1) (k := 1) (by kernel_rfl) (by kernel_rfl) (by kernel_rfl) (by kernel_rfl) (by decide) kZ44_1 ?_
 intro ys r outs h
 unfold FZ44 at h
 split at h
 ·exact (vZ44 _ _).trans h
 ·cases h
noncomputable def EZ61:Env where
 tt := mkTI Tryz.prog
 fn := fun _ => none
 bxf := fun _ => none
 mv := []
 keep := fun _ => []
 keepB := fun _ => []
 keepX := fun _ => []
 keepXB := fun _ => []
theorem goodFZ61:∀ f ms F,EZ61.fn f = some (ms,F) → Sound Tryz.prog f ms F := fun f ms F h => by cases h
theorem goodZ61:Good Tryz.prog EZ61 := ⟨rfl,goodFZ61,fun f ms F h => by cases h⟩
noncomputable def OZ61_0:Orc := fun _ _ => none
noncomputable def msZ61:List PM := [.rd,.own]
noncomputable def lsZ61:List (Nat×Code) := loopsAll 0 (Tryz.f63.body.getD .skip)
theorem kZ61_0:OrcOk EZ61 OZ61_0 lsZ61 0 := orcOk_none
noncomputable def g_VZ61_0 (a0:tL2) (a1:Int):Int := bif decide (IntKind.i64.wrap (a1 - (a0.length:Int)) < 0) then (-1:Int) else IntKind.i64.wrap (a1 - (a0.length:Int))
noncomputable def FZ61:FSem := fun ys => match ys with
 | [.val false [.sl .any 151 (.pair (.int .i64) (.pair (.int .i64) (.pair (.int .i64) (.pair (.int .i64) (.pair (.int .i64) (.pair (.int .i64) (.pair (.int .i64) (.pair (.int .i64) (.pair (.int .i64) (.pair (.int .i64) (.int .i64))))))))))) a0],.val false [.int .i64 a1]] => some (true,.val false [.int .i64 (g_VZ61_0 a0 a1)],[])
 | _ => none
theorem vZ61 (a0:tL2) (a1:Int):collapseH .std EZ61 OZ61_0 (execFn EZ61 Tryz.f63 msZ61 [.val false [.sl .any 151 (.pair (.int .i64) (.pair (.int .i64) (.pair (.int .i64) (.pair (.int .i64) (.pair (.int .i64) (.pair (.int .i64) (.pair (.int .i64) (.pair (.int .i64) (.pair (.int .i64) (.pair (.int .i64) (.int .i64))))))))))) a0],.val false [.int .i64 a1]]) = some (true,.val false [.int .i64 (g_VZ61_0 a0 a1)],[]) := by kernel_rfl
theorem sZ61:Sound Tryz.prog 63 msZ61 FZ61 := by
 refine fn_gen goodZ61 (by kernel_rfl) .std (fn := Tryz.f63) (c := (Tryz.f63.body.getD .skip)) (o := OZ61_0) (k := 0) (by kernel_rfl) (by kernel_rfl) (by kernel_rfl) (by kernel_rfl) (by decide) kZ61_0 ?_
 intro ys r outs h
 unfold FZ61 at h
 split at h
 ·exact (vZ61 _ _).trans h
 ·cases h
noncomputable def Ew_szOpOpS:Env where
 tt := mkTI Tryz.prog
 fn := fun _ => none
 bxf := fun _ => none
 mv := []
 keep := fun _ => []
 keepB := fun _ => []
 keepX := fun _ => []
 keepXB := fun _ => []
theorem goodFw_szOpOpS:∀ f ms F,Ew_szOpOpS.fn f = some (ms,F) → Sound Tryz.prog f ms F := fun f ms F h => by cases h
theorem goodw_szOpOpS:Good Tryz.prog Ew_szOpOpS := ⟨rfl,goodFw_szOpOpS,fun f ms F h => by cases h⟩
noncomputable def Ow_szOpOpS_0:Orc := fun _ _ => none
noncomputable def msw_szOpOpS:List PM := [.rd,.own]
noncomputable def lsw_szOpOpS:List (Nat×Code) := loopsAll 0 (Tryz.f64.body.getD .skip)
theorem kw_szOpOpS_0:OrcOk Ew_szOpOpS Ow_szOpOpS_0 lsw_szOpOpS 0 := orcOk_none
noncomputable def g_Vw_szOpOpS_0 (a0:tL3) (a1:Int):Int := bif decide (IntKind.i64.wrap (a1 - (a0.length:Int)) < 0) then (-1:Int) else IntKind.i64.wrap (a1 - (a0.length:Int))
noncomputable def Fw_szOpOpS:FSem := fun ys => match ys with
 | [.val false [.sl .any 46 (.pair (.int .i64) (.pair (.int .i64) (.pair (.int .i64) (.pair (.int .i64) (.pair (.int .i64) (.pair (.int .i64) (.int .i64))))))) a0],.val false [.int .i64 a1]] => some (true,.val false [.int .i64 (g_Vw_szOpOpS_0 a0 a1)],[])
 | _ => none
theorem vw_szOpOpS (a0:tL3) (a1:Int):collapseH .std Ew_szOpOpS Ow_szOpOpS_0 (execFn Ew_szOpOpS Tryz.f64 msw_szOpOpS [.val false [.sl .any 46 (.pair (.int .i64) (.pair (.int .i64) (.pair (.int .i64) (.pair (.int .i64) (.pair (.int .i64) (.pair (.int .i64) (.int .i64))))))) a0],.val false [.int .i64 a1]]) = some (true,.val false [.int .i64 (g_Vw_szOpOpS_0 a0 a1)],[]) := by kernel_rfl
theorem sw_szOpOpS:Sound Tryz.prog 64 msw_szOpOpS Fw_szOpOpS := by
 refine fn_gen goodw_szOpOpS (by kernel_rfl) .std (fn := Tryz.f64) (c := (Tryz.f64.body.getD .skip)) (o := Ow_szOpOpS_0) (k := 0) (by kernel_rfl) (by kernel_rfl) (by kernel_rfl) (by kernel_rfl) (by decide) kw_szOpOpS_0 ?_
 intro ys r outs h
 unfold Fw_szOpOpS at h
 split at h
 ·exact (vw_szOpOpS _ _).trans h
 ·cases h
noncomputable def EZ45:Env where
 tt := mkTI Tryz.prog
 fn := fun f => match f with
  | 7 => some (msZ43,FSem.wk msZ43 FZ43)
  | 62 => some (msZ44,FSem.wk msZ44 FZ44)
  | 63 => some (msZ61,FSem.wk msZ61 FZ61)
  | 64 => some (msw_szOpOpS,FSem.wk msw_szOpOpS Fw_szOpOpS)
  | 65 => some (msZ57,FSem.wk msZ57 FZ57)
  | _ => none
 bxf := fun _ => none
 mv := []
 keep := fun _ => []
 keepB := fun _ => []
 keepX := fun _ => []
 keepXB := fun _ => []
theorem goodFZ45:∀ f ms F,EZ45.fn f = some (ms,F) → Sound Tryz.prog f ms F := fun f ms F h => by
 unfold EZ45 at h
 dsimp only at h
 split at h
 ·exact gF sZ43 h
 ·exact gF sZ44 h
 ·exact gF sZ61 h
 ·exact gF sw_szOpOpS h
 ·exact gF sZ57 h
 ·cases h
theorem goodZ45:Good Tryz.prog EZ45 := ⟨rfl,goodFZ45,fun f ms F h => by cases h⟩
noncomputable def OZ45_0:Orc := fun _ _ => none
noncomputable def msZ45:List PM := [.rd,.own]
noncomputable def lsZ45:List (Nat×Code) := loopsAll 0 (Tryz.f22.body.getD .skip)
theorem kZ45_0:OrcOk EZ45 OZ45_0 lsZ45 0 := orcOk_none
noncomputable def g_AZ45 (a0:tL0) (a1:Int) (a2:tL1) (a3:List (tL0×Int)) (a4:tL2) (a5:tL3) (a6:List (Int×Bool)) (a7:Int):Bool := g_AZ43 a0 a1 a2 a7&&(decide (g_VZ43_0 a0 a1 a2 a7 < 0) || g_AZ44 a3 (g_VZ43_0 a0 a1 a2 a7)&&(decide (g_VZ44_0 a3 (g_VZ43_0 a0 a1 a2 a7) < 0) || (decide (g_VZ61_0 a4 (g_VZ44_0 a3 (g_VZ43_0 a0 a1 a2 a7)) < 0) || (decide (g_Vw_szOpOpS_0 a5 (g_VZ61_0 a4 (g_VZ44_0 a3 (g_VZ43_0 a0 a1 a2 a7))) < 0) || true))))
noncomputable def g_VZ45_0 (a0:tL0) (a1:Int) (a2:tL1) (a3:List (tL0×Int)) (a4:tL2) (a5:tL3) (a6:List (Int×Bool)) (a7:Int):Int := bif decide (g_VZ43_0 a0 a1 a2 a7 < 0) then (-1:Int) else bif decide (g_VZ44_0 a3 (g_VZ43_0 a0 a1 a2 a7) < 0) then (-1:Int) else bif decide (g_VZ61_0 a4 (g_VZ44_0 a3 (g_VZ43_0 a0 a1 a2 a7)) < 0) then (-1:Int) else bif decide (g_Vw_szOpOpS_0 a5 (g_VZ61_0 a4 (g_VZ44_0 a3 (g_VZ43_0 a0 a1 a2 a7))) < 0) then (-1:Int) else bif decide (g_VZ57_0 a6 (g_Vw_szOpOpS_0 a5 (g_VZ61_0 a4 (g_VZ44_0 a3 (g_VZ43_0 a0 a1 a2 a7)))) < 0) then (-1:Int) else g_VZ57_0 a6 (g_Vw_szOpOpS_0 a5 (g_VZ61_0 a4 (g_VZ44_0 a3 (g_VZ43_0 a0 a1 a2 a7))))
noncomputable def FZ45:FSem := fun ys => match ys with
 | [.val true [.sl .any 169 (.pair (.int .i64) (.pair (.int .i64) (.pair (.sl 9 .str) (.sl 196 (.pair .str (.pair .bool (.sl 3 (.int .i64)))))))) a0,.int .i64 a1,.sl .any 129 (.pair (.int .i64) (.pair (.pair (.int .i64) (.pair (.int .i64) (.pair (.int .i64) (.pair (.int .i64) (.pair (.int .i64) (.pair (.int .i64) (.int .i64))))))) (.pair .bool (.pair (.sl 3 (.int .i64)) (.sl 3 (.int .i64)))))) a2,.sl .any 24 (.pair (.sl 169 (.pair (.int .i64) (.pair (.int .i64) (.pair (.sl 9 .str) (.sl 196 (.pair .str (.pair .bool (.sl 3 (.int .i64))))))))) (.int .i64)) a3,.sl .any 151 (.pair (.int .i64) (.pair (.int .i64) (.pair (.int .i64) (.pair (.int .i64) (.pair (.int .i64) (.pair (.int .i64) (.pair (.int .i64) (.pair (.int .i64) (.pair (.int .i64) (.pair (.int .i64) (.int .i64))))))))))) a4,.sl .any 46 (.pair (.int .i64) (.pair (.int .i64) (.pair (.int .i64) (.pair (.int .i64) (.pair (.int .i64) (.pair (.int .i64) (.int .i64))))))) a5,.sl .any 153 (.pair (.int .i64) .bool) a6],.val false [.int .i64 a7]] => some ((g_AZ45 a0 a1 a2 a3 a4 a5 a6 a7),.val false [.int .i64 (g_VZ45_0 a0 a1 a2 a3 a4 a5 a6 a7)],[])
 | _ => none
theorem vZ45 (a0:tL0) (a1:Int) (a2:tL1) (a3:List (tL0×Int)) (a4:tL2) (a5:tL3) (a6:List (Int×Bool)) (a7:Int):collapseH .std EZ45 OZ45_0 (execFn EZ45 Tryz.f22 msZ45 [.val true [.sl .any 169 (.pair (.int .i64) (.pair (.int .i64) (.pair (.sl 9 .str) (.sl 196 (.pair .str (.pair .bool (.sl 3 (.int .i64)))))))) a0,.int .i64 a1,.sl .any 129 (.pair (.int .i64) (.pair (.pair (.int .i64) (.pair (.int .i64) (.pair (.int .i64) (.pair (.int .i64) (.pair (.int .i64) (.pair (.int .i64) (.int .i64))))))) (.pair .bool (.pair (.sl 3 (.int .i64)) (.sl 3 (.int .i64)))))) a2,.sl .any 24 (.pair (.sl 169 (.pair (.int .i64) (.pair (.int .i64) (.pair (.sl 9 .str) (.sl 196 (.pair .str (.pair .bool (.sl 3 (.int .i64))))))))) (.int .i64)) a3,.sl .any 151 (.pair (.int .i64) (.pair (.int .i64) (.pair (.int .i64) (.pair (.int .i64) (.pair (.int .i64) (.pair (.int .i64) (.pair (.int .i64) (.pair (.int .i64) (.pair (.int .i64) (.pair (.int .i64) (.int .i64))))))))))) a4,.sl .any 46 (.pair (.int .i64) (.pair (.int .i64) (.pair (.int .i64) (.pair (.int .i64) (.pair (.int .i64) (.pair (.int .i64) (.int .i64))))))) a5,.sl .any 153 (.pair (.int .i64) .bool) a6],.val false [.int .i64 a7]]) = some ((g_AZ45 a0 a1 a2 a3 a4 a5 a6 a7),.val false [.int .i64 (g_VZ45_0 a0 a1 a2 a3 a4 a5 a6 a7)],[]) := by kernel_rfl
theorem sZ45:Sound Tryz.prog 22 msZ45 FZ45 := by
 refine fn_gen goodZ45 (by kernel_rfl) .std (fn := Tryz.f22) (c := (Tryz.f22.body.getD .skip)) (o := OZ45_0) (k := 0) (by kernel_rfl) (by kernel_rfl) (by kernel_rfl) (by kernel_rfl) (by decide) kZ45_0 ?_
 intro ys r outs h
 unfold FZ45 at h
 split at h
 ·exact (vZ45 _ _ _ _ _ _ _ _).trans h
 ·cases h
noncomputable def EZ77:Env where
 tt := mkTI Tryz.prog
 fn := fun _ => none
 bxf := fun _ => none
 mv := []
 keep := fun _ => []
 keepB := fun _ => []
 keepX := fun _ => []
 keepXB := fun _ => []
theorem goodFZ77:∀ f ms F,EZ77.fn f = some (ms,F) → Sound Tryz.prog f ms F := fun f ms F h => by cases h
theorem goodZ77:Good Tryz.prog EZ77 := ⟨rfl,goodFZ77,fun f ms F h => by cases h⟩
noncomputable def OZ77_0:Orc := fun _ _ => none
noncomputable def msZ77:List PM := [.own]
noncomputable def lsZ77:List (Nat×Code) := loopsAll 0 (Tryz.f120.body.getD .skip)
theorem kZ77_0:OrcOk EZ77 OZ77_0 lsZ77 0 := orcOk_none
noncomputable def FZ77:FSem := fun ys => match ys with
 | [.val true [.int .i64 a0,.bool a1]] => some (true,.val true [.int .i64 a0,.bool a1],[])
 | _ => none
theorem vZ77 (a0:Int) (a1:Bool):collapseH .std EZ77 OZ77_0 (execFn EZ77 Tryz.f120 msZ77 [.val true [.int .i64 a0,.bool a1]]) = some (true,.val true [.int .i64 a0,.bool a1],[]) := by kernel_rfl
theorem sZ77:Sound Tryz.prog 120 msZ77 FZ77 := by
 refine fn_gen goodZ77 (by kernel_rfl) .std (fn := Tryz.f120) (c := (Tryz.f120.body.getD .skip)) (o := OZ77_0) (k := 0) (by kernel_rfl) (by kernel_rfl) (by kernel_rfl) (by kernel_rfl) (by decide) kZ77_0 ?_
 intro ys r outs h
 unfold FZ77 at h
 split at h
 ·exact (vZ77 _ _).trans h
 ·cases h
noncomputable def EZ62:Env where
 tt := mkTI Tryz.prog
 fn := fun f => match f with
  | 120 => some (msZ77,FSem.wk msZ77 FZ77)
  | _ => none
 bxf := fun _ => none
 mv := []
 keep := fun b => match b with
  | 0 => [(0,false),(3,false),(4,false)]
  | _ => []
 keepB := fun b => match b with
  | 0 => []
  | _ => []
 keepX := fun b => match b with
  | 0 => [(3,false)]
  | _ => []
 keepXB := fun b => match b with
  | 0 => []
  | _ => []
theorem goodFZ62:∀ f ms F,EZ62.fn f = some (ms,F) → Sound Tryz.prog f ms F := fun f ms F h => by
 unfold EZ62 at h
 dsimp only at h
 split at h
 ·exact gF sZ77 h
 ·cases h
theorem goodZ62:Good Tryz.prog EZ62 := ⟨rfl,goodFZ62,fun f ms F h => by cases h⟩
noncomputable def OZ62_0:Orc := fun _ _ => none
noncomputable def msZ62:List PM := [.rd]
noncomputable def lsZ62:List (Nat×Code) := loopsAll 0 (Tryz.f71.body.getD .skip)
noncomputable def cZ62_0:Code := (loopOf 0 (Tryz.f71.body.getD .skip)).getD .skip
theorem lseqZ62:lsZ62 = [(0,cZ62_0)] := by kernel_rfl
theorem mZ62_0:∀ p,p ∈ lsZ62 → p.1 = 0 → p.2 = cZ62_0 := by
 intro p hp
 rw [lseqZ62] at hp
 simp only [List.mem_cons,List.not_mem_nil,or_false] at hp
 subst hp; simp
theorem kZ62_0:OrcOk EZ62 OZ62_0 lsZ62 0 := orcOk_none
noncomputable def hZ62_0 (y0:List (Int×Bool)) (y1:List (Int×Bool)) (y2:Int):List (Pl×LV) := [(.T 0,.t (.val false [.sl .any 153 (.pair (.int .i64) .bool) y0])),(.T 3,.t (.val false [.row 3 0 0])),(.R 3 0,.r 0 (some ⟨false,.non,true,110,(.pair (.int .i64) .bool),y1⟩)),(.T 4,.t (.val false [.int .i64 y2]))]
noncomputable def g_SZ62_0 (y0:List (Int×Bool)):((List (Int×Bool))×Int) → RT ((List (Int×Bool))×Int) (((List (Int×Bool))))
 | (y1,y2) => .br (true) (.br (decide (y2 < (y0.length:Int))) (.br (decide (0 ≤ y2 ∧ y2 < (y0.length:Int))) (.br (true) (.br (decide (0 ≤ y2 ∧ y2 < (y1.length:Int))) (.br (decide (Int.toNat y2 < List.length y1)) (.br (true) (.go ((List.set y1 (Int.toNat y2) ((at_ (.pair (.int .i64) Ty.bool) y0 (Int.toNat y2)).1,(at_ (.pair (.int .i64) Ty.bool) y0 (Int.toNat y2)).2),IntKind.i64.wrap (y2 + 1)))) .bad) .bad) .bad) .bad) .bad) (.out (y1))) .bad
noncomputable def g_LZ62_0 (y0:List (Int×Bool)) (x:(List (Int×Bool))×Int):Option (((List (Int×Bool)))) := loopO (g_SZ62_0 y0) x
noncomputable def xZ62_0 (y0:List (Int×Bool)):(((List (Int×Bool)))) → Ex×List (Pl×LV) := fun r => (.exit 0,[(.T 3,.t (.val false [.row 3 0 0])),(.R 3 0,.r 0 (some ⟨false,.non,true,110,(.pair (.int .i64) .bool),r⟩))])
noncomputable def OZ62_1:Orc := fun b h => match b,h with
 | 0,[(.T 0,.t (.val false [.sl .any 153 (.pair (.int .i64) .bool) y0])),(.T 3,.t (.val false [.row 3 0 0])),(.R 3 0,.r 0 (some ⟨false,.non,true,110,(.pair (.int .i64) .bool),y1⟩)),(.T 4,.t (.val false [.int .i64 y2]))] => some (okO (g_LZ62_0 y0 (y1,y2)),(.leaf (.exit 0) [(.T 3,.t (.val false [.row 3 0 0])),(.R 3 0,.r 0 (some ⟨false,.non,true,110,(.pair (.int .i64) .bool),(valO (g_LZ62_0 y0 (y1,y2)))⟩))]))
 | b,h => OZ62_0 b h
theorem bZ62_0 (y0:List (Int×Bool)) (y1:List (Int×Bool)) (y2:Int):Tr.bt EZ62 OZ62_0 (exec EZ62 0 cZ62_0 (St.of (hZ62_0 y0 y1 y2)) (leafRd EZ62 0)) = (g_SZ62_0 y0 (y1,y2)).bt (fun ((y1,y2):(List (Int×Bool))×Int) => (hZ62_0 y0 y1 y2)) (xZ62_0 y0) := by kernel_rfl
theorem kZ62_1:OrcOk EZ62 OZ62_1 lsZ62 1 := orc_add kZ62_0 (fun n p hp h ex h' ho => by
 obtain ⟨b,c⟩ := p
 obtain ⟨xt,h1,h2⟩ := ho
 have h1:OZ62_1 b h = some (true,xt) := h1
 unfold OZ62_1 at h1
 split at h1
 ·injection h1 with h1
  injection h1 with e1 e2
  subst e2
  have hc:c = cZ62_0 := mZ62_0 _ hp rfl
  subst hc
  right
  rename_i y0 y1 y2
  have key := LT_step kZ62_0 hp (fun q hq => loopsAll_in _ _ _ _ hp hq) (fun ((y1,y2):(List (Int×Bool))×Int) => (hZ62_0 y0 y1 y2)) (xZ62_0 y0) (g_SZ62_0 y0) (fun x => by first | exact bZ62_0 y0 x.1 x.2) n (x := (y1,y2)) (okO_some e1)
  have hx:∀ r,XT.sel (.leaf (.exit 0) [(.T 3,.t (.val false [.row 3 0 0])),(.R 3 0,.r 0 (some ⟨false,.non,true,110,(.pair (.int .i64) .bool),r⟩))]) = xZ62_0 y0 r := fun r => by first | rfl | rcases r with r | r <;> rfl | rcases r with r | r | r <;> rfl | rcases r with r | r | r | r <;> rfl
  have h3 := (hx (valO (g_LZ62_0 y0 (y1,y2)))).symm.trans h2
  have e3 := congrArg Prod.fst h3
  have e4 := congrArg Prod.snd h3
  simp only at e3 e4
  rw [← e3,← e4]
  exact key
 ·exact .inl ⟨xt,h1,h2⟩)
noncomputable def g_AZ62 (a0:List (Int×Bool)):Bool := decide ((a0.length:Int) = (a0.length:Int) ∧ 0 ≤ (a0.length:Int) ∧ (a0.length:Int) ≤ 9223372036854775807 ∧ 16 * (a0.length:Int) ≤ 281474976710656)&&okO (g_LZ62_0 a0 (List.replicate (Int.toNat (a0.length:Int)) ((0:Int),false),(0:Int)))
noncomputable def g_VZ62_0 (a0:List (Int×Bool)):List (Int×Bool) := valO (g_LZ62_0 a0 (List.replicate (Int.toNat (a0.length:Int)) ((0:Int),false),(0:Int)))
noncomputable def FZ62:FSem := fun ys => match ys with
 | [.val false [.sl .any 153 (.pair (.int .i64) .bool) a0]] => some ((g_AZ62 a0),.val false [.own .any true 110 (.pair (.int .i64) .bool) (g_VZ62_0 a0)],[])
 | _ => none
theorem vZ62 (a0:List (Int×Bool)):collapseH .std EZ62 OZ62_1 (execFn EZ62 Tryz.f71 msZ62 [.val false [.sl .any 153 (.pair (.int .i64) .bool) a0]]) = some ((g_AZ62 a0),.val false [.own .any true 110 (.pair (.int .i64) .bool) (g_VZ62_0 a0)],[]) := by kernel_rfl
theorem sZ62:Sound Tryz.prog 71 msZ62 FZ62 := by
 refine fn_gen goodZ62 (by kernel_rfl) .std (fn := Tryz.f71) (c := (Tryz.f71.body.getD .skip)) (o := OZ62_1) (k := 1) (by kernel_rfl) (by kernel_rfl) (by kernel_rfl) (by kernel_rfl) (by decide) kZ62_1 ?_
 intro ys r outs h
 unfold FZ62 at h
 split at h
 ·exact (vZ62 _).trans h
 ·cases h
noncomputable def Ew_toIntS:Env where
 tt := mkTI Tryz.prog
 fn := fun _ => none
 bxf := fun _ => none
 mv := []
 keep := fun b => match b with
  | 0 => [(0,false),(3,false),(4,false)]
  | _ => []
 keepB := fun b => match b with
  | 0 => []
  | _ => []
 keepX := fun b => match b with
  | 0 => [(3,false)]
  | _ => []
 keepXB := fun b => match b with
  | 0 => []
  | _ => []
theorem goodFw_toIntS:∀ f ms F,Ew_toIntS.fn f = some (ms,F) → Sound Tryz.prog f ms F := fun f ms F h => by cases h
theorem goodw_toIntS:Good Tryz.prog Ew_toIntS := ⟨rfl,goodFw_toIntS,fun f ms F h => by cases h⟩
noncomputable def Ow_toIntS_0:Orc := fun _ _ => none
noncomputable def msw_toIntS:List PM := [.rd]
noncomputable def lsw_toIntS:List (Nat×Code) := loopsAll 0 (Tryz.f136.body.getD .skip)
noncomputable def cw_toIntS_0:Code := (loopOf 0 (Tryz.f136.body.getD .skip)).getD .skip
theorem lseqw_toIntS:lsw_toIntS = [(0,cw_toIntS_0)] := by kernel_rfl
theorem mw_toIntS_0:∀ p,p ∈ lsw_toIntS → p.1 = 0 → p.2 = cw_toIntS_0 := by
 intro p hp
 rw [lseqw_toIntS] at hp
 simp only [List.mem_cons,List.not_mem_nil,or_false] at hp
 subst hp; simp
theorem kw_toIntS_0:OrcOk Ew_toIntS Ow_toIntS_0 lsw_toIntS 0 := orcOk_none
noncomputable def hw_toIntS_0 (y0:List Int) (y1:List Int) (y2:Int):List (Pl×LV) := [(.T 0,.t (.val false [.sl .any 3 (.int .i64) y0])),(.T 3,.t (.val false [.row 3 0 0])),(.R 3 0,.r 0 (some ⟨false,.non,true,3,(.int .i64),y1⟩)),(.T 4,.t (.val false [.int .i64 y2]))]
noncomputable def g_Sw_toIntS_0 (y0:List Int):((List Int)×Int) → RT ((List Int)×Int) (((List Int)))
 | (y1,y2) => .br (true) (.br (decide (y2 < (y0.length:Int))) (.br (decide (0 ≤ y2 ∧ y2 < (y0.length:Int))) (.br (decide (0 ≤ y2 ∧ y2 < (y1.length:Int))) (.br (decide (Int.toNat y2 < List.length y1)) (.br (true) (.go ((List.set y1 (Int.toNat y2) (at_ (.int .i64) y0 (Int.toNat y2)),IntKind.i64.wrap (y2 + 1)))) .bad) .bad) .bad) .bad) (.out (y1))) .bad
noncomputable def g_Lw_toIntS_0 (y0:List Int) (x:(List Int)×Int):Option (((List Int))) := loopO (g_Sw_toIntS_0 y0) x
noncomputable def xw_toIntS_0 (y0:List Int):(((List Int))) → Ex×List (Pl×LV) := fun r => (.exit 0,[(.T 3,.t (.val false [.row 3 0 0])),(.R 3 0,.r 0 (some ⟨false,.non,true,3,(.int .i64),r⟩))])
noncomputable def Ow_toIntS_1:Orc := fun b h => match b,h with
 | 0,[(.T 0,.t (.val false [.sl .any 3 (.int .i64) y0])),(.T 3,.t (.val false [.row 3 0 0])),(.R 3 0,.r 0 (some ⟨false,.non,true,3,(.int .i64),y1⟩)),(.T 4,.t (.val false [.int .i64 y2]))] => some (okO (g_Lw_toIntS_0 y0 (y1,y2)),(.leaf (.exit 0) [(.T 3,.t (.val false [.row 3 0 0])),(.R 3 0,.r 0 (some ⟨false,.non,true,3,(.int .i64),(valO (g_Lw_toIntS_0 y0 (y1,y2)))⟩))]))
 | b,h => Ow_toIntS_0 b h
theorem bw_toIntS_0 (y0:List Int) (y1:List Int) (y2:Int):Tr.bt Ew_toIntS Ow_toIntS_0 (exec Ew_toIntS 0 cw_toIntS_0 (St.of (hw_toIntS_0 y0 y1 y2)) (leafRd Ew_toIntS 0)) = (g_Sw_toIntS_0 y0 (y1,y2)).bt (fun ((y1,y2):(List Int)×Int) => (hw_toIntS_0 y0 y1 y2)) (xw_toIntS_0 y0) := by kernel_rfl
theorem kw_toIntS_1:OrcOk Ew_toIntS Ow_toIntS_1 lsw_toIntS 1 := orc_add kw_toIntS_0 (fun n p hp h ex h' ho => by
 obtain ⟨b,c⟩ := p
 obtain ⟨xt,h1,h2⟩ := ho
 have h1:Ow_toIntS_1 b h = some (true,xt) := h1
 unfold Ow_toIntS_1 at h1
 split at h1
 ·injection h1 with h1
  injection h1 with e1 e2
  subst e2
  have hc:c = cw_toIntS_0 := mw_toIntS_0 _ hp rfl
  subst hc
  right
  rename_i y0 y1 y2
  have key := LT_step kw_toIntS_0 hp (fun q hq => loopsAll_in _ _ _ _ hp hq) (fun ((y1,y2):(List Int)×Int) => (hw_toIntS_0 y0 y1 y2)) (xw_toIntS_0 y0) (g_Sw_toIntS_0 y0) (fun x => by first | exact bw_toIntS_0 y0 x.1 x.2) n (x := (y1,y2)) (okO_some e1)
  have hx:∀ r,XT.sel (.leaf (.exit 0) [(.T 3,.t (.val false [.row 3 0 0])),(.R 3 0,.r 0 (some ⟨false,.non,true,3,(.int .i64),r⟩))]) = xw_toIntS_0 y0 r := fun r => by first | rfl | rcases r with r | r <;> rfl | rcases r with r | r | r <;> rfl | rcases r with r | r | r | r <;> rfl
  have h3 := (hx (valO (g_Lw_toIntS_0 y0 (y1,y2)))).symm.trans h2
  have e3 := congrArg Prod.fst h3
  have e4 := congrArg Prod.snd h3
  simp only at e3 e4
  rw [← e3,← e4]
  exact key
 ·exact .inl ⟨xt,h1,h2⟩)
noncomputable def g_Aw_toIntS (a0:List Int):Bool := decide ((a0.length:Int) = (a0.length:Int) ∧ 0 ≤ (a0.length:Int) ∧ (a0.length:Int) ≤ 9223372036854775807 ∧ 8 * (a0.length:Int) ≤ 281474976710656)&&okO (g_Lw_toIntS_0 a0 (List.replicate (Int.toNat (a0.length:Int)) (0:Int),(0:Int)))
noncomputable def g_Vw_toIntS_0 (a0:List Int):List Int := valO (g_Lw_toIntS_0 a0 (List.replicate (Int.toNat (a0.length:Int)) (0:Int),(0:Int)))
noncomputable def Fw_toIntS:FSem := fun ys => match ys with
 | [.val false [.sl .any 3 (.int .i64) a0]] => some ((g_Aw_toIntS a0),.val false [.own .any true 3 (.int .i64) (g_Vw_toIntS_0 a0)],[])
 | _ => none
theorem vw_toIntS (a0:List Int):collapseH .std Ew_toIntS Ow_toIntS_1 (execFn Ew_toIntS Tryz.f136 msw_toIntS [.val false [.sl .any 3 (.int .i64) a0]]) = some ((g_Aw_toIntS a0),.val false [.own .any true 3 (.int .i64) (g_Vw_toIntS_0 a0)],[]) := by kernel_rfl
theorem sw_toIntS:Sound Tryz.prog 136 msw_toIntS Fw_toIntS := by
 refine fn_gen goodw_toIntS (by kernel_rfl) .std (fn := Tryz.f136) (c := (Tryz.f136.body.getD .skip)) (o := Ow_toIntS_1) (k := 1) (by kernel_rfl) (by kernel_rfl) (by kernel_rfl) (by kernel_rfl) (by decide) kw_toIntS_1 ?_
 intro ys r outs h
 unfold Fw_toIntS at h
 split at h
 ·exact (vw_toIntS _).trans h
 ·cases h
noncomputable def Ew_toOpOp:Env where
 tt := mkTI Tryz.prog
 fn := fun _ => none
 bxf := fun _ => none
 mv := []
 keep := fun _ => []
 keepB := fun _ => []
 keepX := fun _ => []
 keepXB := fun _ => []
theorem goodFw_toOpOp:∀ f ms F,Ew_toOpOp.fn f = some (ms,F) → Sound Tryz.prog f ms F := fun f ms F h => by cases h
theorem goodw_toOpOp:Good Tryz.prog Ew_toOpOp := ⟨rfl,goodFw_toOpOp,fun f ms F h => by cases h⟩
noncomputable def Ow_toOpOp_0:Orc := fun _ _ => none
noncomputable def msw_toOpOp:List PM := [.own]
noncomputable def lsw_toOpOp:List (Nat×Code) := loopsAll 0 (Tryz.f20.body.getD .skip)
theorem kw_toOpOp_0:OrcOk Ew_toOpOp Ow_toOpOp_0 lsw_toOpOp 0 := orcOk_none
noncomputable def Fw_toOpOp:FSem := fun ys => match ys with
 | [.val true [.int .i64 a0,.int .i64 a1,.int .i64 a2,.int .i64 a3,.int .i64 a4,.int .i64 a5,.int .i64 a6]] => some (true,.val true [.int .i64 a0,.int .i64 a1,.int .i64 a2,.int .i64 a3,.int .i64 a4,.int .i64 a5,.int .i64 a6],[])
 | _ => none
theorem vw_toOpOp (a0:Int) (a1:Int) (a2:Int) (a3:Int) (a4:Int) (a5:Int) (a6:Int):collapseH .std Ew_toOpOp Ow_toOpOp_0 (execFn Ew_toOpOp Tryz.f20 msw_toOpOp [.val true [.int .i64 a0,.int .i64 a1,.int .i64 a2,.int .i64 a3,.int .i64 a4,.int .i64 a5,.int .i64 a6]]) = some (true,.val true [.int .i64 a0,.int .i64 a1,.int .i64 a2,.int .i64 a3,.int .i64 a4,.int .i64 a5,.int .i64 a6],[]) := by kernel_rfl
theorem sw_toOpOp:Sound Tryz.prog 20 msw_toOpOp Fw_toOpOp := by
 refine fn_gen goodw_toOpOp (by kernel_rfl) .std (fn := Tryz.f20) (c := (Tryz.f20.body.getD .skip)) (o := Ow_toOpOp_0) (k := 0) (by kernel_rfl) (by kernel_rfl) (by kernel_rfl) (by kernel_rfl) (by decide) kw_toOpOp_0 ?_
 intro ys r outs h
 unfold Fw_toOpOp at h
 split at h
 ·exact (vw_toOpOp _ _ _ _ _ _ _).trans h
 ·cases h
noncomputable def Ew_toFroTx:Env where
 tt := mkTI Tryz.prog
 fn := fun f => match f with
  | 20 => some (msw_toOpOp,FSem.wk msw_toOpOp Fw_toOpOp)
  | 136 => some (msw_toIntS,FSem.wk msw_toIntS Fw_toIntS)
  | _ => none
 bxf := fun _ => none
 mv := []
 keep := fun _ => []
 keepB := fun _ => []
 keepX := fun _ => []
 keepXB := fun _ => []
theorem goodFw_toFroTx:∀ f ms F,Ew_toFroTx.fn f = some (ms,F) → Sound Tryz.prog f ms F := fun f ms F h => by
 unfold Ew_toFroTx at h
 dsimp only at h
 split at h
 ·exact gF sw_toOpOp h
 ·exact gF sw_toIntS h
 ·cases h
theorem goodw_toFroTx:Good Tryz.prog Ew_toFroTx := ⟨rfl,goodFw_toFroTx,fun f ms F h => by cases h⟩
noncomputable def Ow_toFroTx_0:Orc := fun _ _ => none
noncomputable def msw_toFroTx:List PM := [.rd]
noncomputable def lsw_toFroTx:List (Nat×Code) := loopsAll 0 (Tryz.f94.body.getD .skip)
theorem kw_toFroTx_0:OrcOk Ew_toFroTx Ow_toFroTx_0 lsw_toFroTx 0 := orcOk_none
noncomputable def g_Aw_toFroTx (a0:Int) (a1:Int) (a2:Int) (a3:Int) (a4:Int) (a5:Int) (a6:Int) (a7:Int) (a8:Bool) (a9:List Int) (a10:List Int):Bool := g_Aw_toIntS a9&&g_Aw_toIntS a10
noncomputable def Fw_toFroTx:FSem := fun ys => match ys with
 | [.val true [.int .i64 a0,.int .i64 a1,.int .i64 a2,.int .i64 a3,.int .i64 a4,.int .i64 a5,.int .i64 a6,.int .i64 a7,.bool a8,.sl .any 3 (.int .i64) a9,.sl .any 3 (.int .i64) a10]] => some ((g_Aw_toFroTx a0 a1 a2 a3 a4 a5 a6 a7 a8 a9 a10),.val true [.int .i64 a0,.int .i64 a1,.int .i64 a2,.int .i64 a3,.int .i64 a4,.int .i64 a5,.int .i64 a6,.int .i64 a7,.bool a8,.own .any true 3 (.int .i64) (g_Vw_toIntS_0 a9),.own .any true 3 (.int .i64) (g_Vw_toIntS_0 a10)],[])
 | _ => none
theorem vw_toFroTx (a0:Int) (a1:Int) (a2:Int) (a3:Int) (a4:Int) (a5:Int) (a6:Int) (a7:Int) (a8:Bool) (a9:List Int) (a10:List Int):collapseH .std Ew_toFroTx Ow_toFroTx_0 (execFn Ew_toFroTx Tryz.f94 msw_toFroTx [.val true [.int .i64 a0,.int .i64 a1,.int .i64 a2,.int .i64 a3,.int .i64 a4,.int .i64 a5,.int .i64 a6,.int .i64 a7,.bool a8,.sl .any 3 (.int .i64) a9,.sl .any 3 (.int .i64) a10]]) = some ((g_Aw_toFroTx a0 a1 a2 a3 a4 a5 a6 a7 a8 a9 a10),.val true [.int .i64 a0,.int .i64 a1,.int .i64 a2,.int .i64 a3,.int .i64 a4,.int .i64 a5,.int .i64 a6,.int .i64 a7,.bool a8,.own .any true 3 (.int .i64) (g_Vw_toIntS_0 a9),.own .any true 3 (.int .i64) (g_Vw_toIntS_0 a10)],[]) := by kernel_rfl
theorem sw_toFroTx:Sound Tryz.prog 94 msw_toFroTx Fw_toFroTx := by
 refine fn_gen goodw_toFroTx (by kernel_rfl) .std (fn := Tryz.f94) (c := (Tryz.f94.body.getD .skip)) (o := Ow_toFroTx_0) (k := 0) (by kernel_rfl) (by kernel_rfl) (by kernel_rfl) (by kernel_rfl) (by decide) kw_toFroTx_0 ?_
 intro ys r outs h
 unfold Fw_toFroTx at h
 split at h
 ·exact (vw_toFroTx _ _ _ _ _ _ _ _ _ _ _).trans h
 ·cases h
noncomputable def EZ78:Env where
 tt := mkTI Tryz.prog
 fn := fun f => match f with
  | 94 => some (msw_toFroTx,FSem.wk msw_toFroTx Fw_toFroTx)
  | _ => none
 bxf := fun _ => none
 mv := []
 keep := fun b => match b with
  | 0 => [(0,false),(3,false),(4,false)]
  | _ => []
 keepB := fun b => match b with
  | 0 => []
  | _ => []
 keepX := fun b => match b with
  | 0 => [(3,false)]
  | _ => []
 keepXB := fun b => match b with
  | 0 => []
  | _ => []
theorem goodFZ78:∀ f ms F,EZ78.fn f = some (ms,F) → Sound Tryz.prog f ms F := fun f ms F h => by
 unfold EZ78 at h
 dsimp only at h
 split at h
 ·exact gF sw_toFroTx h
 ·cases h
theorem goodZ78:Good Tryz.prog EZ78 := ⟨rfl,goodFZ78,fun f ms F h => by cases h⟩
noncomputable def OZ78_0:Orc := fun _ _ => none
noncomputable def msZ78:List PM := [.rd]
noncomputable def lsZ78:List (Nat×Code) := loopsAll 0 (Tryz.f35.body.getD .skip)
noncomputable def cZ78_0:Code := (loopOf 0 (Tryz.f35.body.getD .skip)).getD .skip
theorem lseqZ78:lsZ78 = [(0,cZ78_0)] := by kernel_rfl
theorem mZ78_0:∀ p,p ∈ lsZ78 → p.1 = 0 → p.2 = cZ78_0 := by
 intro p hp
 rw [lseqZ78] at hp
 simp only [List.mem_cons,List.not_mem_nil,or_false] at hp
 subst hp; simp
theorem kZ78_0:OrcOk EZ78 OZ78_0 lsZ78 0 := orcOk_none
noncomputable def hZ78_0 (y0:tL1) (y1:tL1) (y2:Int):List (Pl×LV) := [(.T 0,.t (.val false [.sl .any 129 (.pair (.int .i64) (.pair (.pair (.int .i64) (.pair (.int .i64) (.pair (.int .i64) (.pair (.int .i64) (.pair (.int .i64) (.pair (.int .i64) (.int .i64))))))) (.pair .bool (.pair (.sl 3 (.int .i64)) (.sl 3 (.int .i64)))))) y0])),(.T 3,.t (.val false [.row 3 0 0])),(.R 3 0,.r 0 (some ⟨false,.non,true,73,(.pair (.int .i64) (.pair (.pair (.int .i64) (.pair (.int .i64) (.pair (.int .i64) (.pair (.int .i64) (.pair (.int .i64) (.pair (.int .i64) (.int .i64))))))) (.pair .bool (.pair (.sl 3 (.int .i64)) (.sl 3 (.int .i64)))))),y1⟩)),(.T 4,.t (.val false [.int .i64 y2]))]
noncomputable def g_SZ78_0 (y0:tL1):(tL1×Int) → RT (tL1×Int) ((tL1))
 | (y1,y2) => .br (true) (.br (decide (y2 < (y0.length:Int))) (.br (decide (0 ≤ y2 ∧ y2 < (y0.length:Int))) (.br (g_Aw_toFroTx (at_ yT0 y0 (Int.toNat y2)).1 (at_ yT0 y0 (Int.toNat y2)).2.1.1 (at_ yT0 y0 (Int.toNat y2)).2.1.2.1 (at_ yT0 y0 (Int.toNat y2)).2.1.2.2.1 (at_ yT0 y0 (Int.toNat y2)).2.1.2.2.2.1 (at_ yT0 y0 (Int.toNat y2)).2.1.2.2.2.2.1 (at_ yT0 y0 (Int.toNat y2)).2.1.2.2.2.2.2.1 (at_ yT0 y0 (Int.toNat y2)).2.1.2.2.2.2.2.2 (at_ yT0 y0 (Int.toNat y2)).2.2.1 (at_ yT0 y0 (Int.toNat y2)).2.2.2.1 (at_ yT0 y0 (Int.toNat y2)).2.2.2.2) (.br (decide (0 ≤ y2 ∧ y2 < (y1.length:Int))) (.br (decide (Int.toNat y2 < List.length y1)) (.br (true) (.go ((List.set y1 (Int.toNat y2) ((at_ yT0 y0 (Int.toNat y2)).1,((at_ yT0 y0 (Int.toNat y2)).2.1.1,(at_ yT0 y0 (Int.toNat y2)).2.1.2.1,(at_ yT0 y0 (Int.toNat y2)).2.1.2.2.1,(at_ yT0 y0 (Int.toNat y2)).2.1.2.2.2.1,(at_ yT0 y0 (Int.toNat y2)).2.1.2.2.2.2.1,(at_ yT0 y0 (Int.toNat y2)).2.1.2.2.2.2.2.1,(at_ yT0 y0 (Int.toNat y2)).2.1.2.2.2.2.2.2),(at_ yT0 y0 (Int.toNat y2)).2.2.1,g_Vw_toIntS_0 (at_ yT0 y0 (Int.toNat y2)).2.2.2.1,g_Vw_toIntS_0 (at_ yT0 y0 (Int.toNat y2)).2.2.2.2),IntKind.i64.wrap (y2 + 1)))) .bad) .bad) .bad) .bad) .bad) (.out (y1))) .bad
noncomputable def g_LZ78_0 (y0:tL1) (x:tL1×Int):Option ((tL1)) := loopO (g_SZ78_0 y0) x
noncomputable def xZ78_0 (y0:tL1):((tL1)) → Ex×List (Pl×LV) := fun r => (.exit 0,[(.T 3,.t (.val false [.row 3 0 0])),(.R 3 0,.r 0 (some ⟨false,.non,true,73,(.pair (.int .i64) (.pair (.pair (.int .i64) (.pair (.int .i64) (.pair (.int .i64) (.pair (.int .i64) (.pair (.int .i64) (.pair (.int .i64) (.int .i64))))))) (.pair .bool (.pair (.sl 3 (.int .i64)) (.sl 3 (.int .i64)))))),r⟩))])
noncomputable def OZ78_1:Orc := fun b h => match b,h with
 | 0,[(.T 0,.t (.val false [.sl .any 129 (.pair (.int .i64) (.pair (.pair (.int .i64) (.pair (.int .i64) (.pair (.int .i64) (.pair (.int .i64) (.pair (.int .i64) (.pair (.int .i64) (.int .i64))))))) (.pair .bool (.pair (.sl 3 (.int .i64)) (.sl 3 (.int .i64)))))) y0])),(.T 3,.t (.val false [.row 3 0 0])),(.R 3 0,.r 0 (some ⟨false,.non,true,73,(.pair (.int .i64) (.pair (.pair (.int .i64) (.pair (.int .i64) (.pair (.int .i64) (.pair (.int .i64) (.pair (.int .i64) (.pair (.int .i64) (.int .i64))))))) (.pair .bool (.pair (.sl 3 (.int .i64)) (.sl 3 (.int .i64)))))),y1⟩)),(.T 4,.t (.val false [.int .i64 y2]))] => some (okO (g_LZ78_0 y0 (y1,y2)),(.leaf (.exit 0) [(.T 3,.t (.val false [.row 3 0 0])),(.R 3 0,.r 0 (some ⟨false,.non,true,73,(.pair (.int .i64) (.pair (.pair (.int .i64) (.pair (.int .i64) (.pair (.int .i64) (.pair (.int .i64) (.pair (.int .i64) (.pair (.int .i64) (.int .i64))))))) (.pair .bool (.pair (.sl 3 (.int .i64)) (.sl 3 (.int .i64)))))),(valO (g_LZ78_0 y0 (y1,y2)))⟩))]))
 | b,h => OZ78_0 b h
theorem bZ78_0 (y0:tL1) (y1:tL1) (y2:Int):Tr.bt EZ78 OZ78_0 (exec EZ78 0 cZ78_0 (St.of (hZ78_0 y0 y1 y2)) (leafRd EZ78 0)) = (g_SZ78_0 y0 (y1,y2)).bt (fun ((y1,y2):tL1×Int) => (hZ78_0 y0 y1 y2)) (xZ78_0 y0) := by kernel_rfl
theorem kZ78_1:OrcOk EZ78 OZ78_1 lsZ78 1 := orc_add kZ78_0 (fun n p hp h ex h' ho => by
 obtain ⟨b,c⟩ := p
 obtain ⟨xt,h1,h2⟩ := ho
 have h1:OZ78_1 b h = some (true,xt) := h1
 unfold OZ78_1 at h1
 split at h1
 ·injection h1 with h1
  injection h1 with e1 e2
  subst e2
  have hc:c = cZ78_0 := mZ78_0 _ hp rfl
  subst hc
  right
  rename_i y0 y1 y2
  have key := LT_step kZ78_0 hp (fun q hq => loopsAll_in _ _ _ _ hp hq) (fun ((y1,y2):tL1×Int) => (hZ78_0 y0 y1 y2)) (xZ78_0 y0) (g_SZ78_0 y0) (fun x => by first | exact bZ78_0 y0 x.1 x.2) n (x := (y1,y2)) (okO_some e1)
  have hx:∀ r,XT.sel (.leaf (.exit 0) [(.T 3,.t (.val false [.row 3 0 0])),(.R 3 0,.r 0 (some ⟨false,.non,true,73,(.pair (.int .i64) (.pair (.pair (.int .i64) (.pair (.int .i64) (.pair (.int .i64) (.pair (.int .i64) (.pair (.int .i64) (.pair (.int .i64) (.int .i64))))))) (.pair .bool (.pair (.sl 3 (.int .i64)) (.sl 3 (.int .i64)))))),r⟩))]) = xZ78_0 y0 r := fun r => by first | rfl | rcases r with r | r <;> rfl | rcases r with r | r | r <;> rfl | rcases r with r | r | r | r <;> rfl
  have h3 := (hx (valO (g_LZ78_0 y0 (y1,y2)))).symm.trans h2
  have e3 := congrArg Prod.fst h3
  have e4 := congrArg Prod.snd h3
  simp only at e3 e4
  rw [← e3,← e4]
  exact key
 ·exact .inl ⟨xt,h1,h2⟩)
noncomputable def g_AZ78 (a0:tL1):Bool := decide ((a0.length:Int) = (a0.length:Int) ∧ 0 ≤ (a0.length:Int) ∧ (a0.length:Int) ≤ 9223372036854775807 ∧ 120 * (a0.length:Int) ≤ 281474976710656)&&okO (g_LZ78_0 a0 (List.replicate (Int.toNat (a0.length:Int)) ((0:Int),((0:Int),(0:Int),(0:Int),(0:Int),(0:Int),(0:Int),(0:Int)),false,([]:List Int),([]:List Int)),(0:Int)))
noncomputable def g_VZ78_0 (a0:tL1):tL1 := valO (g_LZ78_0 a0 (List.replicate (Int.toNat (a0.length:Int)) ((0:Int),((0:Int),(0:Int),(0:Int),(0:Int),(0:Int),(0:Int),(0:Int)),false,([]:List Int),([]:List Int)),(0:Int)))
noncomputable def FZ78:FSem := fun ys => match ys with
 | [.val false [.sl .any 129 (.pair (.int .i64) (.pair (.pair (.int .i64) (.pair (.int .i64) (.pair (.int .i64) (.pair (.int .i64) (.pair (.int .i64) (.pair (.int .i64) (.int .i64))))))) (.pair .bool (.pair (.sl 3 (.int .i64)) (.sl 3 (.int .i64)))))) a0]] => some ((g_AZ78 a0),.val false [.own .any true 73 (.pair (.int .i64) (.pair (.pair (.int .i64) (.pair (.int .i64) (.pair (.int .i64) (.pair (.int .i64) (.pair (.int .i64) (.pair (.int .i64) (.int .i64))))))) (.pair .bool (.pair (.sl 3 (.int .i64)) (.sl 3 (.int .i64)))))) (g_VZ78_0 a0)],[])
 | _ => none
theorem vZ78 (a0:tL1):collapseH .std EZ78 OZ78_1 (execFn EZ78 Tryz.f35 msZ78 [.val false [.sl .any 129 (.pair (.int .i64) (.pair (.pair (.int .i64) (.pair (.int .i64) (.pair (.int .i64) (.pair (.int .i64) (.pair (.int .i64) (.pair (.int .i64) (.int .i64))))))) (.pair .bool (.pair (.sl 3 (.int .i64)) (.sl 3 (.int .i64)))))) a0]]) = some ((g_AZ78 a0),.val false [.own .any true 73 (.pair (.int .i64) (.pair (.pair (.int .i64) (.pair (.int .i64) (.pair (.int .i64) (.pair (.int .i64) (.pair (.int .i64) (.pair (.int .i64) (.int .i64))))))) (.pair .bool (.pair (.sl 3 (.int .i64)) (.sl 3 (.int .i64)))))) (g_VZ78_0 a0)],[]) := by kernel_rfl
theorem sZ78:Sound Tryz.prog 35 msZ78 FZ78 := by
 refine fn_gen goodZ78 (by kernel_rfl) .std (fn := Tryz.f35) (c := (Tryz.f35.body.getD .skip)) (o := OZ78_1) (k := 1) (by kernel_rfl) (by kernel_rfl) (by kernel_rfl) (by kernel_rfl) (by decide) kZ78_1 ?_
 intro ys r outs h
 unfold FZ78 at h
 split at h
 ·exact (vZ78 _).trans h
 ·cases h
noncomputable def EZ46:Env where
 tt := mkTI Tryz.prog
 fn := fun f => match f with
  | 136 => some (msw_toIntS,FSem.wk msw_toIntS Fw_toIntS)
  | _ => none
 bxf := fun _ => none
 mv := []
 keep := fun _ => []
 keepB := fun _ => []
 keepX := fun _ => []
 keepXB := fun _ => []
theorem goodFZ46:∀ f ms F,EZ46.fn f = some (ms,F) → Sound Tryz.prog f ms F := fun f ms F h => by
 unfold EZ46 at h
 dsimp only at h
 split at h
 ·exact gF sw_toIntS h
 ·cases h
theorem goodZ46:Good Tryz.prog EZ46 := ⟨rfl,goodFZ46,fun f ms F h => by cases h⟩
noncomputable def OZ46_0:Orc := fun _ _ => none
noncomputable def msZ46:List PM := [.rd]
noncomputable def lsZ46:List (Nat×Code) := loopsAll 0 (Tryz.f175.body.getD .skip)
theorem kZ46_0:OrcOk EZ46 OZ46_0 lsZ46 0 := orcOk_none
noncomputable def g_AZ46 (a0:ByteArray) (a1:Bool) (a2:List Int):Bool := g_Aw_toIntS a2
noncomputable def FZ46:FSem := fun ys => match ys with
 | [.val true [.str a0,.bool a1,.sl .any 3 (.int .i64) a2]] => some ((g_AZ46 a0 a1 a2),.val true [.str a0,.bool a1,.own .any true 3 (.int .i64) (g_Vw_toIntS_0 a2)],[])
 | _ => none
theorem vZ46 (a0:ByteArray) (a1:Bool) (a2:List Int):collapseH .std EZ46 OZ46_0 (execFn EZ46 Tryz.f175 msZ46 [.val true [.str a0,.bool a1,.sl .any 3 (.int .i64) a2]]) = some ((g_AZ46 a0 a1 a2),.val true [.str a0,.bool a1,.own .any true 3 (.int .i64) (g_Vw_toIntS_0 a2)],[]) := by kernel_rfl
theorem sZ46:Sound Tryz.prog 175 msZ46 FZ46 := by
 refine fn_gen goodZ46 (by kernel_rfl) .std (fn := Tryz.f175) (c := (Tryz.f175.body.getD .skip)) (o := OZ46_0) (k := 0) (by kernel_rfl) (by kernel_rfl) (by kernel_rfl) (by kernel_rfl) (by decide) kZ46_0 ?_
 intro ys r outs h
 unfold FZ46 at h
 split at h
 ·exact (vZ46 _ _ _).trans h
 ·cases h
noncomputable def EZ33:Env where
 tt := mkTI Tryz.prog
 fn := fun f => match f with
  | 175 => some (msZ46,FSem.wk msZ46 FZ46)
  | _ => none
 bxf := fun _ => none
 mv := []
 keep := fun b => match b with
  | 0 => [(0,false),(3,false),(4,false)]
  | _ => []
 keepB := fun b => match b with
  | 0 => []
  | _ => []
 keepX := fun b => match b with
  | 0 => [(3,false)]
  | _ => []
 keepXB := fun b => match b with
  | 0 => []
  | _ => []
theorem goodFZ33:∀ f ms F,EZ33.fn f = some (ms,F) → Sound Tryz.prog f ms F := fun f ms F h => by
 unfold EZ33 at h
 dsimp only at h
 split at h
 ·exact gF sZ46 h
 ·cases h
theorem goodZ33:Good Tryz.prog EZ33 := ⟨rfl,goodFZ33,fun f ms F h => by cases h⟩
noncomputable def OZ33_0:Orc := fun _ _ => none
noncomputable def msZ33:List PM := [.rd]
noncomputable def lsZ33:List (Nat×Code) := loopsAll 0 (Tryz.f159.body.getD .skip)
noncomputable def cZ33_0:Code := (loopOf 0 (Tryz.f159.body.getD .skip)).getD .skip
theorem lseqZ33:lsZ33 = [(0,cZ33_0)] := by kernel_rfl
theorem mZ33_0:∀ p,p ∈ lsZ33 → p.1 = 0 → p.2 = cZ33_0 := by
 intro p hp
 rw [lseqZ33] at hp
 simp only [List.mem_cons,List.not_mem_nil,or_false] at hp
 subst hp; simp
theorem kZ33_0:OrcOk EZ33 OZ33_0 lsZ33 0 := orcOk_none
noncomputable def hZ33_0 (y0:tL4) (y1:tL4) (y2:Int):List (Pl×LV) := [(.T 0,.t (.val false [.sl .any 196 (.pair .str (.pair .bool (.sl 3 (.int .i64)))) y0])),(.T 3,.t (.val false [.row 3 0 0])),(.R 3 0,.r 0 (some ⟨false,.non,true,155,(.pair .str (.pair .bool (.sl 3 (.int .i64)))),y1⟩)),(.T 4,.t (.val false [.int .i64 y2]))]
noncomputable def g_SZ33_0 (y0:tL4):(tL4×Int) → RT (tL4×Int) ((tL4))
 | (y1,y2) => .br (true) (.br (decide (y2 < (y0.length:Int))) (.br (decide (0 ≤ y2 ∧ y2 < (y0.length:Int))) (.br (g_AZ46 (at_ yT6 y0 (Int.toNat y2)).1 (at_ yT6 y0 (Int.toNat y2)).2.1 (at_ yT6 y0 (Int.toNat y2)).2.2) (.br (decide (0 ≤ y2 ∧ y2 < (y1.length:Int))) (.br (decide (Int.toNat y2 < List.length y1)) (.br (true) (.go ((List.set y1 (Int.toNat y2) ((at_ yT6 y0 (Int.toNat y2)).1,(at_ yT6 y0 (Int.toNat y2)).2.1,g_Vw_toIntS_0 (at_ yT6 y0 (Int.toNat y2)).2.2),IntKind.i64.wrap (y2 + 1)))) .bad) .bad) .bad) .bad) .bad) (.out (y1))) .bad
noncomputable def g_LZ33_0 (y0:tL4) (x:tL4×Int):Option ((tL4)) := loopO (g_SZ33_0 y0) x
noncomputable def xZ33_0 (y0:tL4):((tL4)) → Ex×List (Pl×LV) := fun r => (.exit 0,[(.T 3,.t (.val false [.row 3 0 0])),(.R 3 0,.r 0 (some ⟨false,.non,true,155,(.pair .str (.pair .bool (.sl 3 (.int .i64)))),r⟩))])
noncomputable def OZ33_1:Orc := fun b h => match b,h with
 | 0,[(.T 0,.t (.val false [.sl .any 196 (.pair .str (.pair .bool (.sl 3 (.int .i64)))) y0])),(.T 3,.t (.val false [.row 3 0 0])),(.R 3 0,.r 0 (some ⟨false,.non,true,155,(.pair .str (.pair .bool (.sl 3 (.int .i64)))),y1⟩)),(.T 4,.t (.val false [.int .i64 y2]))] => some (okO (g_LZ33_0 y0 (y1,y2)),(.leaf (.exit 0) [(.T 3,.t (.val false [.row 3 0 0])),(.R 3 0,.r 0 (some ⟨false,.non,true,155,(.pair .str (.pair .bool (.sl 3 (.int .i64)))),(valO (g_LZ33_0 y0 (y1,y2)))⟩))]))
 | b,h => OZ33_0 b h
theorem bZ33_0 (y0:tL4) (y1:tL4) (y2:Int):Tr.bt EZ33 OZ33_0 (exec EZ33 0 cZ33_0 (St.of (hZ33_0 y0 y1 y2)) (leafRd EZ33 0)) = (g_SZ33_0 y0 (y1,y2)).bt (fun ((y1,y2):tL4×Int) => (hZ33_0 y0 y1 y2)) (xZ33_0 y0) := by kernel_rfl
theorem kZ33_1:OrcOk EZ33 OZ33_1 lsZ33 1 := orc_add kZ33_0 (fun n p hp h ex h' ho => by
 obtain ⟨b,c⟩ := p
 obtain ⟨xt,h1,h2⟩ := ho
 have h1:OZ33_1 b h = some (true,xt) := h1
 unfold OZ33_1 at h1
 split at h1
 ·injection h1 with h1
  injection h1 with e1 e2
  subst e2
  have hc:c = cZ33_0 := mZ33_0 _ hp rfl
  subst hc
  right
  rename_i y0 y1 y2
  have key := LT_step kZ33_0 hp (fun q hq => loopsAll_in _ _ _ _ hp hq) (fun ((y1,y2):tL4×Int) => (hZ33_0 y0 y1 y2)) (xZ33_0 y0) (g_SZ33_0 y0) (fun x => by first | exact bZ33_0 y0 x.1 x.2) n (x := (y1,y2)) (okO_some e1)
  have hx:∀ r,XT.sel (.leaf (.exit 0) [(.T 3,.t (.val false [.row 3 0 0])),(.R 3 0,.r 0 (some ⟨false,.non,true,155,(.pair .str (.pair .bool (.sl 3 (.int .i64)))),r⟩))]) = xZ33_0 y0 r := fun r => by first | rfl | rcases r with r | r <;> rfl | rcases r with r | r | r <;> rfl | rcases r with r | r | r | r <;> rfl
  have h3 := (hx (valO (g_LZ33_0 y0 (y1,y2)))).symm.trans h2
  have e3 := congrArg Prod.fst h3
  have e4 := congrArg Prod.snd h3
  simp only at e3 e4
  rw [← e3,← e4]
  exact key
 ·exact .inl ⟨xt,h1,h2⟩)
noncomputable def g_AZ33 (a0:tL4):Bool := decide ((a0.length:Int) = (a0.length:Int) ∧ 0 ≤ (a0.length:Int) ∧ (a0.length:Int) ≤ 9223372036854775807 ∧ 48 * (a0.length:Int) ≤ 281474976710656)&&okO (g_LZ33_0 a0 (List.replicate (Int.toNat (a0.length:Int)) (lit [],false,[]),(0:Int)))
noncomputable def g_VZ33_0 (a0:tL4):tL4 := valO (g_LZ33_0 a0 (List.replicate (Int.toNat (a0.length:Int)) (lit [],false,[]),(0:Int)))
noncomputable def FZ33:FSem := fun ys => match ys with
 | [.val false [.sl .any 196 (.pair .str (.pair .bool (.sl 3 (.int .i64)))) a0]] => some ((g_AZ33 a0),.val false [.own .any true 155 (.pair .str (.pair .bool (.sl 3 (.int .i64)))) (g_VZ33_0 a0)],[])
 | _ => none
theorem vZ33 (a0:tL4):collapseH .std EZ33 OZ33_1 (execFn EZ33 Tryz.f159 msZ33 [.val false [.sl .any 196 (.pair .str (.pair .bool (.sl 3 (.int .i64)))) a0]]) = some ((g_AZ33 a0),.val false [.own .any true 155 (.pair .str (.pair .bool (.sl 3 (.int .i64)))) (g_VZ33_0 a0)],[]) := by kernel_rfl
theorem sZ33:Sound Tryz.prog 159 msZ33 FZ33 := by
 refine fn_gen goodZ33 (by kernel_rfl) .std (fn := Tryz.f159) (c := (Tryz.f159.body.getD .skip)) (o := OZ33_1) (k := 1) (by kernel_rfl) (by kernel_rfl) (by kernel_rfl) (by kernel_rfl) (by decide) kZ33_1 ?_
 intro ys r outs h
 unfold FZ33 at h
 split at h
 ·exact (vZ33 _).trans h
 ·cases h
noncomputable def EZ63:Env where
 tt := mkTI Tryz.prog
 fn := fun _ => none
 bxf := fun _ => none
 mv := []
 keep := fun b => match b with
  | 0 => [(0,false),(3,false),(4,false)]
  | _ => []
 keepB := fun b => match b with
  | 0 => []
  | _ => []
 keepX := fun b => match b with
  | 0 => [(3,false)]
  | _ => []
 keepXB := fun b => match b with
  | 0 => []
  | _ => []
theorem goodFZ63:∀ f ms F,EZ63.fn f = some (ms,F) → Sound Tryz.prog f ms F := fun f ms F h => by cases h
theorem goodZ63:Good Tryz.prog EZ63 := ⟨rfl,goodFZ63,fun f ms F h => by cases h⟩
noncomputable def OZ63_0:Orc := fun _ _ => none
noncomputable def msZ63:List PM := [.rd]
noncomputable def lsZ63:List (Nat×Code) := loopsAll 0 (Tryz.f158.body.getD .skip)
noncomputable def cZ63_0:Code := (loopOf 0 (Tryz.f158.body.getD .skip)).getD .skip
theorem lseqZ63:lsZ63 = [(0,cZ63_0)] := by kernel_rfl
theorem mZ63_0:∀ p,p ∈ lsZ63 → p.1 = 0 → p.2 = cZ63_0 := by
 intro p hp
 rw [lseqZ63] at hp
 simp only [List.mem_cons,List.not_mem_nil,or_false] at hp
 subst hp; simp
theorem kZ63_0:OrcOk EZ63 OZ63_0 lsZ63 0 := orcOk_none
noncomputable def hZ63_0 (y0:List ByteArray) (y1:List ByteArray) (y2:Int):List (Pl×LV) := [(.T 0,.t (.val false [.sl .any 9 .str y0])),(.T 3,.t (.val false [.row 3 0 0])),(.R 3 0,.r 0 (some ⟨false,.non,true,9,.str,y1⟩)),(.T 4,.t (.val false [.int .i64 y2]))]
noncomputable def g_SZ63_0 (y0:List ByteArray):((List ByteArray)×Int) → RT ((List ByteArray)×Int) (((List ByteArray)))
 | (y1,y2) => .br (true) (.br (decide (y2 < (y0.length:Int))) (.br (decide (0 ≤ y2 ∧ y2 < (y0.length:Int))) (.br (decide (0 ≤ y2 ∧ y2 < (y1.length:Int))) (.br (decide (Int.toNat y2 < List.length y1)) (.br (true) (.go ((List.set y1 (Int.toNat y2) (at_ Ty.str y0 (Int.toNat y2)),IntKind.i64.wrap (y2 + 1)))) .bad) .bad) .bad) .bad) (.out (y1))) .bad
noncomputable def g_LZ63_0 (y0:List ByteArray) (x:(List ByteArray)×Int):Option (((List ByteArray))) := loopO (g_SZ63_0 y0) x
noncomputable def xZ63_0 (y0:List ByteArray):(((List ByteArray))) → Ex×List (Pl×LV) := fun r => (.exit 0,[(.T 3,.t (.val false [.row 3 0 0])),(.R 3 0,.r 0 (some ⟨false,.non,true,9,.str,r⟩))])
noncomputable def OZ63_1:Orc := fun b h => match b,h with
 | 0,[(.T 0,.t (.val false [.sl .any 9 .str y0])),(.T 3,.t (.val false [.row 3 0 0])),(.R 3 0,.r 0 (some ⟨false,.non,true,9,.str,y1⟩)),(.T 4,.t (.val false [.int .i64 y2]))] => some (okO (g_LZ63_0 y0 (y1,y2)),(.leaf (.exit 0) [(.T 3,.t (.val false [.row 3 0 0])),(.R 3 0,.r 0 (some ⟨false,.non,true,9,.str,(valO (g_LZ63_0 y0 (y1,y2)))⟩))]))
 | b,h => OZ63_0 b h
theorem bZ63_0 (y0:List ByteArray) (y1:List ByteArray) (y2:Int):Tr.bt EZ63 OZ63_0 (exec EZ63 0 cZ63_0 (St.of (hZ63_0 y0 y1 y2)) (leafRd EZ63 0)) = (g_SZ63_0 y0 (y1,y2)).bt (fun ((y1,y2):(List ByteArray)×Int) => (hZ63_0 y0 y1 y2)) (xZ63_0 y0) := by kernel_rfl
theorem kZ63_1:OrcOk EZ63 OZ63_1 lsZ63 1 := orc_add kZ63_0 (fun n p hp h ex h' ho => by
 obtain ⟨b,c⟩ := p
 obtain ⟨xt,h1,h2⟩ := ho
 have h1:OZ63_1 b h = some (true,xt) := h1
 unfold OZ63_1 at h1
 split at h1
 ·injection h1 with h1
  injection h1 with e1 e2
  subst e2
  have hc:c = cZ63_0 := mZ63_0 _ hp rfl
  subst hc
  right
  rename_i y0 y1 y2
  have key := LT_step kZ63_0 hp (fun q hq => loopsAll_in _ _ _ _ hp hq) (fun ((y1,y2):(List ByteArray)×Int) => (hZ63_0 y0 y1 y2)) (xZ63_0 y0) (g_SZ63_0 y0) (fun x => by first | exact bZ63_0 y0 x.1 x.2) n (x := (y1,y2)) (okO_some e1)
  have hx:∀ r,XT.sel (.leaf (.exit 0) [(.T 3,.t (.val false [.row 3 0 0])),(.R 3 0,.r 0 (some ⟨false,.non,true,9,.str,r⟩))]) = xZ63_0 y0 r := fun r => by first | rfl | rcases r with r | r <;> rfl | rcases r with r | r | r <;> rfl | rcases r with r | r | r | r <;> rfl
  have h3 := (hx (valO (g_LZ63_0 y0 (y1,y2)))).symm.trans h2
  have e3 := congrArg Prod.fst h3
  have e4 := congrArg Prod.snd h3
  simp only at e3 e4
  rw [← e3,← e4]
  exact key
 ·exact .inl ⟨xt,h1,h2⟩)
noncomputable def g_AZ63 (a0:List ByteArray):Bool := decide ((a0.length:Int) = (a0.length:Int) ∧ 0 ≤ (a0.length:Int) ∧ (a0.length:Int) ≤ 9223372036854775807 ∧ 16 * (a0.length:Int) ≤ 281474976710656)&&okO (g_LZ63_0 a0 (List.replicate (Int.toNat (a0.length:Int)) (lit []),(0:Int)))
noncomputable def g_VZ63_0 (a0:List ByteArray):List ByteArray := valO (g_LZ63_0 a0 (List.replicate (Int.toNat (a0.length:Int)) (lit []),(0:Int)))
noncomputable def FZ63:FSem := fun ys => match ys with
 | [.val false [.sl .any 9 .str a0]] => some ((g_AZ63 a0),.val false [.own .any true 9 .str (g_VZ63_0 a0)],[])
 | _ => none
theorem vZ63 (a0:List ByteArray):collapseH .std EZ63 OZ63_1 (execFn EZ63 Tryz.f158 msZ63 [.val false [.sl .any 9 .str a0]]) = some ((g_AZ63 a0),.val false [.own .any true 9 .str (g_VZ63_0 a0)],[]) := by kernel_rfl
theorem sZ63:Sound Tryz.prog 158 msZ63 FZ63 := by
 refine fn_gen goodZ63 (by kernel_rfl) .std (fn := Tryz.f158) (c := (Tryz.f158.body.getD .skip)) (o := OZ63_1) (k := 1) (by kernel_rfl) (by kernel_rfl) (by kernel_rfl) (by kernel_rfl) (by decide) kZ63_1 ?_
 intro ys r outs h
 unfold FZ63 at h
 split at h
 ·exact (vZ63 _).trans h
 ·cases h
noncomputable def EZ64:Env where
 tt := mkTI Tryz.prog
 fn := fun f => match f with
  | 158 => some (msZ63,FSem.wk msZ63 FZ63)
  | 159 => some (msZ33,FSem.wk msZ33 FZ33)
  | _ => none
 bxf := fun _ => none
 mv := []
 keep := fun _ => []
 keepB := fun _ => []
 keepX := fun _ => []
 keepXB := fun _ => []
theorem goodFZ64:∀ f ms F,EZ64.fn f = some (ms,F) → Sound Tryz.prog f ms F := fun f ms F h => by
 unfold EZ64 at h
 dsimp only at h
 split at h
 ·exact gF sZ63 h
 ·exact gF sZ33 h
 ·cases h
theorem goodZ64:Good Tryz.prog EZ64 := ⟨rfl,goodFZ64,fun f ms F h => by cases h⟩
noncomputable def OZ64_0:Orc := fun _ _ => none
noncomputable def msZ64:List PM := [.rd]
noncomputable def lsZ64:List (Nat×Code) := loopsAll 0 (Tryz.f135.body.getD .skip)
theorem kZ64_0:OrcOk EZ64 OZ64_0 lsZ64 0 := orcOk_none
noncomputable def g_AZ64 (a0:Int) (a1:Int) (a2:List ByteArray) (a3:tL4):Bool := g_AZ63 a2&&g_AZ33 a3
noncomputable def FZ64:FSem := fun ys => match ys with
 | [.val true [.int .i64 a0,.int .i64 a1,.sl .any 9 .str a2,.sl .any 196 (.pair .str (.pair .bool (.sl 3 (.int .i64)))) a3]] => some ((g_AZ64 a0 a1 a2 a3),.val true [.int .i64 a0,.int .i64 a1,.own .any true 9 .str (g_VZ63_0 a2),.own .any true 155 (.pair .str (.pair .bool (.sl 3 (.int .i64)))) (g_VZ33_0 a3)],[])
 | _ => none
theorem vZ64 (a0:Int) (a1:Int) (a2:List ByteArray) (a3:tL4):collapseH .std EZ64 OZ64_0 (execFn EZ64 Tryz.f135 msZ64 [.val true [.int .i64 a0,.int .i64 a1,.sl .any 9 .str a2,.sl .any 196 (.pair .str (.pair .bool (.sl 3 (.int .i64)))) a3]]) = some ((g_AZ64 a0 a1 a2 a3),.val true [.int .i64 a0,.int .i64 a1,.own .any true 9 .str (g_VZ63_0 a2),.own .any true 155 (.pair .str (.pair .bool (.sl 3 (.int .i64)))) (g_VZ33_0 a3)],[]) := by kernel_rfl
theorem sZ64:Sound Tryz.prog 135 msZ64 FZ64 := by
 refine fn_gen goodZ64 (by kernel_rfl) .std (fn := Tryz.f135) (c := (Tryz.f135.body.getD .skip)) (o := OZ64_0) (k := 0) (by kernel_rfl) (by kernel_rfl) (by kernel_rfl) (by kernel_rfl) (by decide) kZ64_0 ?_
 intro ys r outs h
 unfold FZ64 at h
 split at h
 ·exact (vZ64 _ _ _ _).trans h
 ·cases h
noncomputable def EZ47:Env where
 tt := mkTI Tryz.prog
 fn := fun f => match f with
  | 135 => some (msZ64,FSem.wk msZ64 FZ64)
  | _ => none
 bxf := fun _ => none
 mv := []
 keep := fun b => match b with
  | 0 => [(0,false),(3,false),(4,false)]
  | _ => []
 keepB := fun b => match b with
  | 0 => []
  | _ => []
 keepX := fun b => match b with
  | 0 => [(3,false)]
  | _ => []
 keepXB := fun b => match b with
  | 0 => []
  | _ => []
theorem goodFZ47:∀ f ms F,EZ47.fn f = some (ms,F) → Sound Tryz.prog f ms F := fun f ms F h => by
 unfold EZ47 at h
 dsimp only at h
 split at h
 ·exact gF sZ64 h
 ·cases h
theorem goodZ47:Good Tryz.prog EZ47 := ⟨rfl,goodFZ47,fun f ms F h => by cases h⟩
noncomputable def OZ47_0:Orc := fun _ _ => none
noncomputable def msZ47:List PM := [.rd]
noncomputable def lsZ47:List (Nat×Code) := loopsAll 0 (Tryz.f93.body.getD .skip)
noncomputable def cZ47_0:Code := (loopOf 0 (Tryz.f93.body.getD .skip)).getD .skip
theorem lseqZ47:lsZ47 = [(0,cZ47_0)] := by kernel_rfl
theorem mZ47_0:∀ p,p ∈ lsZ47 → p.1 = 0 → p.2 = cZ47_0 := by
 intro p hp
 rw [lseqZ47] at hp
 simp only [List.mem_cons,List.not_mem_nil,or_false] at hp
 subst hp; simp
theorem kZ47_0:OrcOk EZ47 OZ47_0 lsZ47 0 := orcOk_none
noncomputable def hZ47_0 (y0:tL0) (y1:tL0) (y2:Int):List (Pl×LV) := [(.T 0,.t (.val false [.sl .any 169 (.pair (.int .i64) (.pair (.int .i64) (.pair (.sl 9 .str) (.sl 196 (.pair .str (.pair .bool (.sl 3 (.int .i64)))))))) y0])),(.T 3,.t (.val false [.row 3 0 0])),(.R 3 0,.r 0 (some ⟨false,.non,true,92,(.pair (.int .i64) (.pair (.int .i64) (.pair (.sl 9 .str) (.sl 155 (.pair .str (.pair .bool (.sl 3 (.int .i64)))))))),y1⟩)),(.T 4,.t (.val false [.int .i64 y2]))]
noncomputable def g_SZ47_0 (y0:tL0):(tL0×Int) → RT (tL0×Int) ((tL0))
 | (y1,y2) => .br (true) (.br (decide (y2 < (y0.length:Int))) (.br (decide (0 ≤ y2 ∧ y2 < (y0.length:Int))) (.br (g_AZ64 (at_ yT5 y0 (Int.toNat y2)).1 (at_ yT5 y0 (Int.toNat y2)).2.1 (at_ yT5 y0 (Int.toNat y2)).2.2.1 (at_ yT5 y0 (Int.toNat y2)).2.2.2) (.br (decide (0 ≤ y2 ∧ y2 < (y1.length:Int))) (.br (decide (Int.toNat y2 < List.length y1)) (.br (true) (.go ((List.set y1 (Int.toNat y2) ((at_ yT5 y0 (Int.toNat y2)).1,(at_ yT5 y0 (Int.toNat y2)).2.1,g_VZ63_0 (at_ yT5 y0 (Int.toNat y2)).2.2.1,g_VZ33_0 (at_ yT5 y0 (Int.toNat y2)).2.2.2),IntKind.i64.wrap (y2 + 1)))) .bad) .bad) .bad) .bad) .bad) (.out (y1))) .bad
noncomputable def g_LZ47_0 (y0:tL0) (x:tL0×Int):Option ((tL0)) := loopO (g_SZ47_0 y0) x
noncomputable def xZ47_0 (y0:tL0):((tL0)) → Ex×List (Pl×LV) := fun r => (.exit 0,[(.T 3,.t (.val false [.row 3 0 0])),(.R 3 0,.r 0 (some ⟨false,.non,true,92,(.pair (.int .i64) (.pair (.int .i64) (.pair (.sl 9 .str) (.sl 155 (.pair .str (.pair .bool (.sl 3 (.int .i64)))))))),r⟩))])
noncomputable def OZ47_1:Orc := fun b h => match b,h with
 | 0,[(.T 0,.t (.val false [.sl .any 169 (.pair (.int .i64) (.pair (.int .i64) (.pair (.sl 9 .str) (.sl 196 (.pair .str (.pair .bool (.sl 3 (.int .i64)))))))) y0])),(.T 3,.t (.val false [.row 3 0 0])),(.R 3 0,.r 0 (some ⟨false,.non,true,92,(.pair (.int .i64) (.pair (.int .i64) (.pair (.sl 9 .str) (.sl 155 (.pair .str (.pair .bool (.sl 3 (.int .i64)))))))),y1⟩)),(.T 4,.t (.val false [.int .i64 y2]))] => some (okO (g_LZ47_0 y0 (y1,y2)),(.leaf (.exit 0) [(.T 3,.t (.val false [.row 3 0 0])),(.R 3 0,.r 0 (some ⟨false,.non,true,92,(.pair (.int .i64) (.pair (.int .i64) (.pair (.sl 9 .str) (.sl 155 (.pair .str (.pair .bool (.sl 3 (.int .i64)))))))),(valO (g_LZ47_0 y0 (y1,y2)))⟩))]))
 | b,h => OZ47_0 b h
theorem bZ47_0 (y0:tL0) (y1:tL0) (y2:Int):Tr.bt EZ47 OZ47_0 (exec EZ47 0 cZ47_0 (St.of (hZ47_0 y0 y1 y2)) (leafRd EZ47 0)) = (g_SZ47_0 y0 (y1,y2)).bt (fun ((y1,y2):tL0×Int) => (hZ47_0 y0 y1 y2)) (xZ47_0 y0) := by kernel_rfl
theorem kZ47_1:OrcOk EZ47 OZ47_1 lsZ47 1 := orc_add kZ47_0 (fun n p hp h ex h' ho => by
 obtain ⟨b,c⟩ := p
 obtain ⟨xt,h1,h2⟩ := ho
 have h1:OZ47_1 b h = some (true,xt) := h1
 unfold OZ47_1 at h1
 split at h1
 ·injection h1 with h1
  injection h1 with e1 e2
  subst e2
  have hc:c = cZ47_0 := mZ47_0 _ hp rfl
  subst hc
  right
  rename_i y0 y1 y2
  have key := LT_step kZ47_0 hp (fun q hq => loopsAll_in _ _ _ _ hp hq) (fun ((y1,y2):tL0×Int) => (hZ47_0 y0 y1 y2)) (xZ47_0 y0) (g_SZ47_0 y0) (fun x => by first | exact bZ47_0 y0 x.1 x.2) n (x := (y1,y2)) (okO_some e1)
  have hx:∀ r,XT.sel (.leaf (.exit 0) [(.T 3,.t (.val false [.row 3 0 0])),(.R 3 0,.r 0 (some ⟨false,.non,true,92,(.pair (.int .i64) (.pair (.int .i64) (.pair (.sl 9 .str) (.sl 155 (.pair .str (.pair .bool (.sl 3 (.int .i64)))))))),r⟩))]) = xZ47_0 y0 r := fun r => by first | rfl | rcases r with r | r <;> rfl | rcases r with r | r | r <;> rfl | rcases r with r | r | r | r <;> rfl
  have h3 := (hx (valO (g_LZ47_0 y0 (y1,y2)))).symm.trans h2
  have e3 := congrArg Prod.fst h3
  have e4 := congrArg Prod.snd h3
  simp only at e3 e4
  rw [← e3,← e4]
  exact key
 ·exact .inl ⟨xt,h1,h2⟩)
noncomputable def g_AZ47 (a0:tL0):Bool := decide ((a0.length:Int) = (a0.length:Int) ∧ 0 ≤ (a0.length:Int) ∧ (a0.length:Int) ≤ 9223372036854775807 ∧ 64 * (a0.length:Int) ≤ 281474976710656)&&okO (g_LZ47_0 a0 (List.replicate (Int.toNat (a0.length:Int)) ((0:Int),(0:Int),[],[]),(0:Int)))
noncomputable def g_VZ47_0 (a0:tL0):tL0 := valO (g_LZ47_0 a0 (List.replicate (Int.toNat (a0.length:Int)) ((0:Int),(0:Int),[],[]),(0:Int)))
noncomputable def FZ47:FSem := fun ys => match ys with
 | [.val false [.sl .any 169 (.pair (.int .i64) (.pair (.int .i64) (.pair (.sl 9 .str) (.sl 196 (.pair .str (.pair .bool (.sl 3 (.int .i64)))))))) a0]] => some ((g_AZ47 a0),.val false [.own .any true 92 (.pair (.int .i64) (.pair (.int .i64) (.pair (.sl 9 .str) (.sl 155 (.pair .str (.pair .bool (.sl 3 (.int .i64)))))))) (g_VZ47_0 a0)],[])
 | _ => none
theorem vZ47 (a0:tL0):collapseH .std EZ47 OZ47_1 (execFn EZ47 Tryz.f93 msZ47 [.val false [.sl .any 169 (.pair (.int .i64) (.pair (.int .i64) (.pair (.sl 9 .str) (.sl 196 (.pair .str (.pair .bool (.sl 3 (.int .i64)))))))) a0]]) = some ((g_AZ47 a0),.val false [.own .any true 92 (.pair (.int .i64) (.pair (.int .i64) (.pair (.sl 9 .str) (.sl 155 (.pair .str (.pair .bool (.sl 3 (.int .i64)))))))) (g_VZ47_0 a0)],[]) := by kernel_rfl
theorem sZ47:Sound Tryz.prog 93 msZ47 FZ47 := by
 refine fn_gen goodZ47 (by kernel_rfl) .std (fn := Tryz.f93) (c := (Tryz.f93.body.getD .skip)) (o := OZ47_1) (k := 1) (by kernel_rfl) (by kernel_rfl) (by kernel_rfl) (by kernel_rfl) (by decide) kZ47_1 ?_
 intro ys r outs h
 unfold FZ47 at h
 split at h
 ·exact (vZ47 _).trans h
 ·cases h
noncomputable def EZ65:Env where
 tt := mkTI Tryz.prog
 fn := fun f => match f with
  | 93 => some (msZ47,FSem.wk msZ47 FZ47)
  | _ => none
 bxf := fun _ => none
 mv := []
 keep := fun _ => []
 keepB := fun _ => []
 keepX := fun _ => []
 keepXB := fun _ => []
theorem goodFZ65:∀ f ms F,EZ65.fn f = some (ms,F) → Sound Tryz.prog f ms F := fun f ms F h => by
 unfold EZ65 at h
 dsimp only at h
 split at h
 ·exact gF sZ47 h
 ·cases h
theorem goodZ65:Good Tryz.prog EZ65 := ⟨rfl,goodFZ65,fun f ms F h => by cases h⟩
noncomputable def OZ65_0:Orc := fun _ _ => none
noncomputable def msZ65:List PM := [.rd]
noncomputable def lsZ65:List (Nat×Code) := loopsAll 0 (Tryz.f34.body.getD .skip)
theorem kZ65_0:OrcOk EZ65 OZ65_0 lsZ65 0 := orcOk_none
noncomputable def g_AZ65 (a0:tL0) (a1:Int):Bool := g_AZ47 a0
noncomputable def FZ65:FSem := fun ys => match ys with
 | [.val true [.sl .any 169 (.pair (.int .i64) (.pair (.int .i64) (.pair (.sl 9 .str) (.sl 196 (.pair .str (.pair .bool (.sl 3 (.int .i64)))))))) a0,.int .i64 a1]] => some ((g_AZ65 a0 a1),.val true [.own .any true 92 (.pair (.int .i64) (.pair (.int .i64) (.pair (.sl 9 .str) (.sl 155 (.pair .str (.pair .bool (.sl 3 (.int .i64)))))))) (g_VZ47_0 a0),.int .i64 a1],[])
 | _ => none
theorem vZ65 (a0:tL0) (a1:Int):collapseH .std EZ65 OZ65_0 (execFn EZ65 Tryz.f34 msZ65 [.val true [.sl .any 169 (.pair (.int .i64) (.pair (.int .i64) (.pair (.sl 9 .str) (.sl 196 (.pair .str (.pair .bool (.sl 3 (.int .i64)))))))) a0,.int .i64 a1]]) = some ((g_AZ65 a0 a1),.val true [.own .any true 92 (.pair (.int .i64) (.pair (.int .i64) (.pair (.sl 9 .str) (.sl 155 (.pair .str (.pair .bool (.sl 3 (.int .i64)))))))) (g_VZ47_0 a0),.int .i64 a1],[]) := by kernel_rfl
theorem sZ65:Sound Tryz.prog 34 msZ65 FZ65 := by
 refine fn_gen goodZ65 (by kernel_rfl) .std (fn := Tryz.f34) (c := (Tryz.f34.body.getD .skip)) (o := OZ65_0) (k := 0) (by kernel_rfl) (by kernel_rfl) (by kernel_rfl) (by kernel_rfl) (by decide) kZ65_0 ?_
 intro ys r outs h
 unfold FZ65 at h
 split at h
 ·exact (vZ65 _ _).trans h
 ·cases h
noncomputable def EZ48:Env where
 tt := mkTI Tryz.prog
 fn := fun f => match f with
  | 34 => some (msZ65,FSem.wk msZ65 FZ65)
  | 35 => some (msZ78,FSem.wk msZ78 FZ78)
  | _ => none
 bxf := fun _ => none
 mv := []
 keep := fun _ => []
 keepB := fun _ => []
 keepX := fun _ => []
 keepXB := fun _ => []
theorem goodFZ48:∀ f ms F,EZ48.fn f = some (ms,F) → Sound Tryz.prog f ms F := fun f ms F h => by
 unfold EZ48 at h
 dsimp only at h
 split at h
 ·exact gF sZ65 h
 ·exact gF sZ78 h
 ·cases h
theorem goodZ48:Good Tryz.prog EZ48 := ⟨rfl,goodFZ48,fun f ms F h => by cases h⟩
noncomputable def OZ48_0:Orc := fun _ _ => none
noncomputable def msZ48:List PM := [.rd]
noncomputable def lsZ48:List (Nat×Code) := loopsAll 0 (Tryz.f9.body.getD .skip)
theorem kZ48_0:OrcOk EZ48 OZ48_0 lsZ48 0 := orcOk_none
noncomputable def g_AZ48 (a0:tL0) (a1:Int) (a2:tL1):Bool := g_AZ65 a0 a1&&g_AZ78 a2
noncomputable def FZ48:FSem := fun ys => match ys with
 | [.val true [.sl .any 169 (.pair (.int .i64) (.pair (.int .i64) (.pair (.sl 9 .str) (.sl 196 (.pair .str (.pair .bool (.sl 3 (.int .i64)))))))) a0,.int .i64 a1,.sl .any 129 (.pair (.int .i64) (.pair (.pair (.int .i64) (.pair (.int .i64) (.pair (.int .i64) (.pair (.int .i64) (.pair (.int .i64) (.pair (.int .i64) (.int .i64))))))) (.pair .bool (.pair (.sl 3 (.int .i64)) (.sl 3 (.int .i64)))))) a2]] => some ((g_AZ48 a0 a1 a2),.val true [.own .any true 92 (.pair (.int .i64) (.pair (.int .i64) (.pair (.sl 9 .str) (.sl 155 (.pair .str (.pair .bool (.sl 3 (.int .i64)))))))) (g_VZ47_0 a0),.int .i64 a1,.own .any true 73 (.pair (.int .i64) (.pair (.pair (.int .i64) (.pair (.int .i64) (.pair (.int .i64) (.pair (.int .i64) (.pair (.int .i64) (.pair (.int .i64) (.int .i64))))))) (.pair .bool (.pair (.sl 3 (.int .i64)) (.sl 3 (.int .i64)))))) (g_VZ78_0 a2)],[])
 | _ => none
theorem vZ48 (a0:tL0) (a1:Int) (a2:tL1):collapseH .std EZ48 OZ48_0 (execFn EZ48 Tryz.f9 msZ48 [.val true [.sl .any 169 (.pair (.int .i64) (.pair (.int .i64) (.pair (.sl 9 .str) (.sl 196 (.pair .str (.pair .bool (.sl 3 (.int .i64)))))))) a0,.int .i64 a1,.sl .any 129 (.pair (.int .i64) (.pair (.pair (.int .i64) (.pair (.int .i64) (.pair (.int .i64) (.pair (.int .i64) (.pair (.int .i64) (.pair (.int .i64) (.int .i64))))))) (.pair .bool (.pair (.sl 3 (.int .i64)) (.sl 3 (.int .i64)))))) a2]]) = some ((g_AZ48 a0 a1 a2),.val true [.own .any true 92 (.pair (.int .i64) (.pair (.int .i64) (.pair (.sl 9 .str) (.sl 155 (.pair .str (.pair .bool (.sl 3 (.int .i64)))))))) (g_VZ47_0 a0),.int .i64 a1,.own .any true 73 (.pair (.int .i64) (.pair (.pair (.int .i64) (.pair (.int .i64) (.pair (.int .i64) (.pair (.int .i64) (.pair (.int .i64) (.pair (.int .i64) (.int .i64))))))) (.pair .bool (.pair (.sl 3 (.int .i64)) (.sl 3 (.int .i64)))))) (g_VZ78_0 a2)],[]) := by kernel_rfl
theorem sZ48:Sound Tryz.prog 9 msZ48 FZ48 := by
 refine fn_gen goodZ48 (by kernel_rfl) .std (fn := Tryz.f9) (c := (Tryz.f9.body.getD .skip)) (o := OZ48_0) (k := 0) (by kernel_rfl) (by kernel_rfl) (by kernel_rfl) (by kernel_rfl) (by decide) kZ48_0 ?_
 intro ys r outs h
 unfold FZ48 at h
 split at h
 ·exact (vZ48 _ _ _).trans h
 ·cases h
noncomputable def EZ49:Env where
 tt := mkTI Tryz.prog
 fn := fun f => match f with
  | 34 => some (msZ65,FSem.wk msZ65 FZ65)
  | _ => none
 bxf := fun _ => none
 mv := []
 keep := fun b => match b with
  | 0 => [(0,false),(3,false),(4,false)]
  | _ => []
 keepB := fun b => match b with
  | 0 => []
  | _ => []
 keepX := fun b => match b with
  | 0 => [(3,false)]
  | _ => []
 keepXB := fun b => match b with
  | 0 => []
  | _ => []
theorem goodFZ49:∀ f ms F,EZ49.fn f = some (ms,F) → Sound Tryz.prog f ms F := fun f ms F h => by
 unfold EZ49 at h
 dsimp only at h
 split at h
 ·exact gF sZ65 h
 ·cases h
theorem goodZ49:Good Tryz.prog EZ49 := ⟨rfl,goodFZ49,fun f ms F h => by cases h⟩
noncomputable def OZ49_0:Orc := fun _ _ => none
noncomputable def msZ49:List PM := [.rd]
noncomputable def lsZ49:List (Nat×Code) := loopsAll 0 (Tryz.f68.body.getD .skip)
noncomputable def cZ49_0:Code := (loopOf 0 (Tryz.f68.body.getD .skip)).getD .skip
theorem lseqZ49:lsZ49 = [(0,cZ49_0)] := by kernel_rfl
theorem mZ49_0:∀ p,p ∈ lsZ49 → p.1 = 0 → p.2 = cZ49_0 := by
 intro p hp
 rw [lseqZ49] at hp
 simp only [List.mem_cons,List.not_mem_nil,or_false] at hp
 subst hp; simp
theorem kZ49_0:OrcOk EZ49 OZ49_0 lsZ49 0 := orcOk_none
noncomputable def hZ49_0 (y0:List (tL0×Int)) (y1:List (tL0×Int)) (y2:Int):List (Pl×LV) := [(.T 0,.t (.val false [.sl .any 24 (.pair (.sl 169 (.pair (.int .i64) (.pair (.int .i64) (.pair (.sl 9 .str) (.sl 196 (.pair .str (.pair .bool (.sl 3 (.int .i64))))))))) (.int .i64)) y0])),(.T 3,.t (.val false [.row 3 0 0])),(.R 3 0,.r 0 (some ⟨false,.non,true,33,(.pair (.sl 92 (.pair (.int .i64) (.pair (.int .i64) (.pair (.sl 9 .str) (.sl 155 (.pair .str (.pair .bool (.sl 3 (.int .i64))))))))) (.int .i64)),y1⟩)),(.T 4,.t (.val false [.int .i64 y2]))]
noncomputable def g_SZ49_0 (y0:List (tL0×Int)):((List (tL0×Int))×Int) → RT ((List (tL0×Int))×Int) (((List (tL0×Int))))
 | (y1,y2) => .br (true) (.br (decide (y2 < (y0.length:Int))) (.br (decide (0 ≤ y2 ∧ y2 < (y0.length:Int))) (.br (g_AZ65 (at_ yT7 y0 (Int.toNat y2)).1 (at_ yT7 y0 (Int.toNat y2)).2) (.br (decide (0 ≤ y2 ∧ y2 < (y1.length:Int))) (.br (decide (Int.toNat y2 < List.length y1)) (.br (true) (.go ((List.set y1 (Int.toNat y2) (g_VZ47_0 (at_ yT7 y0 (Int.toNat y2)).1,(at_ yT7 y0 (Int.toNat y2)).2),IntKind.i64.wrap (y2 + 1)))) .bad) .bad) .bad) .bad) .bad) (.out (y1))) .bad
noncomputable def g_LZ49_0 (y0:List (tL0×Int)) (x:(List (tL0×Int))×Int):Option (((List (tL0×Int)))) := loopO (g_SZ49_0 y0) x
noncomputable def xZ49_0 (y0:List (tL0×Int)):(((List (tL0×Int)))) → Ex×List (Pl×LV) := fun r => (.exit 0,[(.T 3,.t (.val false [.row 3 0 0])),(.R 3 0,.r 0 (some ⟨false,.non,true,33,(.pair (.sl 92 (.pair (.int .i64) (.pair (.int .i64) (.pair (.sl 9 .str) (.sl 155 (.pair .str (.pair .bool (.sl 3 (.int .i64))))))))) (.int .i64)),r⟩))])
noncomputable def OZ49_1:Orc := fun b h => match b,h with
 | 0,[(.T 0,.t (.val false [.sl .any 24 (.pair (.sl 169 (.pair (.int .i64) (.pair (.int .i64) (.pair (.sl 9 .str) (.sl 196 (.pair .str (.pair .bool (.sl 3 (.int .i64))))))))) (.int .i64)) y0])),(.T 3,.t (.val false [.row 3 0 0])),(.R 3 0,.r 0 (some ⟨false,.non,true,33,(.pair (.sl 92 (.pair (.int .i64) (.pair (.int .i64) (.pair (.sl 9 .str) (.sl 155 (.pair .str (.pair .bool (.sl 3 (.int .i64))))))))) (.int .i64)),y1⟩)),(.T 4,.t (.val false [.int .i64 y2]))] => some (okO (g_LZ49_0 y0 (y1,y2)),(.leaf (.exit 0) [(.T 3,.t (.val false [.row 3 0 0])),(.R 3 0,.r 0 (some ⟨false,.non,true,33,(.pair (.sl 92 (.pair (.int .i64) (.pair (.int .i64) (.pair (.sl 9 .str) (.sl 155 (.pair .str (.pair .bool (.sl 3 (.int .i64))))))))) (.int .i64)),(valO (g_LZ49_0 y0 (y1,y2)))⟩))]))
 | b,h => OZ49_0 b h
theorem bZ49_0 (y0:List (tL0×Int)) (y1:List (tL0×Int)) (y2:Int):Tr.bt EZ49 OZ49_0 (exec EZ49 0 cZ49_0 (St.of (hZ49_0 y0 y1 y2)) (leafRd EZ49 0)) = (g_SZ49_0 y0 (y1,y2)).bt (fun ((y1,y2):(List (tL0×Int))×Int) => (hZ49_0 y0 y1 y2)) (xZ49_0 y0) := by kernel_rfl
theorem kZ49_1:OrcOk EZ49 OZ49_1 lsZ49 1 := orc_add kZ49_0 (fun n p hp h ex h' ho => by
 obtain ⟨b,c⟩ := p
 obtain ⟨xt,h1,h2⟩ := ho
 have h1:OZ49_1 b h = some (true,xt) := h1
 unfold OZ49_1 at h1
 split at h1
 ·injection h1 with h1
  injection h1 with e1 e2
  subst e2
  have hc:c = cZ49_0 := mZ49_0 _ hp rfl
  subst hc
  right
  rename_i y0 y1 y2
  have key := LT_step kZ49_0 hp (fun q hq => loopsAll_in _ _ _ _ hp hq) (fun ((y1,y2):(List (tL0×Int))×Int) => (hZ49_0 y0 y1 y2)) (xZ49_0 y0) (g_SZ49_0 y0) (fun x => by first | exact bZ49_0 y0 x.1 x.2) n (x := (y1,y2)) (okO_some e1)
  have hx:∀ r,XT.sel (.leaf (.exit 0) [(.T 3,.t (.val false [.row 3 0 0])),(.R 3 0,.r 0 (some ⟨false,.non,true,33,(.pair (.sl 92 (.pair (.int .i64) (.pair (.int .i64) (.pair (.sl 9 .str) (.sl 155 (.pair .str (.pair .bool (.sl 3 (.int .i64))))))))) (.int .i64)),r⟩))]) = xZ49_0 y0 r := fun r => by first | rfl | rcases r with r | r <;> rfl | rcases r with r | r | r <;> rfl | rcases r with r | r | r | r <;> rfl
  have h3 := (hx (valO (g_LZ49_0 y0 (y1,y2)))).symm.trans h2
  have e3 := congrArg Prod.fst h3
  have e4 := congrArg Prod.snd h3
  simp only at e3 e4
  rw [← e3,← e4]
  exact key
 ·exact .inl ⟨xt,h1,h2⟩)
noncomputable def g_AZ49 (a0:List (tL0×Int)):Bool := decide ((a0.length:Int) = (a0.length:Int) ∧ 0 ≤ (a0.length:Int) ∧ (a0.length:Int) ≤ 9223372036854775807 ∧ 32 * (a0.length:Int) ≤ 281474976710656)&&okO (g_LZ49_0 a0 (List.replicate (Int.toNat (a0.length:Int)) ([],(0:Int)),(0:Int)))
noncomputable def g_VZ49_0 (a0:List (tL0×Int)):List (tL0×Int) := valO (g_LZ49_0 a0 (List.replicate (Int.toNat (a0.length:Int)) ([],(0:Int)),(0:Int)))
noncomputable def FZ49:FSem := fun ys => match ys with
 | [.val false [.sl .any 24 (.pair (.sl 169 (.pair (.int .i64) (.pair (.int .i64) (.pair (.sl 9 .str) (.sl 196 (.pair .str (.pair .bool (.sl 3 (.int .i64))))))))) (.int .i64)) a0]] => some ((g_AZ49 a0),.val false [.own .any true 33 (.pair (.sl 92 (.pair (.int .i64) (.pair (.int .i64) (.pair (.sl 9 .str) (.sl 155 (.pair .str (.pair .bool (.sl 3 (.int .i64))))))))) (.int .i64)) (g_VZ49_0 a0)],[])
 | _ => none
theorem vZ49 (a0:List (tL0×Int)):collapseH .std EZ49 OZ49_1 (execFn EZ49 Tryz.f68 msZ49 [.val false [.sl .any 24 (.pair (.sl 169 (.pair (.int .i64) (.pair (.int .i64) (.pair (.sl 9 .str) (.sl 196 (.pair .str (.pair .bool (.sl 3 (.int .i64))))))))) (.int .i64)) a0]]) = some ((g_AZ49 a0),.val false [.own .any true 33 (.pair (.sl 92 (.pair (.int .i64) (.pair (.int .i64) (.pair (.sl 9 .str) (.sl 155 (.pair .str (.pair .bool (.sl 3 (.int .i64))))))))) (.int .i64)) (g_VZ49_0 a0)],[]) := by kernel_rfl
theorem sZ49:Sound Tryz.prog 68 msZ49 FZ49 := by
 refine fn_gen goodZ49 (by kernel_rfl) .std (fn := Tryz.f68) (c := (Tryz.f68.body.getD .skip)) (o := OZ49_1) (k := 1) (by kernel_rfl) (by kernel_rfl) (by kernel_rfl) (by kernel_rfl) (by decide) kZ49_1 ?_
 intro ys r outs h
 unfold FZ49 at h
 split at h
 ·exact (vZ49 _).trans h
 ·cases h
noncomputable def EZ79:Env where
 tt := mkTI Tryz.prog
 fn := fun f => match f with
  | 20 => some (msw_toOpOp,FSem.wk msw_toOpOp Fw_toOpOp)
  | _ => none
 bxf := fun _ => none
 mv := []
 keep := fun _ => []
 keepB := fun _ => []
 keepX := fun _ => []
 keepXB := fun _ => []
theorem goodFZ79:∀ f ms F,EZ79.fn f = some (ms,F) → Sound Tryz.prog f ms F := fun f ms F h => by
 unfold EZ79 at h
 dsimp only at h
 split at h
 ·exact gF sw_toOpOp h
 ·cases h
theorem goodZ79:Good Tryz.prog EZ79 := ⟨rfl,goodFZ79,fun f ms F h => by cases h⟩
noncomputable def OZ79_0:Orc := fun _ _ => none
noncomputable def msZ79:List PM := [.own]
noncomputable def lsZ79:List (Nat×Code) := loopsAll 0 (Tryz.f119.body.getD .skip)
theorem kZ79_0:OrcOk EZ79 OZ79_0 lsZ79 0 := orcOk_none
noncomputable def FZ79:FSem := fun ys => match ys with
 | [.val true [.int .i64 a0,.int .i64 a1,.int .i64 a2,.int .i64 a3,.int .i64 a4,.int .i64 a5,.int .i64 a6,.int .i64 a7,.int .i64 a8,.int .i64 a9,.int .i64 a10]] => some (true,.val true [.int .i64 a0,.int .i64 a1,.int .i64 a2,.int .i64 a3,.int .i64 a4,.int .i64 a5,.int .i64 a6,.int .i64 a7,.int .i64 a8,.int .i64 a9,.int .i64 a10],[])
 | _ => none
theorem vZ79 (a0:Int) (a1:Int) (a2:Int) (a3:Int) (a4:Int) (a5:Int) (a6:Int) (a7:Int) (a8:Int) (a9:Int) (a10:Int):collapseH .std EZ79 OZ79_0 (execFn EZ79 Tryz.f119 msZ79 [.val true [.int .i64 a0,.int .i64 a1,.int .i64 a2,.int .i64 a3,.int .i64 a4,.int .i64 a5,.int .i64 a6,.int .i64 a7,.int .i64 a8,.int .i64 a9,.int .i64 a10]]) = some (true,.val true [.int .i64 a0,.int .i64 a1,.int .i64 a2,.int .i64 a3,.int .i64 a4,.int .i64 a5,.int .i64 a6,.int .i64 a7,.int .i64 a8,.int .i64 a9,.int .i64 a10],[]) := by kernel_rfl
theorem sZ79:Sound Tryz.prog 119 msZ79 FZ79 := by
 refine fn_gen goodZ79 (by kernel_rfl) .std (fn := Tryz.f119) (c := (Tryz.f119.body.getD .skip)) (o := OZ79_0) (k := 0) (by kernel_rfl) (by kernel_rfl) (by kernel_rfl) (by kernel_rfl) (by decide) kZ79_0 ?_
 intro ys r outs h
 unfold FZ79 at h
 split at h
 ·exact (vZ79 _ _ _ _ _ _ _ _ _ _ _).trans h
 ·cases h
noncomputable def EZ66:Env where
 tt := mkTI Tryz.prog
 fn := fun f => match f with
  | 119 => some (msZ79,FSem.wk msZ79 FZ79)
  | _ => none
 bxf := fun _ => none
 mv := []
 keep := fun b => match b with
  | 0 => [(0,false),(3,false),(4,false)]
  | _ => []
 keepB := fun b => match b with
  | 0 => []
  | _ => []
 keepX := fun b => match b with
  | 0 => [(3,false)]
  | _ => []
 keepXB := fun b => match b with
  | 0 => []
  | _ => []
theorem goodFZ66:∀ f ms F,EZ66.fn f = some (ms,F) → Sound Tryz.prog f ms F := fun f ms F h => by
 unfold EZ66 at h
 dsimp only at h
 split at h
 ·exact gF sZ79 h
 ·cases h
theorem goodZ66:Good Tryz.prog EZ66 := ⟨rfl,goodFZ66,fun f ms F h => by cases h⟩
noncomputable def OZ66_0:Orc := fun _ _ => none
noncomputable def msZ66:List PM := [.rd]
noncomputable def lsZ66:List (Nat×Code) := loopsAll 0 (Tryz.f69.body.getD .skip)
noncomputable def cZ66_0:Code := (loopOf 0 (Tryz.f69.body.getD .skip)).getD .skip
theorem lseqZ66:lsZ66 = [(0,cZ66_0)] := by kernel_rfl
theorem mZ66_0:∀ p,p ∈ lsZ66 → p.1 = 0 → p.2 = cZ66_0 := by
 intro p hp
 rw [lseqZ66] at hp
 simp only [List.mem_cons,List.not_mem_nil,or_false] at hp
 subst hp; simp
theorem kZ66_0:OrcOk EZ66 OZ66_0 lsZ66 0 := orcOk_none
noncomputable def hZ66_0 (y0:tL2) (y1:tL2) (y2:Int):List (Pl×LV) := [(.T 0,.t (.val false [.sl .any 151 (.pair (.int .i64) (.pair (.int .i64) (.pair (.int .i64) (.pair (.int .i64) (.pair (.int .i64) (.pair (.int .i64) (.pair (.int .i64) (.pair (.int .i64) (.pair (.int .i64) (.pair (.int .i64) (.int .i64))))))))))) y0])),(.T 3,.t (.val false [.row 3 0 0])),(.R 3 0,.r 0 (some ⟨false,.non,true,83,(.pair (.int .i64) (.pair (.int .i64) (.pair (.int .i64) (.pair (.int .i64) (.pair (.int .i64) (.pair (.int .i64) (.pair (.int .i64) (.pair (.int .i64) (.pair (.int .i64) (.pair (.int .i64) (.int .i64))))))))))),y1⟩)),(.T 4,.t (.val false [.int .i64 y2]))]
noncomputable def g_SZ66_0 (y0:tL2):(tL2×Int) → RT (tL2×Int) ((tL2))
 | (y1,y2) => .br (true) (.br (decide (y2 < (y0.length:Int))) (.br (decide (0 ≤ y2 ∧ y2 < (y0.length:Int))) (.br (true) (.br (decide (0 ≤ y2 ∧ y2 < (y1.length:Int))) (.br (decide (Int.toNat y2 < List.length y1)) (.br (true) (.go ((List.set y1 (Int.toNat y2) ((at_ yT1 y0 (Int.toNat y2)).1,(at_ yT1 y0 (Int.toNat y2)).2.1,(at_ yT1 y0 (Int.toNat y2)).2.2.1,(at_ yT1 y0 (Int.toNat y2)).2.2.2.1,(at_ yT1 y0 (Int.toNat y2)).2.2.2.2.1,(at_ yT1 y0 (Int.toNat y2)).2.2.2.2.2.1,(at_ yT1 y0 (Int.toNat y2)).2.2.2.2.2.2.1,(at_ yT1 y0 (Int.toNat y2)).2.2.2.2.2.2.2.1,(at_ yT1 y0 (Int.toNat y2)).2.2.2.2.2.2.2.2.1,(at_ yT1 y0 (Int.toNat y2)).2.2.2.2.2.2.2.2.2.1,(at_ yT1 y0 (Int.toNat y2)).2.2.2.2.2.2.2.2.2.2),IntKind.i64.wrap (y2 + 1)))) .bad) .bad) .bad) .bad) .bad) (.out (y1))) .bad
noncomputable def g_LZ66_0 (y0:tL2) (x:tL2×Int):Option ((tL2)) := loopO (g_SZ66_0 y0) x
noncomputable def xZ66_0 (y0:tL2):((tL2)) → Ex×List (Pl×LV) := fun r => (.exit 0,[(.T 3,.t (.val false [.row 3 0 0])),(.R 3 0,.r 0 (some ⟨false,.non,true,83,(.pair (.int .i64) (.pair (.int .i64) (.pair (.int .i64) (.pair (.int .i64) (.pair (.int .i64) (.pair (.int .i64) (.pair (.int .i64) (.pair (.int .i64) (.pair (.int .i64) (.pair (.int .i64) (.int .i64))))))))))),r⟩))])
noncomputable def OZ66_1:Orc := fun b h => match b,h with
 | 0,[(.T 0,.t (.val false [.sl .any 151 (.pair (.int .i64) (.pair (.int .i64) (.pair (.int .i64) (.pair (.int .i64) (.pair (.int .i64) (.pair (.int .i64) (.pair (.int .i64) (.pair (.int .i64) (.pair (.int .i64) (.pair (.int .i64) (.int .i64))))))))))) y0])),(.T 3,.t (.val false [.row 3 0 0])),(.R 3 0,.r 0 (some ⟨false,.non,true,83,(.pair (.int .i64) (.pair (.int .i64) (.pair (.int .i64) (.pair (.int .i64) (.pair (.int .i64) (.pair (.int .i64) (.pair (.int .i64) (.pair (.int .i64) (.pair (.int .i64) (.pair (.int .i64) (.int .i64))))))))))),y1⟩)),(.T 4,.t (.val false [.int .i64 y2]))] => some (okO (g_LZ66_0 y0 (y1,y2)),(.leaf (.exit 0) [(.T 3,.t (.val false [.row 3 0 0])),(.R 3 0,.r 0 (some ⟨false,.non,true,83,(.pair (.int .i64) (.pair (.int .i64) (.pair (.int .i64) (.pair (.int .i64) (.pair (.int .i64) (.pair (.int .i64) (.pair (.int .i64) (.pair (.int .i64) (.pair (.int .i64) (.pair (.int .i64) (.int .i64))))))))))),(valO (g_LZ66_0 y0 (y1,y2)))⟩))]))
 | b,h => OZ66_0 b h
theorem bZ66_0 (y0:tL2) (y1:tL2) (y2:Int):Tr.bt EZ66 OZ66_0 (exec EZ66 0 cZ66_0 (St.of (hZ66_0 y0 y1 y2)) (leafRd EZ66 0)) = (g_SZ66_0 y0 (y1,y2)).bt (fun ((y1,y2):tL2×Int) => (hZ66_0 y0 y1 y2)) (xZ66_0 y0) := by kernel_rfl
theorem kZ66_1:OrcOk EZ66 OZ66_1 lsZ66 1 := orc_add kZ66_0 (fun n p hp h ex h' ho => by
 obtain ⟨b,c⟩ := p
 obtain ⟨xt,h1,h2⟩ := ho
 have h1:OZ66_1 b h = some (true,xt) := h1
 unfold OZ66_1 at h1
 split at h1
 ·injection h1 with h1
  injection h1 with e1 e2
  subst e2
  have hc:c = cZ66_0 := mZ66_0 _ hp rfl
  subst hc
  right
  rename_i y0 y1 y2
  have key := LT_step kZ66_0 hp (fun q hq => loopsAll_in _ _ _ _ hp hq) (fun ((y1,y2):tL2×Int) => (hZ66_0 y0 y1 y2)) (xZ66_0 y0) (g_SZ66_0 y0) (fun x => by first | exact bZ66_0 y0 x.1 x.2) n (x := (y1,y2)) (okO_some e1)
  have hx:∀ r,XT.sel (.leaf (.exit 0) [(.T 3,.t (.val false [.row 3 0 0])),(.R 3 0,.r 0 (some ⟨false,.non,true,83,(.pair (.int .i64) (.pair (.int .i64) (.pair (.int .i64) (.pair (.int .i64) (.pair (.int .i64) (.pair (.int .i64) (.pair (.int .i64) (.pair (.int .i64) (.pair (.int .i64) (.pair (.int .i64) (.int .i64))))))))))),r⟩))]) = xZ66_0 y0 r := fun r => by first | rfl | rcases r with r | r <;> rfl | rcases r with r | r | r <;> rfl | rcases r with r | r | r | r <;> rfl
  have h3 := (hx (valO (g_LZ66_0 y0 (y1,y2)))).symm.trans h2
  have e3 := congrArg Prod.fst h3
  have e4 := congrArg Prod.snd h3
  simp only at e3 e4
  rw [← e3,← e4]
  exact key
 ·exact .inl ⟨xt,h1,h2⟩)
noncomputable def g_AZ66 (a0:tL2):Bool := decide ((a0.length:Int) = (a0.length:Int) ∧ 0 ≤ (a0.length:Int) ∧ (a0.length:Int) ≤ 9223372036854775807 ∧ 88 * (a0.length:Int) ≤ 281474976710656)&&okO (g_LZ66_0 a0 (List.replicate (Int.toNat (a0.length:Int)) ((0:Int),(0:Int),(0:Int),(0:Int),(0:Int),(0:Int),(0:Int),(0:Int),(0:Int),(0:Int),(0:Int)),(0:Int)))
noncomputable def g_VZ66_0 (a0:tL2):tL2 := valO (g_LZ66_0 a0 (List.replicate (Int.toNat (a0.length:Int)) ((0:Int),(0:Int),(0:Int),(0:Int),(0:Int),(0:Int),(0:Int),(0:Int),(0:Int),(0:Int),(0:Int)),(0:Int)))
noncomputable def FZ66:FSem := fun ys => match ys with
 | [.val false [.sl .any 151 (.pair (.int .i64) (.pair (.int .i64) (.pair (.int .i64) (.pair (.int .i64) (.pair (.int .i64) (.pair (.int .i64) (.pair (.int .i64) (.pair (.int .i64) (.pair (.int .i64) (.pair (.int .i64) (.int .i64))))))))))) a0]] => some ((g_AZ66 a0),.val false [.own .any true 83 (.pair (.int .i64) (.pair (.int .i64) (.pair (.int .i64) (.pair (.int .i64) (.pair (.int .i64) (.pair (.int .i64) (.pair (.int .i64) (.pair (.int .i64) (.pair (.int .i64) (.pair (.int .i64) (.int .i64))))))))))) (g_VZ66_0 a0)],[])
 | _ => none
theorem vZ66 (a0:tL2):collapseH .std EZ66 OZ66_1 (execFn EZ66 Tryz.f69 msZ66 [.val false [.sl .any 151 (.pair (.int .i64) (.pair (.int .i64) (.pair (.int .i64) (.pair (.int .i64) (.pair (.int .i64) (.pair (.int .i64) (.pair (.int .i64) (.pair (.int .i64) (.pair (.int .i64) (.pair (.int .i64) (.int .i64))))))))))) a0]]) = some ((g_AZ66 a0),.val false [.own .any true 83 (.pair (.int .i64) (.pair (.int .i64) (.pair (.int .i64) (.pair (.int .i64) (.pair (.int .i64) (.pair (.int .i64) (.pair (.int .i64) (.pair (.int .i64) (.pair (.int .i64) (.pair (.int .i64) (.int .i64))))))))))) (g_VZ66_0 a0)],[]) := by kernel_rfl
theorem sZ66:Sound Tryz.prog 69 msZ66 FZ66 := by
 refine fn_gen goodZ66 (by kernel_rfl) .std (fn := Tryz.f69) (c := (Tryz.f69.body.getD .skip)) (o := OZ66_1) (k := 1) (by kernel_rfl) (by kernel_rfl) (by kernel_rfl) (by kernel_rfl) (by decide) kZ66_1 ?_
 intro ys r outs h
 unfold FZ66 at h
 split at h
 ·exact (vZ66 _).trans h
 ·cases h
noncomputable def Ew_toOpOpS:Env where
 tt := mkTI Tryz.prog
 fn := fun f => match f with
  | 20 => some (msw_toOpOp,FSem.wk msw_toOpOp Fw_toOpOp)
  | _ => none
 bxf := fun _ => none
 mv := []
 keep := fun b => match b with
  | 0 => [(0,false),(3,false),(4,false)]
  | _ => []
 keepB := fun b => match b with
  | 0 => []
  | _ => []
 keepX := fun b => match b with
  | 0 => [(3,false)]
  | _ => []
 keepXB := fun b => match b with
  | 0 => []
  | _ => []
theorem goodFw_toOpOpS:∀ f ms F,Ew_toOpOpS.fn f = some (ms,F) → Sound Tryz.prog f ms F := fun f ms F h => by
 unfold Ew_toOpOpS at h
 dsimp only at h
 split at h
 ·exact gF sw_toOpOp h
 ·cases h
theorem goodw_toOpOpS:Good Tryz.prog Ew_toOpOpS := ⟨rfl,goodFw_toOpOpS,fun f ms F h => by cases h⟩
noncomputable def Ow_toOpOpS_0:Orc := fun _ _ => none
noncomputable def msw_toOpOpS:List PM := [.rd]
noncomputable def lsw_toOpOpS:List (Nat×Code) := loopsAll 0 (Tryz.f70.body.getD .skip)
noncomputable def cw_toOpOpS_0:Code := (loopOf 0 (Tryz.f70.body.getD .skip)).getD .skip
theorem lseqw_toOpOpS:lsw_toOpOpS = [(0,cw_toOpOpS_0)] := by kernel_rfl
theorem mw_toOpOpS_0:∀ p,p ∈ lsw_toOpOpS → p.1 = 0 → p.2 = cw_toOpOpS_0 := by
 intro p hp
 rw [lseqw_toOpOpS] at hp
 simp only [List.mem_cons,List.not_mem_nil,or_false] at hp
 subst hp; simp
theorem kw_toOpOpS_0:OrcOk Ew_toOpOpS Ow_toOpOpS_0 lsw_toOpOpS 0 := orcOk_none
noncomputable def hw_toOpOpS_0 (y0:tL3) (y1:tL3) (y2:Int):List (Pl×LV) := [(.T 0,.t (.val false [.sl .any 46 (.pair (.int .i64) (.pair (.int .i64) (.pair (.int .i64) (.pair (.int .i64) (.pair (.int .i64) (.pair (.int .i64) (.int .i64))))))) y0])),(.T 3,.t (.val false [.row 3 0 0])),(.R 3 0,.r 0 (some ⟨false,.non,true,49,(.pair (.int .i64) (.pair (.int .i64) (.pair (.int .i64) (.pair (.int .i64) (.pair (.int .i64) (.pair (.int .i64) (.int .i64))))))),y1⟩)),(.T 4,.t (.val false [.int .i64 y2]))]
noncomputable def g_Sw_toOpOpS_0 (y0:tL3):(tL3×Int) → RT (tL3×Int) ((tL3))
 | (y1,y2) => .br (true) (.br (decide (y2 < (y0.length:Int))) (.br (decide (0 ≤ y2 ∧ y2 < (y0.length:Int))) (.br (true) (.br (decide (0 ≤ y2 ∧ y2 < (y1.length:Int))) (.br (decide (Int.toNat y2 < List.length y1)) (.br (true) (.go ((List.set y1 (Int.toNat y2) ((at_ yT2 y0 (Int.toNat y2)).1,(at_ yT2 y0 (Int.toNat y2)).2.1,(at_ yT2 y0 (Int.toNat y2)).2.2.1,(at_ yT2 y0 (Int.toNat y2)).2.2.2.1,(at_ yT2 y0 (Int.toNat y2)).2.2.2.2.1,(at_ yT2 y0 (Int.toNat y2)).2.2.2.2.2.1,(at_ yT2 y0 (Int.toNat y2)).2.2.2.2.2.2),IntKind.i64.wrap (y2 + 1)))) .bad) .bad) .bad) .bad) .bad) (.out (y1))) .bad
noncomputable def g_Lw_toOpOpS_0 (y0:tL3) (x:tL3×Int):Option ((tL3)) := loopO (g_Sw_toOpOpS_0 y0) x
noncomputable def xw_toOpOpS_0 (y0:tL3):((tL3)) → Ex×List (Pl×LV) := fun r => (.exit 0,[(.T 3,.t (.val false [.row 3 0 0])),(.R 3 0,.r 0 (some ⟨false,.non,true,49,(.pair (.int .i64) (.pair (.int .i64) (.pair (.int .i64) (.pair (.int .i64) (.pair (.int .i64) (.pair (.int .i64) (.int .i64))))))),r⟩))])
noncomputable def Ow_toOpOpS_1:Orc := fun b h => match b,h with
 | 0,[(.T 0,.t (.val false [.sl .any 46 (.pair (.int .i64) (.pair (.int .i64) (.pair (.int .i64) (.pair (.int .i64) (.pair (.int .i64) (.pair (.int .i64) (.int .i64))))))) y0])),(.T 3,.t (.val false [.row 3 0 0])),(.R 3 0,.r 0 (some ⟨false,.non,true,49,(.pair (.int .i64) (.pair (.int .i64) (.pair (.int .i64) (.pair (.int .i64) (.pair (.int .i64) (.pair (.int .i64) (.int .i64))))))),y1⟩)),(.T 4,.t (.val false [.int .i64 y2]))] => some (okO (g_Lw_toOpOpS_0 y0 (y1,y2)),(.leaf (.exit 0) [(.T 3,.t (.val false [.row 3 0 0])),(.R 3 0,.r 0 (some ⟨false,.non,true,49,(.pair (.int .i64) (.pair (.int .i64) (.pair (.int .i64) (.pair (.int .i64) (.pair (.int .i64) (.pair (.int .i64) (.int .i64))))))),(valO (g_Lw_toOpOpS_0 y0 (y1,y2)))⟩))]))
 | b,h => Ow_toOpOpS_0 b h
theorem bw_toOpOpS_0 (y0:tL3) (y1:tL3) (y2:Int):Tr.bt Ew_toOpOpS Ow_toOpOpS_0 (exec Ew_toOpOpS 0 cw_toOpOpS_0 (St.of (hw_toOpOpS_0 y0 y1 y2)) (leafRd Ew_toOpOpS 0)) = (g_Sw_toOpOpS_0 y0 (y1,y2)).bt (fun ((y1,y2):tL3×Int) => (hw_toOpOpS_0 y0 y1 y2)) (xw_toOpOpS_0 y0) := by kernel_rfl
theorem kw_toOpOpS_1:OrcOk Ew_toOpOpS Ow_toOpOpS_1 lsw_toOpOpS 1 := orc_add kw_toOpOpS_0 (fun n p hp h ex h' ho => by
 obtain ⟨b,c⟩ := p
 obtain ⟨xt,h1,h2⟩ := ho
 have h1:Ow_toOpOpS_1 b h = some (true,xt) := h1
 unfold Ow_toOpOpS_1 at h1
 split at h1
 ·injection h1 with h1
  injection h1 with e1 e2
  subst e2
  have hc:c = cw_toOpOpS_0 := mw_toOpOpS_0 _ hp rfl
  subst hc
  right
  rename_i y0 y1 y2
  have key := LT_step kw_toOpOpS_0 hp (fun q hq => loopsAll_in _ _ _ _ hp hq) (fun ((y1,y2):tL3×Int) => (hw_toOpOpS_0 y0 y1 y2)) (xw_toOpOpS_0 y0) (g_Sw_toOpOpS_0 y0) (fun x => by first | exact bw_toOpOpS_0 y0 x.1 x.2) n (x := (y1,y2)) (okO_some e1)
  have hx:∀ r,XT.sel (.leaf (.exit 0) [(.T 3,.t (.val false [.row 3 0 0])),(.R 3 0,.r 0 (some ⟨false,.non,true,49,(.pair (.int .i64) (.pair (.int .i64) (.pair (.int .i64) (.pair (.int .i64) (.pair (.int .i64) (.pair (.int .i64) (.int .i64))))))),r⟩))]) = xw_toOpOpS_0 y0 r := fun r => by first | rfl | rcases r with r | r <;> rfl | rcases r with r | r | r <;> rfl | rcases r with r | r | r | r <;> rfl
  have h3 := (hx (valO (g_Lw_toOpOpS_0 y0 (y1,y2)))).symm.trans h2
  have e3 := congrArg Prod.fst h3
  have e4 := congrArg Prod.snd h3
  simp only at e3 e4
  rw [← e3,← e4]
  exact key
 ·exact .inl ⟨xt,h1,h2⟩)
noncomputable def g_Aw_toOpOpS (a0:tL3):Bool := decide ((a0.length:Int) = (a0.length:Int) ∧ 0 ≤ (a0.length:Int) ∧ (a0.length:Int) ≤ 9223372036854775807 ∧ 56 * (a0.length:Int) ≤ 281474976710656)&&okO (g_Lw_toOpOpS_0 a0 (List.replicate (Int.toNat (a0.length:Int)) ((0:Int),(0:Int),(0:Int),(0:Int),(0:Int),(0:Int),(0:Int)),(0:Int)))
noncomputable def g_Vw_toOpOpS_0 (a0:tL3):tL3 := valO (g_Lw_toOpOpS_0 a0 (List.replicate (Int.toNat (a0.length:Int)) ((0:Int),(0:Int),(0:Int),(0:Int),(0:Int),(0:Int),(0:Int)),(0:Int)))
noncomputable def Fw_toOpOpS:FSem := fun ys => match ys with
 | [.val false [.sl .any 46 (.pair (.int .i64) (.pair (.int .i64) (.pair (.int .i64) (.pair (.int .i64) (.pair (.int .i64) (.pair (.int .i64) (.int .i64))))))) a0]] => some ((g_Aw_toOpOpS a0),.val false [.own .any true 49 (.pair (.int .i64) (.pair (.int .i64) (.pair (.int .i64) (.pair (.int .i64) (.pair (.int .i64) (.pair (.int .i64) (.int .i64))))))) (g_Vw_toOpOpS_0 a0)],[])
 | _ => none
theorem vw_toOpOpS (a0:tL3):collapseH .std Ew_toOpOpS Ow_toOpOpS_1 (execFn Ew_toOpOpS Tryz.f70 msw_toOpOpS [.val false [.sl .any 46 (.pair (.int .i64) (.pair (.int .i64) (.pair (.int .i64) (.pair (.int .i64) (.pair (.int .i64) (.pair (.int .i64) (.int .i64))))))) a0]]) = some ((g_Aw_toOpOpS a0),.val false [.own .any true 49 (.pair (.int .i64) (.pair (.int .i64) (.pair (.int .i64) (.pair (.int .i64) (.pair (.int .i64) (.pair (.int .i64) (.int .i64))))))) (g_Vw_toOpOpS_0 a0)],[]) := by kernel_rfl
theorem sw_toOpOpS:Sound Tryz.prog 70 msw_toOpOpS Fw_toOpOpS := by
 refine fn_gen goodw_toOpOpS (by kernel_rfl) .std (fn := Tryz.f70) (c := (Tryz.f70.body.getD .skip)) (o := Ow_toOpOpS_1) (k := 1) (by kernel_rfl) (by kernel_rfl) (by kernel_rfl) (by kernel_rfl) (by decide) kw_toOpOpS_1 ?_
 intro ys r outs h
 unfold Fw_toOpOpS at h
 split at h
 ·exact (vw_toOpOpS _).trans h
 ·cases h
noncomputable def EZ50:Env where
 tt := mkTI Tryz.prog
 fn := fun f => match f with
  | 9 => some (msZ48,FSem.wk msZ48 FZ48)
  | 68 => some (msZ49,FSem.wk msZ49 FZ49)
  | 69 => some (msZ66,FSem.wk msZ66 FZ66)
  | 70 => some (msw_toOpOpS,FSem.wk msw_toOpOpS Fw_toOpOpS)
  | 71 => some (msZ62,FSem.wk msZ62 FZ62)
  | _ => none
 bxf := fun _ => none
 mv := []
 keep := fun _ => []
 keepB := fun _ => []
 keepX := fun _ => []
 keepXB := fun _ => []
theorem goodFZ50:∀ f ms F,EZ50.fn f = some (ms,F) → Sound Tryz.prog f ms F := fun f ms F h => by
 unfold EZ50 at h
 dsimp only at h
 split at h
 ·exact gF sZ48 h
 ·exact gF sZ49 h
 ·exact gF sZ66 h
 ·exact gF sw_toOpOpS h
 ·exact gF sZ62 h
 ·cases h
theorem goodZ50:Good Tryz.prog EZ50 := ⟨rfl,goodFZ50,fun f ms F h => by cases h⟩
noncomputable def OZ50_0:Orc := fun _ _ => none
noncomputable def msZ50:List PM := [.rd]
noncomputable def lsZ50:List (Nat×Code) := loopsAll 0 (Tryz.f24.body.getD .skip)
theorem kZ50_0:OrcOk EZ50 OZ50_0 lsZ50 0 := orcOk_none
noncomputable def g_AZ50 (a0:tL0) (a1:Int) (a2:tL1) (a3:List (tL0×Int)) (a4:tL2) (a5:tL3) (a6:List (Int×Bool)):Bool := g_AZ48 a0 a1 a2&&(g_AZ49 a3&&(g_AZ66 a4&&(g_Aw_toOpOpS a5&&g_AZ62 a6)))
noncomputable def FZ50:FSem := fun ys => match ys with
 | [.val true [.sl .any 169 (.pair (.int .i64) (.pair (.int .i64) (.pair (.sl 9 .str) (.sl 196 (.pair .str (.pair .bool (.sl 3 (.int .i64)))))))) a0,.int .i64 a1,.sl .any 129 (.pair (.int .i64) (.pair (.pair (.int .i64) (.pair (.int .i64) (.pair (.int .i64) (.pair (.int .i64) (.pair (.int .i64) (.pair (.int .i64) (.int .i64))))))) (.pair .bool (.pair (.sl 3 (.int .i64)) (.sl 3 (.int .i64)))))) a2,.sl .any 24 (.pair (.sl 169 (.pair (.int .i64) (.pair (.int .i64) (.pair (.sl 9 .str) (.sl 196 (.pair .str (.pair .bool (.sl 3 (.int .i64))))))))) (.int .i64)) a3,.sl .any 151 (.pair (.int .i64) (.pair (.int .i64) (.pair (.int .i64) (.pair (.int .i64) (.pair (.int .i64) (.pair (.int .i64) (.pair (.int .i64) (.pair (.int .i64) (.pair (.int .i64) (.pair (.int .i64) (.int .i64))))))))))) a4,.sl .any 46 (.pair (.int .i64) (.pair (.int .i64) (.pair (.int .i64) (.pair (.int .i64) (.pair (.int .i64) (.pair (.int .i64) (.int .i64))))))) a5,.sl .any 153 (.pair (.int .i64) .bool) a6]] => some ((g_AZ50 a0 a1 a2 a3 a4 a5 a6),.val true [.own .any true 92 (.pair (.int .i64) (.pair (.int .i64) (.pair (.sl 9 .str) (.sl 155 (.pair .str (.pair .bool (.sl 3 (.int .i64)))))))) (g_VZ47_0 a0),.int .i64 a1,.own .any true 73 (.pair (.int .i64) (.pair (.pair (.int .i64) (.pair (.int .i64) (.pair (.int .i64) (.pair (.int .i64) (.pair (.int .i64) (.pair (.int .i64) (.int .i64))))))) (.pair .bool (.pair (.sl 3 (.int .i64)) (.sl 3 (.int .i64)))))) (g_VZ78_0 a2),.own .any true 33 (.pair (.sl 92 (.pair (.int .i64) (.pair (.int .i64) (.pair (.sl 9 .str) (.sl 155 (.pair .str (.pair .bool (.sl 3 (.int .i64))))))))) (.int .i64)) (g_VZ49_0 a3),.own .any true 83 (.pair (.int .i64) (.pair (.int .i64) (.pair (.int .i64) (.pair (.int .i64) (.pair (.int .i64) (.pair (.int .i64) (.pair (.int .i64) (.pair (.int .i64) (.pair (.int .i64) (.pair (.int .i64) (.int .i64))))))))))) (g_VZ66_0 a4),.own .any true 49 (.pair (.int .i64) (.pair (.int .i64) (.pair (.int .i64) (.pair (.int .i64) (.pair (.int .i64) (.pair (.int .i64) (.int .i64))))))) (g_Vw_toOpOpS_0 a5),.own .any true 110 (.pair (.int .i64) .bool) (g_VZ62_0 a6)],[])
 | _ => none
theorem vZ50 (a0:tL0) (a1:Int) (a2:tL1) (a3:List (tL0×Int)) (a4:tL2) (a5:tL3) (a6:List (Int×Bool)):collapseH .std EZ50 OZ50_0 (execFn EZ50 Tryz.f24 msZ50 [.val true [.sl .any 169 (.pair (.int .i64) (.pair (.int .i64) (.pair (.sl 9 .str) (.sl 196 (.pair .str (.pair .bool (.sl 3 (.int .i64)))))))) a0,.int .i64 a1,.sl .any 129 (.pair (.int .i64) (.pair (.pair (.int .i64) (.pair (.int .i64) (.pair (.int .i64) (.pair (.int .i64) (.pair (.int .i64) (.pair (.int .i64) (.int .i64))))))) (.pair .bool (.pair (.sl 3 (.int .i64)) (.sl 3 (.int .i64)))))) a2,.sl .any 24 (.pair (.sl 169 (.pair (.int .i64) (.pair (.int .i64) (.pair (.sl 9 .str) (.sl 196 (.pair .str (.pair .bool (.sl 3 (.int .i64))))))))) (.int .i64)) a3,.sl .any 151 (.pair (.int .i64) (.pair (.int .i64) (.pair (.int .i64) (.pair (.int .i64) (.pair (.int .i64) (.pair (.int .i64) (.pair (.int .i64) (.pair (.int .i64) (.pair (.int .i64) (.pair (.int .i64) (.int .i64))))))))))) a4,.sl .any 46 (.pair (.int .i64) (.pair (.int .i64) (.pair (.int .i64) (.pair (.int .i64) (.pair (.int .i64) (.pair (.int .i64) (.int .i64))))))) a5,.sl .any 153 (.pair (.int .i64) .bool) a6]]) = some ((g_AZ50 a0 a1 a2 a3 a4 a5 a6),.val true [.own .any true 92 (.pair (.int .i64) (.pair (.int .i64) (.pair (.sl 9 .str) (.sl 155 (.pair .str (.pair .bool (.sl 3 (.int .i64)))))))) (g_VZ47_0 a0),.int .i64 a1,.own .any true 73 (.pair (.int .i64) (.pair (.pair (.int .i64) (.pair (.int .i64) (.pair (.int .i64) (.pair (.int .i64) (.pair (.int .i64) (.pair (.int .i64) (.int .i64))))))) (.pair .bool (.pair (.sl 3 (.int .i64)) (.sl 3 (.int .i64)))))) (g_VZ78_0 a2),.own .any true 33 (.pair (.sl 92 (.pair (.int .i64) (.pair (.int .i64) (.pair (.sl 9 .str) (.sl 155 (.pair .str (.pair .bool (.sl 3 (.int .i64))))))))) (.int .i64)) (g_VZ49_0 a3),.own .any true 83 (.pair (.int .i64) (.pair (.int .i64) (.pair (.int .i64) (.pair (.int .i64) (.pair (.int .i64) (.pair (.int .i64) (.pair (.int .i64) (.pair (.int .i64) (.pair (.int .i64) (.pair (.int .i64) (.int .i64))))))))))) (g_VZ66_0 a4),.own .any true 49 (.pair (.int .i64) (.pair (.int .i64) (.pair (.int .i64) (.pair (.int .i64) (.pair (.int .i64) (.pair (.int .i64) (.int .i64))))))) (g_Vw_toOpOpS_0 a5),.own .any true 110 (.pair (.int .i64) .bool) (g_VZ62_0 a6)],[]) := by kernel_rfl
theorem sZ50:Sound Tryz.prog 24 msZ50 FZ50 := by
 refine fn_gen goodZ50 (by kernel_rfl) .std (fn := Tryz.f24) (c := (Tryz.f24.body.getD .skip)) (o := OZ50_0) (k := 0) (by kernel_rfl) (by kernel_rfl) (by kernel_rfl) (by kernel_rfl) (by decide) kZ50_0 ?_
 intro ys r outs h
 unfold FZ50 at h
 split at h
 ·exact (vZ50 _ _ _ _ _ _ _).trans h
 ·cases h
noncomputable def Ew_FnExactWldOk:Env where
 tt := mkTI Tryz.prog
 fn := fun f => match f with
  | 22 => some (msZ45,FSem.wk msZ45 FZ45)
  | 23 => some (mss_WldOk,FSem.wk mss_WldOk Fs_WldOk)
  | 24 => some (msZ50,FSem.wk msZ50 FZ50)
  | 25 => some (msi_WldOk,FSem.wk msi_WldOk Fi_WldOk)
  | 26 => some (msZ40,FSem.wk msZ40 FZ40)
  | _ => none
 bxf := fun _ => none
 mv := []
 keep := fun _ => []
 keepB := fun _ => []
 keepX := fun _ => []
 keepXB := fun _ => []
theorem goodFw_FnExactWldOk:∀ f ms F,Ew_FnExactWldOk.fn f = some (ms,F) → Sound Tryz.prog f ms F := fun f ms F h => by
 unfold Ew_FnExactWldOk at h
 dsimp only at h
 split at h
 ·exact gF sZ45 h
 ·exact gF ss_WldOk h
 ·exact gF sZ50 h
 ·exact gF si_WldOk h
 ·exact gF sZ40 h
 ·cases h
theorem goodw_FnExactWldOk:Good Tryz.prog Ew_FnExactWldOk := ⟨rfl,goodFw_FnExactWldOk,fun f ms F h => by cases h⟩
noncomputable def Ow_FnExactWldOk_0:Orc := fun _ _ => none
noncomputable def msw_FnExactWldOk:List PM := [.rd]
noncomputable def lsw_FnExactWldOk:List (Nat×Code) := loopsAll 0 (Tryz.f6.body.getD .skip)
theorem kw_FnExactWldOk_0:OrcOk Ew_FnExactWldOk Ow_FnExactWldOk_0 lsw_FnExactWldOk 0 := orcOk_none
noncomputable def g_Aw_FnExactWldOk (a0:tL0) (a1:Int) (a2:tL1) (a3:List (tL0×Int)) (a4:tL2) (a5:tL3) (a6:List (Int×Bool)):Bool := g_AZ45 a0 a1 a2 a3 a4 a5 a6 (1048576:Int)&&(decide (g_VZ45_0 a0 a1 a2 a3 a4 a5 a6 (1048576:Int) < (0:Int)) || g_AZ50 a0 a1 a2 a3 a4 a5 a6&&(g_As_WldOk (g_VZ47_0 a0) a1 (g_VZ78_0 a2) (g_VZ49_0 a3) (g_VZ66_0 a4) (g_Vw_toOpOpS_0 a5) (g_VZ62_0 a6)&&(g_AZ50 a0 a1 a2 a3 a4 a5 a6&&(g_Ai_WldOk (g_VZ47_0 a0) a1 (g_VZ78_0 a2) (g_VZ49_0 a3) (g_VZ66_0 a4) (g_Vw_toOpOpS_0 a5) (g_VZ62_0 a6)&&(!g_Vi_WldOk_0 (g_VZ47_0 a0) a1 (g_VZ78_0 a2) (g_VZ49_0 a3) (g_VZ66_0 a4) (g_Vw_toOpOpS_0 a5) (g_VZ62_0 a6) == g_Vs_WldOk_0 (g_VZ47_0 a0) a1 (g_VZ78_0 a2) (g_VZ49_0 a3) (g_VZ66_0 a4) (g_Vw_toOpOpS_0 a5) (g_VZ62_0 a6) || g_AZ50 a0 a1 a2 a3 a4 a5 a6&&g_AZ40 (g_VZ47_0 a0) a1 (g_VZ78_0 a2) (g_VZ49_0 a3) (g_VZ66_0 a4) (g_Vw_toOpOpS_0 a5) (g_VZ62_0 a6) (g_VZ47_0 a0) a1 (g_VZ78_0 a2) (g_VZ49_0 a3) (g_VZ66_0 a4) (g_Vw_toOpOpS_0 a5) (g_VZ62_0 a6))))))
noncomputable def g_Vw_FnExactWldOk_0 (a0:tL0) (a1:Int) (a2:tL1) (a3:List (tL0×Int)) (a4:tL2) (a5:tL3) (a6:List (Int×Bool)):Bool := bif decide (g_VZ45_0 a0 a1 a2 a3 a4 a5 a6 (1048576:Int) < (0:Int)) then true else bif !g_Vi_WldOk_0 (g_VZ47_0 a0) a1 (g_VZ78_0 a2) (g_VZ49_0 a3) (g_VZ66_0 a4) (g_Vw_toOpOpS_0 a5) (g_VZ62_0 a6) == g_Vs_WldOk_0 (g_VZ47_0 a0) a1 (g_VZ78_0 a2) (g_VZ49_0 a3) (g_VZ66_0 a4) (g_Vw_toOpOpS_0 a5) (g_VZ62_0 a6) then false else bif !g_VZ40_0 (g_VZ47_0 a0) a1 (g_VZ78_0 a2) (g_VZ49_0 a3) (g_VZ66_0 a4) (g_Vw_toOpOpS_0 a5) (g_VZ62_0 a6) (g_VZ47_0 a0) a1 (g_VZ78_0 a2) (g_VZ49_0 a3) (g_VZ66_0 a4) (g_Vw_toOpOpS_0 a5) (g_VZ62_0 a6) then false else true
noncomputable def Fw_FnExactWldOk:FSem := fun ys => match ys with
 | [.val true [.sl .any 169 (.pair (.int .i64) (.pair (.int .i64) (.pair (.sl 9 .str) (.sl 196 (.pair .str (.pair .bool (.sl 3 (.int .i64)))))))) a0,.int .i64 a1,.sl .any 129 (.pair (.int .i64) (.pair (.pair (.int .i64) (.pair (.int .i64) (.pair (.int .i64) (.pair (.int .i64) (.pair (.int .i64) (.pair (.int .i64) (.int .i64))))))) (.pair .bool (.pair (.sl 3 (.int .i64)) (.sl 3 (.int .i64)))))) a2,.sl .any 24 (.pair (.sl 169 (.pair (.int .i64) (.pair (.int .i64) (.pair (.sl 9 .str) (.sl 196 (.pair .str (.pair .bool (.sl 3 (.int .i64))))))))) (.int .i64)) a3,.sl .any 151 (.pair (.int .i64) (.pair (.int .i64) (.pair (.int .i64) (.pair (.int .i64) (.pair (.int .i64) (.pair (.int .i64) (.pair (.int .i64) (.pair (.int .i64) (.pair (.int .i64) (.pair (.int .i64) (.int .i64))))))))))) a4,.sl .any 46 (.pair (.int .i64) (.pair (.int .i64) (.pair (.int .i64) (.pair (.int .i64) (.pair (.int .i64) (.pair (.int .i64) (.int .i64))))))) a5,.sl .any 153 (.pair (.int .i64) .bool) a6]] => some ((g_Aw_FnExactWldOk a0 a1 a2 a3 a4 a5 a6),.val false [.bool (g_Vw_FnExactWldOk_0 a0 a1 a2 a3 a4 a5 a6)],[])
 | _ => none
theorem vw_FnExactWldOk (a0:tL0) (a1:Int) (a2:tL1) (a3:List (tL0×Int)) (a4:tL2) (a5:tL3) (a6:List (Int×Bool)):collapseH .std Ew_FnExactWldOk Ow_FnExactWldOk_0 (execFn Ew_FnExactWldOk Tryz.f6 msw_FnExactWldOk [.val true [.sl .any 169 (.pair (.int .i64) (.pair (.int .i64) (.pair (.sl 9 .str) (.sl 196 (.pair .str (.pair .bool (.sl 3 (.int .i64)))))))) a0,.int .i64 a1,.sl .any 129 (.pair (.int .i64) (.pair (.pair (.int .i64) (.pair (.int .i64) (.pair (.int .i64) (.pair (.int .i64) (.pair (.int .i64) (.pair (.int .i64) (.int .i64))))))) (.pair .bool (.pair (.sl 3 (.int .i64)) (.sl 3 (.int .i64)))))) a2,.sl .any 24 (.pair (.sl 169 (.pair (.int .i64) (.pair (.int .i64) (.pair (.sl 9 .str) (.sl 196 (.pair .str (.pair .bool (.sl 3 (.int .i64))))))))) (.int .i64)) a3,.sl .any 151 (.pair (.int .i64) (.pair (.int .i64) (.pair (.int .i64) (.pair (.int .i64) (.pair (.int .i64) (.pair (.int .i64) (.pair (.int .i64) (.pair (.int .i64) (.pair (.int .i64) (.pair (.int .i64) (.int .i64))))))))))) a4,.sl .any 46 (.pair (.int .i64) (.pair (.int .i64) (.pair (.int .i64) (.pair (.int .i64) (.pair (.int .i64) (.pair (.int .i64) (.int .i64))))))) a5,.sl .any 153 (.pair (.int .i64) .bool) a6]]) = some ((g_Aw_FnExactWldOk a0 a1 a2 a3 a4 a5 a6),.val false [.bool (g_Vw_FnExactWldOk_0 a0 a1 a2 a3 a4 a5 a6)],[]) := by kernel_rfl
theorem sw_FnExactWldOk:Sound Tryz.prog 6 msw_FnExactWldOk Fw_FnExactWldOk := by
 refine fn_gen goodw_FnExactWldOk (by kernel_rfl) .std (fn := Tryz.f6) (c := (Tryz.f6.body.getD .skip)) (o := Ow_FnExactWldOk_0) (k := 0) (by kernel_rfl) (by kernel_rfl) (by kernel_rfl) (by kernel_rfl) (by decide) kw_FnExactWldOk_0 ?_
 intro ys r outs h
 unfold Fw_FnExactWldOk at h
 split at h
 ·exact (vw_FnExactWldOk _ _ _ _ _ _ _).trans h
 ·cases h
end Go.Proofs.YtedhpmhlmdcpbaaGreatDoor.E
