/- What the functions that are reached do, by the engine: for the proof (laws.FnExactWldNew): part 1. No conditions. -/
import Derived.Test.YtedhpmhlmdcpbaaEc
import Derived.Test.YtedhpmhlmdcpbaaProg
set_option linter.all false
namespace Go.Proofs.Ytedhpmhlmdcpbaa.E
open Go
set_option maxRecDepth 100000
set_option maxHeartbeats 0
noncomputable def Ei_WldNew:Env where
 tt := mkTI Try.prog
 fn := fun _ => none
 bxf := fun _ => none
 mv := []
 keep := fun _ => []
 keepB := fun _ => []
 keepX := fun _ => []
 keepXB := fun _ => []
theorem goodFi_WldNew:∀ f ms F,Ei_WldNew.fn f = some (ms,F) → Sound Try.prog f ms F := fun f ms F h => by cases h
theorem goodBi_WldNew:∀ f ms F,Ei_WldNew.bxf f = some (ms,F) → SoundB Try.prog f ms F := fun f ms F h => by cases h
theorem goodi_WldNew:Good Try.prog Ei_WldNew := ⟨rfl,goodFi_WldNew,goodBi_WldNew⟩
noncomputable def Oi_WldNew_0:Orc := fun _ _ => none
noncomputable def msi_WldNew:List PM := []
noncomputable def lsi_WldNew:List (Nat×Code) := loopsAll 0 (Try.f5.body.getD .skip)
theorem ki_WldNew_0:OrcOk Ei_WldNew Oi_WldNew_0 lsi_WldNew 0 := orcOk_none
noncomputable def g_Vi_WldNew_0:List (Int×(Int×((List ByteArray)×(List (ByteArray×(Bool×(List Int))))))) := []
noncomputable def g_Vi_WldNew_1:List (Int×((Int×(Int×(Int×(Int×(Int×(Int×Int))))))×(Bool×((List Int)×(List Int))))) := []
noncomputable def g_Vi_WldNew_2:List ((List (Int×(Int×((List ByteArray)×(List (ByteArray×(Bool×(List Int))))))))×Int) := [([],(0:Int)),([],(0:Int)),([],(0:Int))]
noncomputable def g_Vi_WldNew_3:List (Int×(Int×(Int×(Int×(Int×(Int×(Int×(Int×(Int×(Int×Int)))))))))) := []
noncomputable def g_Vi_WldNew_4:List (Int×(Int×(Int×(Int×(Int×(Int×Int)))))) := []
noncomputable def g_Vi_WldNew_5:List (Int×Bool) := []
noncomputable def Fi_WldNew:FSem := fun ys => match ys with
 | [] => some (true,.val true [.own .any true 71 (.pair (.int .i64) (.pair (.int .i64) (.pair (.sl 9 .str) (.sl 78 (.pair .str (.pair .bool (.sl 3 (.int .i64)))))))) g_Vi_WldNew_0,.int .i64 ((0:Int)),.own .any true 66 (.pair (.int .i64) (.pair (.pair (.int .i64) (.pair (.int .i64) (.pair (.int .i64) (.pair (.int .i64) (.pair (.int .i64) (.pair (.int .i64) (.int .i64))))))) (.pair .bool (.pair (.sl 3 (.int .i64)) (.sl 3 (.int .i64)))))) g_Vi_WldNew_1,.own .any true 24 (.pair (.sl 71 (.pair (.int .i64) (.pair (.int .i64) (.pair (.sl 9 .str) (.sl 78 (.pair .str (.pair .bool (.sl 3 (.int .i64))))))))) (.int .i64)) g_Vi_WldNew_2,.own .any true 54 (.pair (.int .i64) (.pair (.int .i64) (.pair (.int .i64) (.pair (.int .i64) (.pair (.int .i64) (.pair (.int .i64) (.pair (.int .i64) (.pair (.int .i64) (.pair (.int .i64) (.pair (.int .i64) (.int .i64))))))))))) g_Vi_WldNew_3,.own .any true 52 (.pair (.int .i64) (.pair (.int .i64) (.pair (.int .i64) (.pair (.int .i64) (.pair (.int .i64) (.pair (.int .i64) (.int .i64))))))) g_Vi_WldNew_4,.own .any true 58 (.pair (.int .i64) .bool) g_Vi_WldNew_5],[])
 | _ => none
theorem vi_WldNew:collapseH .std Ei_WldNew Oi_WldNew_0 (execFn Ei_WldNew Try.f5 msi_WldNew []) = some (true,.val true [.own .any true 71 (.pair (.int .i64) (.pair (.int .i64) (.pair (.sl 9 .str) (.sl 78 (.pair .str (.pair .bool (.sl 3 (.int .i64)))))))) g_Vi_WldNew_0,.int .i64 ((0:Int)),.own .any true 66 (.pair (.int .i64) (.pair (.pair (.int .i64) (.pair (.int .i64) (.pair (.int .i64) (.pair (.int .i64) (.pair (.int .i64) (.pair (.int .i64) (.int .i64))))))) (.pair .bool (.pair (.sl 3 (.int .i64)) (.sl 3 (.int .i64)))))) g_Vi_WldNew_1,.own .any true 24 (.pair (.sl 71 (.pair (.int .i64) (.pair (.int .i64) (.pair (.sl 9 .str) (.sl 78 (.pair .str (.pair .bool (.sl 3 (.int .i64))))))))) (.int .i64)) g_Vi_WldNew_2,.own .any true 54 (.pair (.int .i64) (.pair (.int .i64) (.pair (.int .i64) (.pair (.int .i64) (.pair (.int .i64) (.pair (.int .i64) (.pair (.int .i64) (.pair (.int .i64) (.pair (.int .i64) (.pair (.int .i64) (.int .i64))))))))))) g_Vi_WldNew_3,.own .any true 52 (.pair (.int .i64) (.pair (.int .i64) (.pair (.int .i64) (.pair (.int .i64) (.pair (.int .i64) (.pair (.int .i64) (.int .i64))))))) g_Vi_WldNew_4,.own .any true 58 (.pair (.int .i64) .bool) g_Vi_WldNew_5],[]) := by kernel_rfl
theorem si_WldNew:Sound Try.prog 5 msi_WldNew Fi_WldNew := by
 refine fn_gen goodi_WldNew (by kernel_rfl) .std (fn := Try.f5) (c := (Try.f5.body.getD .skip)) (o := Oi_WldNew_0) (k := 0) (by kernel_rfl) (by kernel_rfl) (by kernel_rfl) (by kernel_rfl) (by decide) ki_WldNew_0 ?_
 intro ys r outs h
 unfold Fi_WldNew at h
 split at h
 ·exact (vi_WldNew).trans h
 ·cases h
noncomputable def Es_WldNew:Env where
 tt := mkTI Try.prog
 fn := fun _ => none
 bxf := fun _ => none
 mv := []
 keep := fun _ => []
 keepB := fun _ => []
 keepX := fun _ => []
 keepXB := fun _ => []
theorem goodFs_WldNew:∀ f ms F,Es_WldNew.fn f = some (ms,F) → Sound Try.prog f ms F := fun f ms F h => by cases h
theorem goodBs_WldNew:∀ f ms F,Es_WldNew.bxf f = some (ms,F) → SoundB Try.prog f ms F := fun f ms F h => by cases h
theorem goods_WldNew:Good Try.prog Es_WldNew := ⟨rfl,goodFs_WldNew,goodBs_WldNew⟩
noncomputable def Os_WldNew_0:Orc := fun _ _ => none
noncomputable def mss_WldNew:List PM := []
noncomputable def lss_WldNew:List (Nat×Code) := loopsAll 0 (Try.f4.body.getD .skip)
theorem ks_WldNew_0:OrcOk Es_WldNew Os_WldNew_0 lss_WldNew 0 := orcOk_none
noncomputable def g_Vs_WldNew_0:List (Int×(Int×((List ByteArray)×(List (ByteArray×(Bool×(List Int))))))) := []
noncomputable def g_Vs_WldNew_1:List (Int×((Int×(Int×(Int×(Int×(Int×(Int×Int))))))×(Bool×((List Int)×(List Int))))) := []
noncomputable def g_Vs_WldNew_2:List ((List (Int×(Int×((List ByteArray)×(List (ByteArray×(Bool×(List Int))))))))×Int) := [([],(0:Int)),([],(0:Int)),([],(0:Int))]
noncomputable def g_Vs_WldNew_3:List (Int×(Int×(Int×(Int×(Int×(Int×(Int×(Int×(Int×(Int×Int)))))))))) := []
noncomputable def g_Vs_WldNew_4:List (Int×(Int×(Int×(Int×(Int×(Int×Int)))))) := []
noncomputable def g_Vs_WldNew_5:List (Int×Bool) := []
noncomputable def Fs_WldNew:FSem := fun ys => match ys with
 | [] => some (true,.val true [.own .any true 71 (.pair (.int .i64) (.pair (.int .i64) (.pair (.sl 9 .str) (.sl 78 (.pair .str (.pair .bool (.sl 3 (.int .i64)))))))) g_Vs_WldNew_0,.int .i64 ((0:Int)),.own .any true 66 (.pair (.int .i64) (.pair (.pair (.int .i64) (.pair (.int .i64) (.pair (.int .i64) (.pair (.int .i64) (.pair (.int .i64) (.pair (.int .i64) (.int .i64))))))) (.pair .bool (.pair (.sl 3 (.int .i64)) (.sl 3 (.int .i64)))))) g_Vs_WldNew_1,.own .any true 24 (.pair (.sl 71 (.pair (.int .i64) (.pair (.int .i64) (.pair (.sl 9 .str) (.sl 78 (.pair .str (.pair .bool (.sl 3 (.int .i64))))))))) (.int .i64)) g_Vs_WldNew_2,.own .any true 54 (.pair (.int .i64) (.pair (.int .i64) (.pair (.int .i64) (.pair (.int .i64) (.pair (.int .i64) (.pair (.int .i64) (.pair (.int .i64) (.pair (.int .i64) (.pair (.int .i64) (.pair (.int .i64) (.int .i64))))))))))) g_Vs_WldNew_3,.own .any true 52 (.pair (.int .i64) (.pair (.int .i64) (.pair (.int .i64) (.pair (.int .i64) (.pair (.int .i64) (.pair (.int .i64) (.int .i64))))))) g_Vs_WldNew_4,.own .any true 58 (.pair (.int .i64) .bool) g_Vs_WldNew_5],[])
 | _ => none
theorem vs_WldNew:collapseH .std Es_WldNew Os_WldNew_0 (execFn Es_WldNew Try.f4 mss_WldNew []) = some (true,.val true [.own .any true 71 (.pair (.int .i64) (.pair (.int .i64) (.pair (.sl 9 .str) (.sl 78 (.pair .str (.pair .bool (.sl 3 (.int .i64)))))))) g_Vs_WldNew_0,.int .i64 ((0:Int)),.own .any true 66 (.pair (.int .i64) (.pair (.pair (.int .i64) (.pair (.int .i64) (.pair (.int .i64) (.pair (.int .i64) (.pair (.int .i64) (.pair (.int .i64) (.int .i64))))))) (.pair .bool (.pair (.sl 3 (.int .i64)) (.sl 3 (.int .i64)))))) g_Vs_WldNew_1,.own .any true 24 (.pair (.sl 71 (.pair (.int .i64) (.pair (.int .i64) (.pair (.sl 9 .str) (.sl 78 (.pair .str (.pair .bool (.sl 3 (.int .i64))))))))) (.int .i64)) g_Vs_WldNew_2,.own .any true 54 (.pair (.int .i64) (.pair (.int .i64) (.pair (.int .i64) (.pair (.int .i64) (.pair (.int .i64) (.pair (.int .i64) (.pair (.int .i64) (.pair (.int .i64) (.pair (.int .i64) (.pair (.int .i64) (.int .i64))))))))))) g_Vs_WldNew_3,.own .any true 52 (.pair (.int .i64) (.pair (.int .i64) (.pair (.int .i64) (.pair (.int .i64) (.pair (.int .i64) (.pair (.int .i64) (.int .i64))))))) g_Vs_WldNew_4,.own .any true 58 (.pair (.int .i64) .bool) g_Vs_WldNew_5],[]) := by kernel_rfl
theorem ss_WldNew:Sound Try.prog 4 mss_WldNew Fs_WldNew := by
 refine fn_gen goods_WldNew (by kernel_rfl) .std (fn := Try.f4) (c := (Try.f4.body.getD .skip)) (o := Os_WldNew_0) (k := 0) (by kernel_rfl) (by kernel_rfl) (by kernel_rfl) (by kernel_rfl) (by decide) ks_WldNew_0 ?_
 intro ys r outs h
 unfold Fs_WldNew at h
 split at h
 ·exact (vs_WldNew).trans h
 ·cases h
noncomputable def Ew_eqFroOut:Env where
 tt := mkTI Try.prog
 fn := fun _ => none
 bxf := fun _ => none
 mv := []
 keep := fun _ => []
 keepB := fun _ => []
 keepX := fun _ => []
 keepXB := fun _ => []
theorem goodFw_eqFroOut:∀ f ms F,Ew_eqFroOut.fn f = some (ms,F) → Sound Try.prog f ms F := fun f ms F h => by cases h
theorem goodBw_eqFroOut:∀ f ms F,Ew_eqFroOut.bxf f = some (ms,F) → SoundB Try.prog f ms F := fun f ms F h => by cases h
theorem goodw_eqFroOut:Good Try.prog Ew_eqFroOut := ⟨rfl,goodFw_eqFroOut,goodBw_eqFroOut⟩
noncomputable def Ow_eqFroOut_0:Orc := fun _ _ => none
noncomputable def msw_eqFroOut:List PM := [.own,.own]
noncomputable def lsw_eqFroOut:List (Nat×Code) := loopsAll 0 (Try.f28.body.getD .skip)
theorem kw_eqFroOut_0:OrcOk Ew_eqFroOut Ow_eqFroOut_0 lsw_eqFroOut 0 := orcOk_none
noncomputable def g_Vw_eqFroOut_0 (a0:Int) (a1:Bool) (a2:Int) (a3:Bool):Bool := bif a0 != a2 then false else bif !a1 == a3 then false else true
noncomputable def Fw_eqFroOut:FSem := fun ys => match ys with
 | [.val true [.int .i64 a0,.bool a1],.val true [.int .i64 a2,.bool a3]] => some (true,.val false [.bool (g_Vw_eqFroOut_0 a0 a1 a2 a3)],[])
 | _ => none
theorem vw_eqFroOut (a0:Int) (a1:Bool) (a2:Int) (a3:Bool):collapseH .std Ew_eqFroOut Ow_eqFroOut_0 (execFn Ew_eqFroOut Try.f28 msw_eqFroOut [.val true [.int .i64 a0,.bool a1],.val true [.int .i64 a2,.bool a3]]) = some (true,.val false [.bool (g_Vw_eqFroOut_0 a0 a1 a2 a3)],[]) := by kernel_rfl
theorem sw_eqFroOut:Sound Try.prog 28 msw_eqFroOut Fw_eqFroOut := by
 refine fn_gen goodw_eqFroOut (by kernel_rfl) .std (fn := Try.f28) (c := (Try.f28.body.getD .skip)) (o := Ow_eqFroOut_0) (k := 0) (by kernel_rfl) (by kernel_rfl) (by kernel_rfl) (by kernel_rfl) (by decide) kw_eqFroOut_0 ?_
 intro ys r outs h
 unfold Fw_eqFroOut at h
 split at h
 ·exact (vw_eqFroOut _ _ _ _).trans h
 ·cases h
noncomputable def Ew_eqFroOutS:Env where
 tt := mkTI Try.prog
 fn := fun f => match f with
  | 28 => some (msw_eqFroOut,FSem.wk msw_eqFroOut Fw_eqFroOut)
  | _ => none
 bxf := fun _ => none
 mv := []
 keep := fun b => match b with
  | 0 => [(0,false),(1,false),(5,false)]
  | _ => []
 keepB := fun b => match b with
  | 0 => []
  | _ => []
 keepX := fun b => match b with
  | 0 => [(4,false)]
  | _ => []
 keepXB := fun b => match b with
  | 0 => []
  | _ => []
theorem goodFw_eqFroOutS:∀ f ms F,Ew_eqFroOutS.fn f = some (ms,F) → Sound Try.prog f ms F := fun f ms F h => by
 unfold Ew_eqFroOutS at h
 dsimp only at h
 split at h
 ·injection h with h; injection h with e1 e2; subst e1 e2; exact Sound.wk sw_eqFroOut
 ·cases h
theorem goodBw_eqFroOutS:∀ f ms F,Ew_eqFroOutS.bxf f = some (ms,F) → SoundB Try.prog f ms F := fun f ms F h => by cases h
theorem goodw_eqFroOutS:Good Try.prog Ew_eqFroOutS := ⟨rfl,goodFw_eqFroOutS,goodBw_eqFroOutS⟩
noncomputable def Ow_eqFroOutS_0:Orc := fun _ _ => none
noncomputable def msw_eqFroOutS:List PM := [.rd,.rd]
noncomputable def lsw_eqFroOutS:List (Nat×Code) := loopsAll 0 (Try.f13.body.getD .skip)
noncomputable def cw_eqFroOutS_0:Code := (loopOf 0 (Try.f13.body.getD .skip)).getD .skip
theorem lseqw_eqFroOutS:lsw_eqFroOutS = [(0,cw_eqFroOutS_0)] := by kernel_rfl
theorem mw_eqFroOutS_0:∀ p,p ∈ lsw_eqFroOutS → p.1 = 0 → p.2 = cw_eqFroOutS_0 := by
 intro p hp
 rw [lseqw_eqFroOutS] at hp
 simp only [List.mem_cons,List.not_mem_nil,or_false] at hp
 subst hp; simp
theorem kw_eqFroOutS_0:OrcOk Ew_eqFroOutS Ow_eqFroOutS_0 lsw_eqFroOutS 0 := orcOk_none
noncomputable def hw_eqFroOutS_0 (y0:List (Int×Bool)) (y1:List (Int×Bool)) (y2:Int):List (Pl×LV) := [(.T 0,.t (.val false [.sl .any 58 (.pair (.int .i64) .bool) y0])),(.T 1,.t (.val false [.sl .any 58 (.pair (.int .i64) .bool) y1])),(.T 5,.t (.val false [.int .i64 y2]))]
noncomputable def g_Sw_eqFroOutS_0 (y0:List (Int×Bool)) (y1:List (Int×Bool)):(Int) → RT (Int) ((Bool) ⊕ (Unit))
 | y2 => .br (true) (.br (decide (y2 < (↑(List.length y0):Int))) (.br (decide ((0:Int) ≤ y2 ∧ y2 < (↑(List.length y0):Int))) (.br (decide ((0:Int) ≤ y2 ∧ y2 < (↑(List.length y1):Int))) (.br (true) (.br (!g_Vw_eqFroOut_0 (at_ (Ty.pair (Ty.int IntKind.i64) Ty.bool) y0 (Int.toNat y2)).1 (at_ (Ty.pair (Ty.int IntKind.i64) Ty.bool) y0 (Int.toNat y2)).2 (at_ (Ty.pair (Ty.int IntKind.i64) Ty.bool) y1 (Int.toNat y2)).1 (at_ (Ty.pair (Ty.int IntKind.i64) Ty.bool) y1 (Int.toNat y2)).2) (.out (.inl false)) (.br (true) (.go (IntKind.wrap IntKind.i64 (y2 + (1:Int)))) .bad)) .bad) .bad) .bad) (.out (.inr (())))) .bad
noncomputable def g_Lw_eqFroOutS_0 (y0:List (Int×Bool)) (y1:List (Int×Bool)) (x:Int):Option ((Bool) ⊕ (Unit)) := loopO (g_Sw_eqFroOutS_0 y0 y1) x
noncomputable def xw_eqFroOutS_0 (y0:List (Int×Bool)) (y1:List (Int×Bool)):((Bool) ⊕ (Unit)) → Ex×List (Pl×LV) := fun
 | .inl r => (.ret,[(.T 4,.t (.val false [.bool r]))])
 | .inr (r) => (.exit 0,[(.T 4,.t (.val false [.undef]))])
noncomputable def Ow_eqFroOutS_1:Orc := fun b h => match b,h with
 | 0,[(.T 0,.t (.val false [.sl .any 58 (.pair (.int .i64) .bool) y0])),(.T 1,.t (.val false [.sl .any 58 (.pair (.int .i64) .bool) y1])),(.T 5,.t (.val false [.int .i64 y2]))] => some (okO (g_Lw_eqFroOutS_0 y0 y1 y2),(.br (isL (valO (g_Lw_eqFroOutS_0 y0 y1 y2))) (.leaf .ret [(.T 4,.t (.val false [.bool (getL (valO (g_Lw_eqFroOutS_0 y0 y1 y2)))]))]) (.leaf (.exit 0) [(.T 4,.t (.val false [.undef]))])))
 | b,h => Ow_eqFroOutS_0 b h
theorem bw_eqFroOutS_0 (y0:List (Int×Bool)) (y1:List (Int×Bool)) (y2:Int):Tr.bt Ew_eqFroOutS Ow_eqFroOutS_0 (exec Ew_eqFroOutS 0 cw_eqFroOutS_0 (St.of (hw_eqFroOutS_0 y0 y1 y2)) (leafRd Ew_eqFroOutS 0)) = (g_Sw_eqFroOutS_0 y0 y1 y2).bt (fun (y2:Int) => (hw_eqFroOutS_0 y0 y1 y2)) (xw_eqFroOutS_0 y0 y1) := by kernel_rfl
theorem kw_eqFroOutS_1:OrcOk Ew_eqFroOutS Ow_eqFroOutS_1 lsw_eqFroOutS 1 := orc_add kw_eqFroOutS_0 (fun n p hp h ex h' ho => by
 obtain ⟨b,c⟩ := p
 obtain ⟨xt,h1,h2⟩ := ho
 have h1:Ow_eqFroOutS_1 b h = some (true,xt) := h1
 unfold Ow_eqFroOutS_1 at h1
 split at h1
 ·injection h1 with h1
  injection h1 with e1 e2
  subst e2
  have hc:c = cw_eqFroOutS_0 := mw_eqFroOutS_0 _ hp rfl
  subst hc
  right
  rename_i y0 y1 y2
  have key := LT_step kw_eqFroOutS_0 hp (fun q hq => loopsAll_in _ _ _ _ hp hq) (fun (y2:Int) => (hw_eqFroOutS_0 y0 y1 y2)) (xw_eqFroOutS_0 y0 y1) (g_Sw_eqFroOutS_0 y0 y1) (fun x => by first | exact bw_eqFroOutS_0 y0 y1 x) n (x := y2) (okO_some e1)
  have hx:∀ r,XT.sel (.br (isL r) (.leaf .ret [(.T 4,.t (.val false [.bool (getL r)]))]) (.leaf (.exit 0) [(.T 4,.t (.val false [.undef]))])) = xw_eqFroOutS_0 y0 y1 r := fun r => by first | rfl | (rcases r with r | r <;> rfl) | (rcases r with r | r | r <;> rfl) | (rcases r with r | r | r | r <;> rfl)
  have h3 := (hx (valO (g_Lw_eqFroOutS_0 y0 y1 y2))).symm.trans h2
  have e3 := congrArg Prod.fst h3
  have e4 := congrArg Prod.snd h3
  simp only at e3 e4
  rw [← e3,← e4]
  exact key
 ·exact .inl ⟨xt,h1,h2⟩)
noncomputable def g_Aw_eqFroOutS (a0:List (Int×Bool)) (a1:List (Int×Bool)):Bool := (↑(List.length a0):Int) != (↑(List.length a1):Int) || okO (g_Lw_eqFroOutS_0 a0 a1 (0:Int))
noncomputable def g_Vw_eqFroOutS_0 (a0:List (Int×Bool)) (a1:List (Int×Bool)):Bool := bif (↑(List.length a0):Int) != (↑(List.length a1):Int) then false else bif isL (valO (g_Lw_eqFroOutS_0 a0 a1 (0:Int))) then getL (valO (g_Lw_eqFroOutS_0 a0 a1 (0:Int))) else true
noncomputable def Fw_eqFroOutS:FSem := fun ys => match ys with
 | [.val false [.sl .any 58 (.pair (.int .i64) .bool) a0],.val false [.sl .any 58 (.pair (.int .i64) .bool) a1]] => some ((g_Aw_eqFroOutS a0 a1),.val false [.bool (g_Vw_eqFroOutS_0 a0 a1)],[])
 | _ => none
theorem vw_eqFroOutS (a0:List (Int×Bool)) (a1:List (Int×Bool)):collapseH .std Ew_eqFroOutS Ow_eqFroOutS_1 (execFn Ew_eqFroOutS Try.f13 msw_eqFroOutS [.val false [.sl .any 58 (.pair (.int .i64) .bool) a0],.val false [.sl .any 58 (.pair (.int .i64) .bool) a1]]) = some ((g_Aw_eqFroOutS a0 a1),.val false [.bool (g_Vw_eqFroOutS_0 a0 a1)],[]) := by kernel_rfl
theorem sw_eqFroOutS:Sound Try.prog 13 msw_eqFroOutS Fw_eqFroOutS := by
 refine fn_gen goodw_eqFroOutS (by kernel_rfl) .std (fn := Try.f13) (c := (Try.f13.body.getD .skip)) (o := Ow_eqFroOutS_1) (k := 1) (by kernel_rfl) (by kernel_rfl) (by kernel_rfl) (by kernel_rfl) (by decide) kw_eqFroOutS_1 ?_
 intro ys r outs h
 unfold Fw_eqFroOutS at h
 split at h
 ·exact (vw_eqFroOutS _ _).trans h
 ·cases h
noncomputable def Ew_eqIntS:Env where
 tt := mkTI Try.prog
 fn := fun _ => none
 bxf := fun _ => none
 mv := []
 keep := fun b => match b with
  | 0 => [(0,false),(1,false),(5,false)]
  | _ => []
 keepB := fun b => match b with
  | 0 => []
  | _ => []
 keepX := fun b => match b with
  | 0 => [(4,false)]
  | _ => []
 keepXB := fun b => match b with
  | 0 => []
  | _ => []
theorem goodFw_eqIntS:∀ f ms F,Ew_eqIntS.fn f = some (ms,F) → Sound Try.prog f ms F := fun f ms F h => by cases h
theorem goodBw_eqIntS:∀ f ms F,Ew_eqIntS.bxf f = some (ms,F) → SoundB Try.prog f ms F := fun f ms F h => by cases h
theorem goodw_eqIntS:Good Try.prog Ew_eqIntS := ⟨rfl,goodFw_eqIntS,goodBw_eqIntS⟩
noncomputable def Ow_eqIntS_0:Orc := fun _ _ => none
noncomputable def msw_eqIntS:List PM := [.rd,.rd]
noncomputable def lsw_eqIntS:List (Nat×Code) := loopsAll 0 (Try.f44.body.getD .skip)
noncomputable def cw_eqIntS_0:Code := (loopOf 0 (Try.f44.body.getD .skip)).getD .skip
theorem lseqw_eqIntS:lsw_eqIntS = [(0,cw_eqIntS_0)] := by kernel_rfl
theorem mw_eqIntS_0:∀ p,p ∈ lsw_eqIntS → p.1 = 0 → p.2 = cw_eqIntS_0 := by
 intro p hp
 rw [lseqw_eqIntS] at hp
 simp only [List.mem_cons,List.not_mem_nil,or_false] at hp
 subst hp; simp
theorem kw_eqIntS_0:OrcOk Ew_eqIntS Ow_eqIntS_0 lsw_eqIntS 0 := orcOk_none
noncomputable def hw_eqIntS_0 (y0:List Int) (y1:List Int) (y2:Int):List (Pl×LV) := [(.T 0,.t (.val false [.sl .any 3 (.int .i64) y0])),(.T 1,.t (.val false [.sl .any 3 (.int .i64) y1])),(.T 5,.t (.val false [.int .i64 y2]))]
noncomputable def g_Sw_eqIntS_0 (y0:List Int) (y1:List Int):(Int) → RT (Int) ((Bool) ⊕ (Unit))
 | y2 => .br (true) (.br (decide (y2 < (↑(List.length y0):Int))) (.br (decide ((0:Int) ≤ y2 ∧ y2 < (↑(List.length y0):Int))) (.br (decide ((0:Int) ≤ y2 ∧ y2 < (↑(List.length y1):Int))) (.br (true) (.br (at_ (Ty.int IntKind.i64) y0 (Int.toNat y2) != at_ (Ty.int IntKind.i64) y1 (Int.toNat y2)) (.out (.inl false)) (.br (true) (.go (IntKind.wrap IntKind.i64 (y2 + (1:Int)))) .bad)) .bad) .bad) .bad) (.out (.inr (())))) .bad
noncomputable def g_Lw_eqIntS_0 (y0:List Int) (y1:List Int) (x:Int):Option ((Bool) ⊕ (Unit)) := loopO (g_Sw_eqIntS_0 y0 y1) x
noncomputable def xw_eqIntS_0 (y0:List Int) (y1:List Int):((Bool) ⊕ (Unit)) → Ex×List (Pl×LV) := fun
 | .inl r => (.ret,[(.T 4,.t (.val false [.bool r]))])
 | .inr (r) => (.exit 0,[(.T 4,.t (.val false [.undef]))])
noncomputable def Ow_eqIntS_1:Orc := fun b h => match b,h with
 | 0,[(.T 0,.t (.val false [.sl .any 3 (.int .i64) y0])),(.T 1,.t (.val false [.sl .any 3 (.int .i64) y1])),(.T 5,.t (.val false [.int .i64 y2]))] => some (okO (g_Lw_eqIntS_0 y0 y1 y2),(.br (isL (valO (g_Lw_eqIntS_0 y0 y1 y2))) (.leaf .ret [(.T 4,.t (.val false [.bool (getL (valO (g_Lw_eqIntS_0 y0 y1 y2)))]))]) (.leaf (.exit 0) [(.T 4,.t (.val false [.undef]))])))
 | b,h => Ow_eqIntS_0 b h
theorem bw_eqIntS_0 (y0:List Int) (y1:List Int) (y2:Int):Tr.bt Ew_eqIntS Ow_eqIntS_0 (exec Ew_eqIntS 0 cw_eqIntS_0 (St.of (hw_eqIntS_0 y0 y1 y2)) (leafRd Ew_eqIntS 0)) = (g_Sw_eqIntS_0 y0 y1 y2).bt (fun (y2:Int) => (hw_eqIntS_0 y0 y1 y2)) (xw_eqIntS_0 y0 y1) := by kernel_rfl
theorem kw_eqIntS_1:OrcOk Ew_eqIntS Ow_eqIntS_1 lsw_eqIntS 1 := orc_add kw_eqIntS_0 (fun n p hp h ex h' ho => by
 obtain ⟨b,c⟩ := p
 obtain ⟨xt,h1,h2⟩ := ho
 have h1:Ow_eqIntS_1 b h = some (true,xt) := h1
 unfold Ow_eqIntS_1 at h1
 split at h1
 ·injection h1 with h1
  injection h1 with e1 e2
  subst e2
  have hc:c = cw_eqIntS_0 := mw_eqIntS_0 _ hp rfl
  subst hc
  right
  rename_i y0 y1 y2
  have key := LT_step kw_eqIntS_0 hp (fun q hq => loopsAll_in _ _ _ _ hp hq) (fun (y2:Int) => (hw_eqIntS_0 y0 y1 y2)) (xw_eqIntS_0 y0 y1) (g_Sw_eqIntS_0 y0 y1) (fun x => by first | exact bw_eqIntS_0 y0 y1 x) n (x := y2) (okO_some e1)
  have hx:∀ r,XT.sel (.br (isL r) (.leaf .ret [(.T 4,.t (.val false [.bool (getL r)]))]) (.leaf (.exit 0) [(.T 4,.t (.val false [.undef]))])) = xw_eqIntS_0 y0 y1 r := fun r => by first | rfl | (rcases r with r | r <;> rfl) | (rcases r with r | r | r <;> rfl) | (rcases r with r | r | r | r <;> rfl)
  have h3 := (hx (valO (g_Lw_eqIntS_0 y0 y1 y2))).symm.trans h2
  have e3 := congrArg Prod.fst h3
  have e4 := congrArg Prod.snd h3
  simp only at e3 e4
  rw [← e3,← e4]
  exact key
 ·exact .inl ⟨xt,h1,h2⟩)
noncomputable def g_Aw_eqIntS (a0:List Int) (a1:List Int):Bool := (↑(List.length a0):Int) != (↑(List.length a1):Int) || okO (g_Lw_eqIntS_0 a0 a1 (0:Int))
noncomputable def g_Vw_eqIntS_0 (a0:List Int) (a1:List Int):Bool := bif (↑(List.length a0):Int) != (↑(List.length a1):Int) then false else bif isL (valO (g_Lw_eqIntS_0 a0 a1 (0:Int))) then getL (valO (g_Lw_eqIntS_0 a0 a1 (0:Int))) else true
noncomputable def Fw_eqIntS:FSem := fun ys => match ys with
 | [.val false [.sl .any 3 (.int .i64) a0],.val false [.sl .any 3 (.int .i64) a1]] => some ((g_Aw_eqIntS a0 a1),.val false [.bool (g_Vw_eqIntS_0 a0 a1)],[])
 | _ => none
theorem vw_eqIntS (a0:List Int) (a1:List Int):collapseH .std Ew_eqIntS Ow_eqIntS_1 (execFn Ew_eqIntS Try.f44 msw_eqIntS [.val false [.sl .any 3 (.int .i64) a0],.val false [.sl .any 3 (.int .i64) a1]]) = some ((g_Aw_eqIntS a0 a1),.val false [.bool (g_Vw_eqIntS_0 a0 a1)],[]) := by kernel_rfl
theorem sw_eqIntS:Sound Try.prog 44 msw_eqIntS Fw_eqIntS := by
 refine fn_gen goodw_eqIntS (by kernel_rfl) .std (fn := Try.f44) (c := (Try.f44.body.getD .skip)) (o := Ow_eqIntS_1) (k := 1) (by kernel_rfl) (by kernel_rfl) (by kernel_rfl) (by kernel_rfl) (by decide) kw_eqIntS_1 ?_
 intro ys r outs h
 unfold Fw_eqIntS at h
 split at h
 ·exact (vw_eqIntS _ _).trans h
 ·cases h
noncomputable def Ew_eqOpOp:Env where
 tt := mkTI Try.prog
 fn := fun _ => none
 bxf := fun _ => none
 mv := []
 keep := fun _ => []
 keepB := fun _ => []
 keepX := fun _ => []
 keepXB := fun _ => []
theorem goodFw_eqOpOp:∀ f ms F,Ew_eqOpOp.fn f = some (ms,F) → Sound Try.prog f ms F := fun f ms F h => by cases h
theorem goodBw_eqOpOp:∀ f ms F,Ew_eqOpOp.bxf f = some (ms,F) → SoundB Try.prog f ms F := fun f ms F h => by cases h
theorem goodw_eqOpOp:Good Try.prog Ew_eqOpOp := ⟨rfl,goodFw_eqOpOp,goodBw_eqOpOp⟩
noncomputable def Ow_eqOpOp_0:Orc := fun _ _ => none
noncomputable def msw_eqOpOp:List PM := [.own,.own]
noncomputable def lsw_eqOpOp:List (Nat×Code) := loopsAll 0 (Try.f27.body.getD .skip)
theorem kw_eqOpOp_0:OrcOk Ew_eqOpOp Ow_eqOpOp_0 lsw_eqOpOp 0 := orcOk_none
noncomputable def g_Aw_eqOpOp (a0:Int) (a1:Int) (a2:Int) (a3:Int) (a4:Int) (a5:Int) (a6:Int) (a7:Int) (a8:Int) (a9:Int) (a10:Int) (a11:Int) (a12:Int) (a13:Int):Bool := a0 != a7 || (a1 != a8 || (a2 != a9 || (a3 != a10 || (a4 != a11 || (a5 != a12 || true)))))
noncomputable def g_Vw_eqOpOp_0 (a0:Int) (a1:Int) (a2:Int) (a3:Int) (a4:Int) (a5:Int) (a6:Int) (a7:Int) (a8:Int) (a9:Int) (a10:Int) (a11:Int) (a12:Int) (a13:Int):Bool := bif a0 != a7 then false else bif a1 != a8 then false else bif a2 != a9 then false else bif a3 != a10 then false else bif a4 != a11 then false else bif a5 != a12 then false else bif a6 != a13 then false else true
noncomputable def Fw_eqOpOp:FSem := fun ys => match ys with
 | [.val true [.int .i64 a0,.int .i64 a1,.int .i64 a2,.int .i64 a3,.int .i64 a4,.int .i64 a5,.int .i64 a6],.val true [.int .i64 a7,.int .i64 a8,.int .i64 a9,.int .i64 a10,.int .i64 a11,.int .i64 a12,.int .i64 a13]] => some ((g_Aw_eqOpOp a0 a1 a2 a3 a4 a5 a6 a7 a8 a9 a10 a11 a12 a13),.val false [.bool (g_Vw_eqOpOp_0 a0 a1 a2 a3 a4 a5 a6 a7 a8 a9 a10 a11 a12 a13)],[])
 | _ => none
theorem vw_eqOpOp (a0:Int) (a1:Int) (a2:Int) (a3:Int) (a4:Int) (a5:Int) (a6:Int) (a7:Int) (a8:Int) (a9:Int) (a10:Int) (a11:Int) (a12:Int) (a13:Int):collapseH .std Ew_eqOpOp Ow_eqOpOp_0 (execFn Ew_eqOpOp Try.f27 msw_eqOpOp [.val true [.int .i64 a0,.int .i64 a1,.int .i64 a2,.int .i64 a3,.int .i64 a4,.int .i64 a5,.int .i64 a6],.val true [.int .i64 a7,.int .i64 a8,.int .i64 a9,.int .i64 a10,.int .i64 a11,.int .i64 a12,.int .i64 a13]]) = some ((g_Aw_eqOpOp a0 a1 a2 a3 a4 a5 a6 a7 a8 a9 a10 a11 a12 a13),.val false [.bool (g_Vw_eqOpOp_0 a0 a1 a2 a3 a4 a5 a6 a7 a8 a9 a10 a11 a12 a13)],[]) := by kernel_rfl
theorem sw_eqOpOp:Sound Try.prog 27 msw_eqOpOp Fw_eqOpOp := by
 refine fn_gen goodw_eqOpOp (by kernel_rfl) .std (fn := Try.f27) (c := (Try.f27.body.getD .skip)) (o := Ow_eqOpOp_0) (k := 0) (by kernel_rfl) (by kernel_rfl) (by kernel_rfl) (by kernel_rfl) (by decide) kw_eqOpOp_0 ?_
 intro ys r outs h
 unfold Fw_eqOpOp at h
 split at h
 ·exact (vw_eqOpOp _ _ _ _ _ _ _ _ _ _ _ _ _ _).trans h
 ·cases h
noncomputable def Ew_eqFroTx:Env where
 tt := mkTI Try.prog
 fn := fun f => match f with
  | 27 => some (msw_eqOpOp,FSem.wk msw_eqOpOp Fw_eqOpOp)
  | 44 => some (msw_eqIntS,FSem.wk msw_eqIntS Fw_eqIntS)
  | _ => none
 bxf := fun _ => none
 mv := []
 keep := fun _ => []
 keepB := fun _ => []
 keepX := fun _ => []
 keepXB := fun _ => []
theorem goodFw_eqFroTx:∀ f ms F,Ew_eqFroTx.fn f = some (ms,F) → Sound Try.prog f ms F := fun f ms F h => by
 unfold Ew_eqFroTx at h
 dsimp only at h
 split at h
 ·injection h with h; injection h with e1 e2; subst e1 e2; exact Sound.wk sw_eqOpOp
 ·injection h with h; injection h with e1 e2; subst e1 e2; exact Sound.wk sw_eqIntS
 ·cases h
theorem goodBw_eqFroTx:∀ f ms F,Ew_eqFroTx.bxf f = some (ms,F) → SoundB Try.prog f ms F := fun f ms F h => by cases h
theorem goodw_eqFroTx:Good Try.prog Ew_eqFroTx := ⟨rfl,goodFw_eqFroTx,goodBw_eqFroTx⟩
noncomputable def Ow_eqFroTx_0:Orc := fun _ _ => none
noncomputable def msw_eqFroTx:List PM := [.rd,.rd]
noncomputable def lsw_eqFroTx:List (Nat×Code) := loopsAll 0 (Try.f36.body.getD .skip)
theorem kw_eqFroTx_0:OrcOk Ew_eqFroTx Ow_eqFroTx_0 lsw_eqFroTx 0 := orcOk_none
noncomputable def g_Aw_eqFroTx (a0:Int) (a1:Int) (a2:Int) (a3:Int) (a4:Int) (a5:Int) (a6:Int) (a7:Int) (a8:Bool) (a9:List Int) (a10:List Int) (a11:Int) (a12:Int) (a13:Int) (a14:Int) (a15:Int) (a16:Int) (a17:Int) (a18:Int) (a19:Bool) (a20:List Int) (a21:List Int):Bool := a0 != a11 || g_Aw_eqOpOp a1 a2 a3 a4 a5 a6 a7 a12 a13 a14 a15 a16 a17 a18&&(!g_Vw_eqOpOp_0 a1 a2 a3 a4 a5 a6 a7 a12 a13 a14 a15 a16 a17 a18 || (!a8 == a19 || g_Aw_eqIntS a9 a20&&(!g_Vw_eqIntS_0 a9 a20 || g_Aw_eqIntS a10 a21)))
noncomputable def g_Vw_eqFroTx_0 (a0:Int) (a1:Int) (a2:Int) (a3:Int) (a4:Int) (a5:Int) (a6:Int) (a7:Int) (a8:Bool) (a9:List Int) (a10:List Int) (a11:Int) (a12:Int) (a13:Int) (a14:Int) (a15:Int) (a16:Int) (a17:Int) (a18:Int) (a19:Bool) (a20:List Int) (a21:List Int):Bool := bif a0 != a11 then false else bif !g_Vw_eqOpOp_0 a1 a2 a3 a4 a5 a6 a7 a12 a13 a14 a15 a16 a17 a18 then false else bif !a8 == a19 then false else bif !g_Vw_eqIntS_0 a9 a20 then false else bif !g_Vw_eqIntS_0 a10 a21 then false else true
noncomputable def Fw_eqFroTx:FSem := fun ys => match ys with
 | [.val true [.int .i64 a0,.int .i64 a1,.int .i64 a2,.int .i64 a3,.int .i64 a4,.int .i64 a5,.int .i64 a6,.int .i64 a7,.bool a8,.sl .any 3 (.int .i64) a9,.sl .any 3 (.int .i64) a10],.val true [.int .i64 a11,.int .i64 a12,.int .i64 a13,.int .i64 a14,.int .i64 a15,.int .i64 a16,.int .i64 a17,.int .i64 a18,.bool a19,.sl .any 3 (.int .i64) a20,.sl .any 3 (.int .i64) a21]] => some ((g_Aw_eqFroTx a0 a1 a2 a3 a4 a5 a6 a7 a8 a9 a10 a11 a12 a13 a14 a15 a16 a17 a18 a19 a20 a21),.val false [.bool (g_Vw_eqFroTx_0 a0 a1 a2 a3 a4 a5 a6 a7 a8 a9 a10 a11 a12 a13 a14 a15 a16 a17 a18 a19 a20 a21)],[])
 | _ => none
theorem vw_eqFroTx (a0:Int) (a1:Int) (a2:Int) (a3:Int) (a4:Int) (a5:Int) (a6:Int) (a7:Int) (a8:Bool) (a9:List Int) (a10:List Int) (a11:Int) (a12:Int) (a13:Int) (a14:Int) (a15:Int) (a16:Int) (a17:Int) (a18:Int) (a19:Bool) (a20:List Int) (a21:List Int):collapseH .std Ew_eqFroTx Ow_eqFroTx_0 (execFn Ew_eqFroTx Try.f36 msw_eqFroTx [.val true [.int .i64 a0,.int .i64 a1,.int .i64 a2,.int .i64 a3,.int .i64 a4,.int .i64 a5,.int .i64 a6,.int .i64 a7,.bool a8,.sl .any 3 (.int .i64) a9,.sl .any 3 (.int .i64) a10],.val true [.int .i64 a11,.int .i64 a12,.int .i64 a13,.int .i64 a14,.int .i64 a15,.int .i64 a16,.int .i64 a17,.int .i64 a18,.bool a19,.sl .any 3 (.int .i64) a20,.sl .any 3 (.int .i64) a21]]) = some ((g_Aw_eqFroTx a0 a1 a2 a3 a4 a5 a6 a7 a8 a9 a10 a11 a12 a13 a14 a15 a16 a17 a18 a19 a20 a21),.val false [.bool (g_Vw_eqFroTx_0 a0 a1 a2 a3 a4 a5 a6 a7 a8 a9 a10 a11 a12 a13 a14 a15 a16 a17 a18 a19 a20 a21)],[]) := by kernel_rfl
theorem sw_eqFroTx:Sound Try.prog 36 msw_eqFroTx Fw_eqFroTx := by
 refine fn_gen goodw_eqFroTx (by kernel_rfl) .std (fn := Try.f36) (c := (Try.f36.body.getD .skip)) (o := Ow_eqFroTx_0) (k := 0) (by kernel_rfl) (by kernel_rfl) (by kernel_rfl) (by kernel_rfl) (by decide) kw_eqFroTx_0 ?_
 intro ys r outs h
 unfold Fw_eqFroTx at h
 split at h
 ·exact (vw_eqFroTx _ _ _ _ _ _ _ _ _ _ _ _ _ _ _ _ _ _ _ _ _ _).trans h
 ·cases h
noncomputable def Ew_eqFroTxS:Env where
 tt := mkTI Try.prog
 fn := fun f => match f with
  | 36 => some (msw_eqFroTx,FSem.wk msw_eqFroTx Fw_eqFroTx)
  | _ => none
 bxf := fun _ => none
 mv := []
 keep := fun b => match b with
  | 0 => [(0,false),(1,false),(5,false)]
  | _ => []
 keepB := fun b => match b with
  | 0 => []
  | _ => []
 keepX := fun b => match b with
  | 0 => [(4,false)]
  | _ => []
 keepXB := fun b => match b with
  | 0 => []
  | _ => []
theorem goodFw_eqFroTxS:∀ f ms F,Ew_eqFroTxS.fn f = some (ms,F) → Sound Try.prog f ms F := fun f ms F h => by
 unfold Ew_eqFroTxS at h
 dsimp only at h
 split at h
 ·injection h with h; injection h with e1 e2; subst e1 e2; exact Sound.wk sw_eqFroTx
 ·cases h
theorem goodBw_eqFroTxS:∀ f ms F,Ew_eqFroTxS.bxf f = some (ms,F) → SoundB Try.prog f ms F := fun f ms F h => by cases h
theorem goodw_eqFroTxS:Good Try.prog Ew_eqFroTxS := ⟨rfl,goodFw_eqFroTxS,goodBw_eqFroTxS⟩
noncomputable def Ow_eqFroTxS_0:Orc := fun _ _ => none
noncomputable def msw_eqFroTxS:List PM := [.rd,.rd]
noncomputable def lsw_eqFroTxS:List (Nat×Code) := loopsAll 0 (Try.f25.body.getD .skip)
noncomputable def cw_eqFroTxS_0:Code := (loopOf 0 (Try.f25.body.getD .skip)).getD .skip
theorem lseqw_eqFroTxS:lsw_eqFroTxS = [(0,cw_eqFroTxS_0)] := by kernel_rfl
theorem mw_eqFroTxS_0:∀ p,p ∈ lsw_eqFroTxS → p.1 = 0 → p.2 = cw_eqFroTxS_0 := by
 intro p hp
 rw [lseqw_eqFroTxS] at hp
 simp only [List.mem_cons,List.not_mem_nil,or_false] at hp
 subst hp; simp
theorem kw_eqFroTxS_0:OrcOk Ew_eqFroTxS Ow_eqFroTxS_0 lsw_eqFroTxS 0 := orcOk_none
noncomputable def hw_eqFroTxS_0 (y0:List (Int×((Int×(Int×(Int×(Int×(Int×(Int×Int))))))×(Bool×((List Int)×(List Int)))))) (y1:List (Int×((Int×(Int×(Int×(Int×(Int×(Int×Int))))))×(Bool×((List Int)×(List Int)))))) (y2:Int):List (Pl×LV) := [(.T 0,.t (.val false [.sl .any 66 (.pair (.int .i64) (.pair (.pair (.int .i64) (.pair (.int .i64) (.pair (.int .i64) (.pair (.int .i64) (.pair (.int .i64) (.pair (.int .i64) (.int .i64))))))) (.pair .bool (.pair (.sl 3 (.int .i64)) (.sl 3 (.int .i64)))))) y0])),(.T 1,.t (.val false [.sl .any 66 (.pair (.int .i64) (.pair (.pair (.int .i64) (.pair (.int .i64) (.pair (.int .i64) (.pair (.int .i64) (.pair (.int .i64) (.pair (.int .i64) (.int .i64))))))) (.pair .bool (.pair (.sl 3 (.int .i64)) (.sl 3 (.int .i64)))))) y1])),(.T 5,.t (.val false [.int .i64 y2]))]
noncomputable def g_Sw_eqFroTxS_0 (y0:List (Int×((Int×(Int×(Int×(Int×(Int×(Int×Int))))))×(Bool×((List Int)×(List Int)))))) (y1:List (Int×((Int×(Int×(Int×(Int×(Int×(Int×Int))))))×(Bool×((List Int)×(List Int)))))):(Int) → RT (Int) ((Bool) ⊕ (Unit))
 | y2 => .br (true) (.br (decide (y2 < (↑(List.length y0):Int))) (.br (decide ((0:Int) ≤ y2 ∧ y2 < (↑(List.length y0):Int))) (.br (decide ((0:Int) ≤ y2 ∧ y2 < (↑(List.length y1):Int))) (.br (g_Aw_eqFroTx (at_ (Ty.pair (Ty.int IntKind.i64) (Ty.pair (Ty.pair (Ty.int IntKind.i64) (Ty.pair (Ty.int IntKind.i64) (Ty.pair (Ty.int IntKind.i64) (Ty.pair (Ty.int IntKind.i64) (Ty.pair (Ty.int IntKind.i64) (Ty.pair (Ty.int IntKind.i64) (Ty.int IntKind.i64))))))) (Ty.pair Ty.bool (Ty.pair (Ty.sl (nat_lit 3) (Ty.int IntKind.i64)) (Ty.sl (nat_lit 3) (Ty.int IntKind.i64)))))) y0 (Int.toNat y2)).1 (at_ (Ty.pair (Ty.int IntKind.i64) (Ty.pair (Ty.pair (Ty.int IntKind.i64) (Ty.pair (Ty.int IntKind.i64) (Ty.pair (Ty.int IntKind.i64) (Ty.pair (Ty.int IntKind.i64) (Ty.pair (Ty.int IntKind.i64) (Ty.pair (Ty.int IntKind.i64) (Ty.int IntKind.i64))))))) (Ty.pair Ty.bool (Ty.pair (Ty.sl (nat_lit 3) (Ty.int IntKind.i64)) (Ty.sl (nat_lit 3) (Ty.int IntKind.i64)))))) y0 (Int.toNat y2)).2.1.1 (at_ (Ty.pair (Ty.int IntKind.i64) (Ty.pair (Ty.pair (Ty.int IntKind.i64) (Ty.pair (Ty.int IntKind.i64) (Ty.pair (Ty.int IntKind.i64) (Ty.pair (Ty.int IntKind.i64) (Ty.pair (Ty.int IntKind.i64) (Ty.pair (Ty.int IntKind.i64) (Ty.int IntKind.i64))))))) (Ty.pair Ty.bool (Ty.pair (Ty.sl (nat_lit 3) (Ty.int IntKind.i64)) (Ty.sl (nat_lit 3) (Ty.int IntKind.i64)))))) y0 (Int.toNat y2)).2.1.2.1 (at_ (Ty.pair (Ty.int IntKind.i64) (Ty.pair (Ty.pair (Ty.int IntKind.i64) (Ty.pair (Ty.int IntKind.i64) (Ty.pair (Ty.int IntKind.i64) (Ty.pair (Ty.int IntKind.i64) (Ty.pair (Ty.int IntKind.i64) (Ty.pair (Ty.int IntKind.i64) (Ty.int IntKind.i64))))))) (Ty.pair Ty.bool (Ty.pair (Ty.sl (nat_lit 3) (Ty.int IntKind.i64)) (Ty.sl (nat_lit 3) (Ty.int IntKind.i64)))))) y0 (Int.toNat y2)).2.1.2.2.1 (at_ (Ty.pair (Ty.int IntKind.i64) (Ty.pair (Ty.pair (Ty.int IntKind.i64) (Ty.pair (Ty.int IntKind.i64) (Ty.pair (Ty.int IntKind.i64) (Ty.pair (Ty.int IntKind.i64) (Ty.pair (Ty.int IntKind.i64) (Ty.pair (Ty.int IntKind.i64) (Ty.int IntKind.i64))))))) (Ty.pair Ty.bool (Ty.pair (Ty.sl (nat_lit 3) (Ty.int IntKind.i64)) (Ty.sl (nat_lit 3) (Ty.int IntKind.i64)))))) y0 (Int.toNat y2)).2.1.2.2.2.1 (at_ (Ty.pair (Ty.int IntKind.i64) (Ty.pair (Ty.pair (Ty.int IntKind.i64) (Ty.pair (Ty.int IntKind.i64) (Ty.pair (Ty.int IntKind.i64) (Ty.pair (Ty.int IntKind.i64) (Ty.pair (Ty.int IntKind.i64) (Ty.pair (Ty.int IntKind.i64) (Ty.int IntKind.i64))))))) (Ty.pair Ty.bool (Ty.pair (Ty.sl (nat_lit 3) (Ty.int IntKind.i64)) (Ty.sl (nat_lit 3) (Ty.int IntKind.i64)))))) y0 (Int.toNat y2)).2.1.2.2.2.2.1 (at_ (Ty.pair (Ty.int IntKind.i64) (Ty.pair (Ty.pair (Ty.int IntKind.i64) (Ty.pair (Ty.int IntKind.i64) (Ty.pair (Ty.int IntKind.i64) (Ty.pair (Ty.int IntKind.i64) (Ty.pair (Ty.int IntKind.i64) (Ty.pair (Ty.int IntKind.i64) (Ty.int IntKind.i64))))))) (Ty.pair Ty.bool (Ty.pair (Ty.sl (nat_lit 3) (Ty.int IntKind.i64)) (Ty.sl (nat_lit 3) (Ty.int IntKind.i64)))))) y0 (Int.toNat y2)).2.1.2.2.2.2.2.1 (at_ (Ty.pair (Ty.int IntKind.i64) (Ty.pair (Ty.pair (Ty.int IntKind.i64) (Ty.pair (Ty.int IntKind.i64) (Ty.pair (Ty.int IntKind.i64) (Ty.pair (Ty.int IntKind.i64) (Ty.pair (Ty.int IntKind.i64) (Ty.pair (Ty.int IntKind.i64) (Ty.int IntKind.i64))))))) (Ty.pair Ty.bool (Ty.pair (Ty.sl (nat_lit 3) (Ty.int IntKind.i64)) (Ty.sl (nat_lit 3) (Ty.int IntKind.i64)))))) y0 (Int.toNat y2)).2.1.2.2.2.2.2.2 (at_ (Ty.pair (Ty.int IntKind.i64) (Ty.pair (Ty.pair (Ty.int IntKind.i64) (Ty.pair (Ty.int IntKind.i64) (Ty.pair (Ty.int IntKind.i64) (Ty.pair (Ty.int IntKind.i64) (Ty.pair (Ty.int IntKind.i64) (Ty.pair (Ty.int IntKind.i64) (Ty.int IntKind.i64))))))) (Ty.pair Ty.bool (Ty.pair (Ty.sl (nat_lit 3) (Ty.int IntKind.i64)) (Ty.sl (nat_lit 3) (Ty.int IntKind.i64)))))) y0 (Int.toNat y2)).2.2.1 (at_ (Ty.pair (Ty.int IntKind.i64) (Ty.pair (Ty.pair (Ty.int IntKind.i64) (Ty.pair (Ty.int IntKind.i64) (Ty.pair (Ty.int IntKind.i64) (Ty.pair (Ty.int IntKind.i64) (Ty.pair (Ty.int IntKind.i64) (Ty.pair (Ty.int IntKind.i64) (Ty.int IntKind.i64))))))) (Ty.pair Ty.bool (Ty.pair (Ty.sl (nat_lit 3) (Ty.int IntKind.i64)) (Ty.sl (nat_lit 3) (Ty.int IntKind.i64)))))) y0 (Int.toNat y2)).2.2.2.1 (at_ (Ty.pair (Ty.int IntKind.i64) (Ty.pair (Ty.pair (Ty.int IntKind.i64) (Ty.pair (Ty.int IntKind.i64) (Ty.pair (Ty.int IntKind.i64) (Ty.pair (Ty.int IntKind.i64) (Ty.pair (Ty.int IntKind.i64) (Ty.pair (Ty.int IntKind.i64) (Ty.int IntKind.i64))))))) (Ty.pair Ty.bool (Ty.pair (Ty.sl (nat_lit 3) (Ty.int IntKind.i64)) (Ty.sl (nat_lit 3) (Ty.int IntKind.i64)))))) y0 (Int.toNat y2)).2.2.2.2 (at_ (Ty.pair (Ty.int IntKind.i64) (Ty.pair (Ty.pair (Ty.int IntKind.i64) (Ty.pair (Ty.int IntKind.i64) (Ty.pair (Ty.int IntKind.i64) (Ty.pair (Ty.int IntKind.i64) (Ty.pair (Ty.int IntKind.i64) (Ty.pair (Ty.int IntKind.i64) (Ty.int IntKind.i64))))))) (Ty.pair Ty.bool (Ty.pair (Ty.sl (nat_lit 3) (Ty.int IntKind.i64)) (Ty.sl (nat_lit 3) (Ty.int IntKind.i64)))))) y1 (Int.toNat y2)).1 (at_ (Ty.pair (Ty.int IntKind.i64) (Ty.pair (Ty.pair (Ty.int IntKind.i64) (Ty.pair (Ty.int IntKind.i64) (Ty.pair (Ty.int IntKind.i64) (Ty.pair (Ty.int IntKind.i64) (Ty.pair (Ty.int IntKind.i64) (Ty.pair (Ty.int IntKind.i64) (Ty.int IntKind.i64))))))) (Ty.pair Ty.bool (Ty.pair (Ty.sl (nat_lit 3) (Ty.int IntKind.i64)) (Ty.sl (nat_lit 3) (Ty.int IntKind.i64)))))) y1 (Int.toNat y2)).2.1.1 (at_ (Ty.pair (Ty.int IntKind.i64) (Ty.pair (Ty.pair (Ty.int IntKind.i64) (Ty.pair (Ty.int IntKind.i64) (Ty.pair (Ty.int IntKind.i64) (Ty.pair (Ty.int IntKind.i64) (Ty.pair (Ty.int IntKind.i64) (Ty.pair (Ty.int IntKind.i64) (Ty.int IntKind.i64))))))) (Ty.pair Ty.bool (Ty.pair (Ty.sl (nat_lit 3) (Ty.int IntKind.i64)) (Ty.sl (nat_lit 3) (Ty.int IntKind.i64)))))) y1 (Int.toNat y2)).2.1.2.1 (at_ (Ty.pair (Ty.int IntKind.i64) (Ty.pair (Ty.pair (Ty.int IntKind.i64) (Ty.pair (Ty.int IntKind.i64) (Ty.pair (Ty.int IntKind.i64) (Ty.pair (Ty.int IntKind.i64) (Ty.pair (Ty.int IntKind.i64) (Ty.pair (Ty.int IntKind.i64) (Ty.int IntKind.i64))))))) (Ty.pair Ty.bool (Ty.pair (Ty.sl (nat_lit 3) (Ty.int IntKind.i64)) (Ty.sl (nat_lit 3) (Ty.int IntKind.i64)))))) y1 (Int.toNat y2)).2.1.2.2.1 (at_ (Ty.pair (Ty.int IntKind.i64) (Ty.pair (Ty.pair (Ty.int IntKind.i64) (Ty.pair (Ty.int IntKind.i64) (Ty.pair (Ty.int IntKind.i64) (Ty.pair (Ty.int IntKind.i64) (Ty.pair (Ty.int IntKind.i64) (Ty.pair (Ty.int IntKind.i64) (Ty.int IntKind.i64))))))) (Ty.pair Ty.bool (Ty.pair (Ty.sl (nat_lit 3) (Ty.int IntKind.i64)) (Ty.sl (nat_lit 3) (Ty.int IntKind.i64)))))) y1 (Int.toNat y2)).2.1.2.2.2.1 (at_ (Ty.pair (Ty.int IntKind.i64) (Ty.pair (Ty.pair (Ty.int IntKind.i64) (Ty.pair (Ty.int IntKind.i64) (Ty.pair (Ty.int IntKind.i64) (Ty.pair (Ty.int IntKind.i64) (Ty.pair (Ty.int IntKind.i64) (Ty.pair (Ty.int IntKind.i64) (Ty.int IntKind.i64))))))) (Ty.pair Ty.bool (Ty.pair (Ty.sl (nat_lit 3) (Ty.int IntKind.i64)) (Ty.sl (nat_lit 3) (Ty.int IntKind.i64)))))) y1 (Int.toNat y2)).2.1.2.2.2.2.1 (at_ (Ty.pair (Ty.int IntKind.i64) (Ty.pair (Ty.pair (Ty.int IntKind.i64) (Ty.pair (Ty.int IntKind.i64) (Ty.pair (Ty.int IntKind.i64) (Ty.pair (Ty.int IntKind.i64) (Ty.pair (Ty.int IntKind.i64) (Ty.pair (Ty.int IntKind.i64) (Ty.int IntKind.i64))))))) (Ty.pair Ty.bool (Ty.pair (Ty.sl (nat_lit 3) (Ty.int IntKind.i64)) (Ty.sl (nat_lit 3) (Ty.int IntKind.i64)))))) y1 (Int.toNat y2)).2.1.2.2.2.2.2.1 (at_ (Ty.pair (Ty.int IntKind.i64) (Ty.pair (Ty.pair (Ty.int IntKind.i64) (Ty.pair (Ty.int IntKind.i64) (Ty.pair (Ty.int IntKind.i64) (Ty.pair (Ty.int IntKind.i64) (Ty.pair (Ty.int IntKind.i64) (Ty.pair (Ty.int IntKind.i64) (Ty.int IntKind.i64))))))) (Ty.pair Ty.bool (Ty.pair (Ty.sl (nat_lit 3) (Ty.int IntKind.i64)) (Ty.sl (nat_lit 3) (Ty.int IntKind.i64)))))) y1 (Int.toNat y2)).2.1.2.2.2.2.2.2 (at_ (Ty.pair (Ty.int IntKind.i64) (Ty.pair (Ty.pair (Ty.int IntKind.i64) (Ty.pair (Ty.int IntKind.i64) (Ty.pair (Ty.int IntKind.i64) (Ty.pair (Ty.int IntKind.i64) (Ty.pair (Ty.int IntKind.i64) (Ty.pair (Ty.int IntKind.i64) (Ty.int IntKind.i64))))))) (Ty.pair Ty.bool (Ty.pair (Ty.sl (nat_lit 3) (Ty.int IntKind.i64)) (Ty.sl (nat_lit 3) (Ty.int IntKind.i64)))))) y1 (Int.toNat y2)).2.2.1 (at_ (Ty.pair (Ty.int IntKind.i64) (Ty.pair (Ty.pair (Ty.int IntKind.i64) (Ty.pair (Ty.int IntKind.i64) (Ty.pair (Ty.int IntKind.i64) (Ty.pair (Ty.int IntKind.i64) (Ty.pair (Ty.int IntKind.i64) (Ty.pair (Ty.int IntKind.i64) (Ty.int IntKind.i64))))))) (Ty.pair Ty.bool (Ty.pair (Ty.sl (nat_lit 3) (Ty.int IntKind.i64)) (Ty.sl (nat_lit 3) (Ty.int IntKind.i64)))))) y1 (Int.toNat y2)).2.2.2.1 (at_ (Ty.pair (Ty.int IntKind.i64) (Ty.pair (Ty.pair (Ty.int IntKind.i64) (Ty.pair (Ty.int IntKind.i64) (Ty.pair (Ty.int IntKind.i64) (Ty.pair (Ty.int IntKind.i64) (Ty.pair (Ty.int IntKind.i64) (Ty.pair (Ty.int IntKind.i64) (Ty.int IntKind.i64))))))) (Ty.pair Ty.bool (Ty.pair (Ty.sl (nat_lit 3) (Ty.int IntKind.i64)) (Ty.sl (nat_lit 3) (Ty.int IntKind.i64)))))) y1 (Int.toNat y2)).2.2.2.2) (.br (!g_Vw_eqFroTx_0 (at_ (Ty.pair (Ty.int IntKind.i64) (Ty.pair (Ty.pair (Ty.int IntKind.i64) (Ty.pair (Ty.int IntKind.i64) (Ty.pair (Ty.int IntKind.i64) (Ty.pair (Ty.int IntKind.i64) (Ty.pair (Ty.int IntKind.i64) (Ty.pair (Ty.int IntKind.i64) (Ty.int IntKind.i64))))))) (Ty.pair Ty.bool (Ty.pair (Ty.sl (nat_lit 3) (Ty.int IntKind.i64)) (Ty.sl (nat_lit 3) (Ty.int IntKind.i64)))))) y0 (Int.toNat y2)).1 (at_ (Ty.pair (Ty.int IntKind.i64) (Ty.pair (Ty.pair (Ty.int IntKind.i64) (Ty.pair (Ty.int IntKind.i64) (Ty.pair (Ty.int IntKind.i64) (Ty.pair (Ty.int IntKind.i64) (Ty.pair (Ty.int IntKind.i64) (Ty.pair (Ty.int IntKind.i64) (Ty.int IntKind.i64))))))) (Ty.pair Ty.bool (Ty.pair (Ty.sl (nat_lit 3) (Ty.int IntKind.i64)) (Ty.sl (nat_lit 3) (Ty.int IntKind.i64)))))) y0 (Int.toNat y2)).2.1.1 (at_ (Ty.pair (Ty.int IntKind.i64) (Ty.pair (Ty.pair (Ty.int IntKind.i64) (Ty.pair (Ty.int IntKind.i64) (Ty.pair (Ty.int IntKind.i64) (Ty.pair (Ty.int IntKind.i64) (Ty.pair (Ty.int IntKind.i64) (Ty.pair (Ty.int IntKind.i64) (Ty.int IntKind.i64))))))) (Ty.pair Ty.bool (Ty.pair (Ty.sl (nat_lit 3) (Ty.int IntKind.i64)) (Ty.sl (nat_lit 3) (Ty.int IntKind.i64)))))) y0 (Int.toNat y2)).2.1.2.1 (at_ (Ty.pair (Ty.int IntKind.i64) (Ty.pair (Ty.pair (Ty.int IntKind.i64) (Ty.pair (Ty.int IntKind.i64) (Ty.pair (Ty.int IntKind.i64) (Ty.pair (Ty.int IntKind.i64) (Ty.pair (Ty.int IntKind.i64) (Ty.pair (Ty.int IntKind.i64) (Ty.int IntKind.i64))))))) (Ty.pair Ty.bool (Ty.pair (Ty.sl (nat_lit 3) (Ty.int IntKind.i64)) (Ty.sl (nat_lit 3) (Ty.int IntKind.i64)))))) y0 (Int.toNat y2)).2.1.2.2.1 (at_ (Ty.pair (Ty.int IntKind.i64) (Ty.pair (Ty.pair (Ty.int IntKind.i64) (Ty.pair (Ty.int IntKind.i64) (Ty.pair (Ty.int IntKind.i64) (Ty.pair (Ty.int IntKind.i64) (Ty.pair (Ty.int IntKind.i64) (Ty.pair (Ty.int IntKind.i64) (Ty.int IntKind.i64))))))) (Ty.pair Ty.bool (Ty.pair (Ty.sl (nat_lit 3) (Ty.int IntKind.i64)) (Ty.sl (nat_lit 3) (Ty.int IntKind.i64)))))) y0 (Int.toNat y2)).2.1.2.2.2.1 (at_ (Ty.pair (Ty.int IntKind.i64) (Ty.pair (Ty.pair (Ty.int IntKind.i64) (Ty.pair (Ty.int IntKind.i64) (Ty.pair (Ty.int IntKind.i64) (Ty.pair (Ty.int IntKind.i64) (Ty.pair (Ty.int IntKind.i64) (Ty.pair (Ty.int IntKind.i64) (Ty.int IntKind.i64))))))) (Ty.pair Ty.bool (Ty.pair (Ty.sl (nat_lit 3) (Ty.int IntKind.i64)) (Ty.sl (nat_lit 3) (Ty.int IntKind.i64)))))) y0 (Int.toNat y2)).2.1.2.2.2.2.1 (at_ (Ty.pair (Ty.int IntKind.i64) (Ty.pair (Ty.pair (Ty.int IntKind.i64) (Ty.pair (Ty.int IntKind.i64) (Ty.pair (Ty.int IntKind.i64) (Ty.pair (Ty.int IntKind.i64) (Ty.pair (Ty.int IntKind.i64) (Ty.pair (Ty.int IntKind.i64) (Ty.int IntKind.i64))))))) (Ty.pair Ty.bool (Ty.pair (Ty.sl (nat_lit 3) (Ty.int IntKind.i64)) (Ty.sl (nat_lit 3) (Ty.int IntKind.i64)))))) y0 (Int.toNat y2)).2.1.2.2.2.2.2.1 (at_ (Ty.pair (Ty.int IntKind.i64) (Ty.pair (Ty.pair (Ty.int IntKind.i64) (Ty.pair (Ty.int IntKind.i64) (Ty.pair (Ty.int IntKind.i64) (Ty.pair (Ty.int IntKind.i64) (Ty.pair (Ty.int IntKind.i64) (Ty.pair (Ty.int IntKind.i64) (Ty.int IntKind.i64))))))) (Ty.pair Ty.bool (Ty.pair (Ty.sl (nat_lit 3) (Ty.int IntKind.i64)) (Ty.sl (nat_lit 3) (Ty.int IntKind.i64)))))) y0 (Int.toNat y2)).2.1.2.2.2.2.2.2 (at_ (Ty.pair (Ty.int IntKind.i64) (Ty.pair (Ty.pair (Ty.int IntKind.i64) (Ty.pair (Ty.int IntKind.i64) (Ty.pair (Ty.int IntKind.i64) (Ty.pair (Ty.int IntKind.i64) (Ty.pair (Ty.int IntKind.i64) (Ty.pair (Ty.int IntKind.i64) (Ty.int IntKind.i64))))))) (Ty.pair Ty.bool (Ty.pair (Ty.sl (nat_lit 3) (Ty.int IntKind.i64)) (Ty.sl (nat_lit 3) (Ty.int IntKind.i64)))))) y0 (Int.toNat y2)).2.2.1 (at_ (Ty.pair (Ty.int IntKind.i64) (Ty.pair (Ty.pair (Ty.int IntKind.i64) (Ty.pair (Ty.int IntKind.i64) (Ty.pair (Ty.int IntKind.i64) (Ty.pair (Ty.int IntKind.i64) (Ty.pair (Ty.int IntKind.i64) (Ty.pair (Ty.int IntKind.i64) (Ty.int IntKind.i64))))))) (Ty.pair Ty.bool (Ty.pair (Ty.sl (nat_lit 3) (Ty.int IntKind.i64)) (Ty.sl (nat_lit 3) (Ty.int IntKind.i64)))))) y0 (Int.toNat y2)).2.2.2.1 (at_ (Ty.pair (Ty.int IntKind.i64) (Ty.pair (Ty.pair (Ty.int IntKind.i64) (Ty.pair (Ty.int IntKind.i64) (Ty.pair (Ty.int IntKind.i64) (Ty.pair (Ty.int IntKind.i64) (Ty.pair (Ty.int IntKind.i64) (Ty.pair (Ty.int IntKind.i64) (Ty.int IntKind.i64))))))) (Ty.pair Ty.bool (Ty.pair (Ty.sl (nat_lit 3) (Ty.int IntKind.i64)) (Ty.sl (nat_lit 3) (Ty.int IntKind.i64)))))) y0 (Int.toNat y2)).2.2.2.2 (at_ (Ty.pair (Ty.int IntKind.i64) (Ty.pair (Ty.pair (Ty.int IntKind.i64) (Ty.pair (Ty.int IntKind.i64) (Ty.pair (Ty.int IntKind.i64) (Ty.pair (Ty.int IntKind.i64) (Ty.pair (Ty.int IntKind.i64) (Ty.pair (Ty.int IntKind.i64) (Ty.int IntKind.i64))))))) (Ty.pair Ty.bool (Ty.pair (Ty.sl (nat_lit 3) (Ty.int IntKind.i64)) (Ty.sl (nat_lit 3) (Ty.int IntKind.i64)))))) y1 (Int.toNat y2)).1 (at_ (Ty.pair (Ty.int IntKind.i64) (Ty.pair (Ty.pair (Ty.int IntKind.i64) (Ty.pair (Ty.int IntKind.i64) (Ty.pair (Ty.int IntKind.i64) (Ty.pair (Ty.int IntKind.i64) (Ty.pair (Ty.int IntKind.i64) (Ty.pair (Ty.int IntKind.i64) (Ty.int IntKind.i64))))))) (Ty.pair Ty.bool (Ty.pair (Ty.sl (nat_lit 3) (Ty.int IntKind.i64)) (Ty.sl (nat_lit 3) (Ty.int IntKind.i64)))))) y1 (Int.toNat y2)).2.1.1 (at_ (Ty.pair (Ty.int IntKind.i64) (Ty.pair (Ty.pair (Ty.int IntKind.i64) (Ty.pair (Ty.int IntKind.i64) (Ty.pair (Ty.int IntKind.i64) (Ty.pair (Ty.int IntKind.i64) (Ty.pair (Ty.int IntKind.i64) (Ty.pair (Ty.int IntKind.i64) (Ty.int IntKind.i64))))))) (Ty.pair Ty.bool (Ty.pair (Ty.sl (nat_lit 3) (Ty.int IntKind.i64)) (Ty.sl (nat_lit 3) (Ty.int IntKind.i64)))))) y1 (Int.toNat y2)).2.1.2.1 (at_ (Ty.pair (Ty.int IntKind.i64) (Ty.pair (Ty.pair (Ty.int IntKind.i64) (Ty.pair (Ty.int IntKind.i64) (Ty.pair (Ty.int IntKind.i64) (Ty.pair (Ty.int IntKind.i64) (Ty.pair (Ty.int IntKind.i64) (Ty.pair (Ty.int IntKind.i64) (Ty.int IntKind.i64))))))) (Ty.pair Ty.bool (Ty.pair (Ty.sl (nat_lit 3) (Ty.int IntKind.i64)) (Ty.sl (nat_lit 3) (Ty.int IntKind.i64)))))) y1 (Int.toNat y2)).2.1.2.2.1 (at_ (Ty.pair (Ty.int IntKind.i64) (Ty.pair (Ty.pair (Ty.int IntKind.i64) (Ty.pair (Ty.int IntKind.i64) (Ty.pair (Ty.int IntKind.i64) (Ty.pair (Ty.int IntKind.i64) (Ty.pair (Ty.int IntKind.i64) (Ty.pair (Ty.int IntKind.i64) (Ty.int IntKind.i64))))))) (Ty.pair Ty.bool (Ty.pair (Ty.sl (nat_lit 3) (Ty.int IntKind.i64)) (Ty.sl (nat_lit 3) (Ty.int IntKind.i64)))))) y1 (Int.toNat y2)).2.1.2.2.2.1 (at_ (Ty.pair (Ty.int IntKind.i64) (Ty.pair (Ty.pair (Ty.int IntKind.i64) (Ty.pair (Ty.int IntKind.i64) (Ty.pair (Ty.int IntKind.i64) (Ty.pair (Ty.int IntKind.i64) (Ty.pair (Ty.int IntKind.i64) (Ty.pair (Ty.int IntKind.i64) (Ty.int IntKind.i64))))))) (Ty.pair Ty.bool (Ty.pair (Ty.sl (nat_lit 3) (Ty.int IntKind.i64)) (Ty.sl (nat_lit 3) (Ty.int IntKind.i64)))))) y1 (Int.toNat y2)).2.1.2.2.2.2.1 (at_ (Ty.pair (Ty.int IntKind.i64) (Ty.pair (Ty.pair (Ty.int IntKind.i64) (Ty.pair (Ty.int IntKind.i64) (Ty.pair (Ty.int IntKind.i64) (Ty.pair (Ty.int IntKind.i64) (Ty.pair (Ty.int IntKind.i64) (Ty.pair (Ty.int IntKind.i64) (Ty.int IntKind.i64))))))) (Ty.pair Ty.bool (Ty.pair (Ty.sl (nat_lit 3) (Ty.int IntKind.i64)) (Ty.sl (nat_lit 3) (Ty.int IntKind.i64)))))) y1 (Int.toNat y2)).2.1.2.2.2.2.2.1 (at_ (Ty.pair (Ty.int IntKind.i64) (Ty.pair (Ty.pair (Ty.int IntKind.i64) (Ty.pair (Ty.int IntKind.i64) (Ty.pair (Ty.int IntKind.i64) (Ty.pair (Ty.int IntKind.i64) (Ty.pair (Ty.int IntKind.i64) (Ty.pair (Ty.int IntKind.i64) (Ty.int IntKind.i64))))))) (Ty.pair Ty.bool (Ty.pair (Ty.sl (nat_lit 3) (Ty.int IntKind.i64)) (Ty.sl (nat_lit 3) (Ty.int IntKind.i64)))))) y1 (Int.toNat y2)).2.1.2.2.2.2.2.2 (at_ (Ty.pair (Ty.int IntKind.i64) (Ty.pair (Ty.pair (Ty.int IntKind.i64) (Ty.pair (Ty.int IntKind.i64) (Ty.pair (Ty.int IntKind.i64) (Ty.pair (Ty.int IntKind.i64) (Ty.pair (Ty.int IntKind.i64) (Ty.pair (Ty.int IntKind.i64) (Ty.int IntKind.i64))))))) (Ty.pair Ty.bool (Ty.pair (Ty.sl (nat_lit 3) (Ty.int IntKind.i64)) (Ty.sl (nat_lit 3) (Ty.int IntKind.i64)))))) y1 (Int.toNat y2)).2.2.1 (at_ (Ty.pair (Ty.int IntKind.i64) (Ty.pair (Ty.pair (Ty.int IntKind.i64) (Ty.pair (Ty.int IntKind.i64) (Ty.pair (Ty.int IntKind.i64) (Ty.pair (Ty.int IntKind.i64) (Ty.pair (Ty.int IntKind.i64) (Ty.pair (Ty.int IntKind.i64) (Ty.int IntKind.i64))))))) (Ty.pair Ty.bool (Ty.pair (Ty.sl (nat_lit 3) (Ty.int IntKind.i64)) (Ty.sl (nat_lit 3) (Ty.int IntKind.i64)))))) y1 (Int.toNat y2)).2.2.2.1 (at_ (Ty.pair (Ty.int IntKind.i64) (Ty.pair (Ty.pair (Ty.int IntKind.i64) (Ty.pair (Ty.int IntKind.i64) (Ty.pair (Ty.int IntKind.i64) (Ty.pair (Ty.int IntKind.i64) (Ty.pair (Ty.int IntKind.i64) (Ty.pair (Ty.int IntKind.i64) (Ty.int IntKind.i64))))))) (Ty.pair Ty.bool (Ty.pair (Ty.sl (nat_lit 3) (Ty.int IntKind.i64)) (Ty.sl (nat_lit 3) (Ty.int IntKind.i64)))))) y1 (Int.toNat y2)).2.2.2.2) (.out (.inl false)) (.br (true) (.go (IntKind.wrap IntKind.i64 (y2 + (1:Int)))) .bad)) .bad) .bad) .bad) (.out (.inr (())))) .bad
noncomputable def g_Lw_eqFroTxS_0 (y0:List (Int×((Int×(Int×(Int×(Int×(Int×(Int×Int))))))×(Bool×((List Int)×(List Int)))))) (y1:List (Int×((Int×(Int×(Int×(Int×(Int×(Int×Int))))))×(Bool×((List Int)×(List Int)))))) (x:Int):Option ((Bool) ⊕ (Unit)) := loopO (g_Sw_eqFroTxS_0 y0 y1) x
noncomputable def xw_eqFroTxS_0 (y0:List (Int×((Int×(Int×(Int×(Int×(Int×(Int×Int))))))×(Bool×((List Int)×(List Int)))))) (y1:List (Int×((Int×(Int×(Int×(Int×(Int×(Int×Int))))))×(Bool×((List Int)×(List Int)))))):((Bool) ⊕ (Unit)) → Ex×List (Pl×LV) := fun
 | .inl r => (.ret,[(.T 4,.t (.val false [.bool r]))])
 | .inr (r) => (.exit 0,[(.T 4,.t (.val false [.undef]))])
noncomputable def Ow_eqFroTxS_1:Orc := fun b h => match b,h with
 | 0,[(.T 0,.t (.val false [.sl .any 66 (.pair (.int .i64) (.pair (.pair (.int .i64) (.pair (.int .i64) (.pair (.int .i64) (.pair (.int .i64) (.pair (.int .i64) (.pair (.int .i64) (.int .i64))))))) (.pair .bool (.pair (.sl 3 (.int .i64)) (.sl 3 (.int .i64)))))) y0])),(.T 1,.t (.val false [.sl .any 66 (.pair (.int .i64) (.pair (.pair (.int .i64) (.pair (.int .i64) (.pair (.int .i64) (.pair (.int .i64) (.pair (.int .i64) (.pair (.int .i64) (.int .i64))))))) (.pair .bool (.pair (.sl 3 (.int .i64)) (.sl 3 (.int .i64)))))) y1])),(.T 5,.t (.val false [.int .i64 y2]))] => some (okO (g_Lw_eqFroTxS_0 y0 y1 y2),(.br (isL (valO (g_Lw_eqFroTxS_0 y0 y1 y2))) (.leaf .ret [(.T 4,.t (.val false [.bool (getL (valO (g_Lw_eqFroTxS_0 y0 y1 y2)))]))]) (.leaf (.exit 0) [(.T 4,.t (.val false [.undef]))])))
 | b,h => Ow_eqFroTxS_0 b h
theorem bw_eqFroTxS_0 (y0:List (Int×((Int×(Int×(Int×(Int×(Int×(Int×Int))))))×(Bool×((List Int)×(List Int)))))) (y1:List (Int×((Int×(Int×(Int×(Int×(Int×(Int×Int))))))×(Bool×((List Int)×(List Int)))))) (y2:Int):Tr.bt Ew_eqFroTxS Ow_eqFroTxS_0 (exec Ew_eqFroTxS 0 cw_eqFroTxS_0 (St.of (hw_eqFroTxS_0 y0 y1 y2)) (leafRd Ew_eqFroTxS 0)) = (g_Sw_eqFroTxS_0 y0 y1 y2).bt (fun (y2:Int) => (hw_eqFroTxS_0 y0 y1 y2)) (xw_eqFroTxS_0 y0 y1) := by kernel_rfl
theorem kw_eqFroTxS_1:OrcOk Ew_eqFroTxS Ow_eqFroTxS_1 lsw_eqFroTxS 1 := orc_add kw_eqFroTxS_0 (fun n p hp h ex h' ho => by
 obtain ⟨b,c⟩ := p
 obtain ⟨xt,h1,h2⟩ := ho
 have h1:Ow_eqFroTxS_1 b h = some (true,xt) := h1
 unfold Ow_eqFroTxS_1 at h1
 split at h1
 ·injection h1 with h1
  injection h1 with e1 e2
  subst e2
  have hc:c = cw_eqFroTxS_0 := mw_eqFroTxS_0 _ hp rfl
  subst hc
  right
  rename_i y0 y1 y2
  have key := LT_step kw_eqFroTxS_0 hp (fun q hq => loopsAll_in _ _ _ _ hp hq) (fun (y2:Int) => (hw_eqFroTxS_0 y0 y1 y2)) (xw_eqFroTxS_0 y0 y1) (g_Sw_eqFroTxS_0 y0 y1) (fun x => by first | exact bw_eqFroTxS_0 y0 y1 x) n (x := y2) (okO_some e1)
  have hx:∀ r,XT.sel (.br (isL r) (.leaf .ret [(.T 4,.t (.val false [.bool (getL r)]))]) (.leaf (.exit 0) [(.T 4,.t (.val false [.undef]))])) = xw_eqFroTxS_0 y0 y1 r := fun r => by first | rfl | (rcases r with r | r <;> rfl) | (rcases r with r | r | r <;> rfl) | (rcases r with r | r | r | r <;> rfl)
  have h3 := (hx (valO (g_Lw_eqFroTxS_0 y0 y1 y2))).symm.trans h2
  have e3 := congrArg Prod.fst h3
  have e4 := congrArg Prod.snd h3
  simp only at e3 e4
  rw [← e3,← e4]
  exact key
 ·exact .inl ⟨xt,h1,h2⟩)
noncomputable def g_Aw_eqFroTxS (a0:List (Int×((Int×(Int×(Int×(Int×(Int×(Int×Int))))))×(Bool×((List Int)×(List Int)))))) (a1:List (Int×((Int×(Int×(Int×(Int×(Int×(Int×Int))))))×(Bool×((List Int)×(List Int)))))):Bool := (↑(List.length a0):Int) != (↑(List.length a1):Int) || okO (g_Lw_eqFroTxS_0 a0 a1 (0:Int))
noncomputable def g_Vw_eqFroTxS_0 (a0:List (Int×((Int×(Int×(Int×(Int×(Int×(Int×Int))))))×(Bool×((List Int)×(List Int)))))) (a1:List (Int×((Int×(Int×(Int×(Int×(Int×(Int×Int))))))×(Bool×((List Int)×(List Int)))))):Bool := bif (↑(List.length a0):Int) != (↑(List.length a1):Int) then false else bif isL (valO (g_Lw_eqFroTxS_0 a0 a1 (0:Int))) then getL (valO (g_Lw_eqFroTxS_0 a0 a1 (0:Int))) else true
noncomputable def Fw_eqFroTxS:FSem := fun ys => match ys with
 | [.val false [.sl .any 66 (.pair (.int .i64) (.pair (.pair (.int .i64) (.pair (.int .i64) (.pair (.int .i64) (.pair (.int .i64) (.pair (.int .i64) (.pair (.int .i64) (.int .i64))))))) (.pair .bool (.pair (.sl 3 (.int .i64)) (.sl 3 (.int .i64)))))) a0],.val false [.sl .any 66 (.pair (.int .i64) (.pair (.pair (.int .i64) (.pair (.int .i64) (.pair (.int .i64) (.pair (.int .i64) (.pair (.int .i64) (.pair (.int .i64) (.int .i64))))))) (.pair .bool (.pair (.sl 3 (.int .i64)) (.sl 3 (.int .i64)))))) a1]] => some ((g_Aw_eqFroTxS a0 a1),.val false [.bool (g_Vw_eqFroTxS_0 a0 a1)],[])
 | _ => none
theorem vw_eqFroTxS (a0:List (Int×((Int×(Int×(Int×(Int×(Int×(Int×Int))))))×(Bool×((List Int)×(List Int)))))) (a1:List (Int×((Int×(Int×(Int×(Int×(Int×(Int×Int))))))×(Bool×((List Int)×(List Int)))))):collapseH .std Ew_eqFroTxS Ow_eqFroTxS_1 (execFn Ew_eqFroTxS Try.f25 msw_eqFroTxS [.val false [.sl .any 66 (.pair (.int .i64) (.pair (.pair (.int .i64) (.pair (.int .i64) (.pair (.int .i64) (.pair (.int .i64) (.pair (.int .i64) (.pair (.int .i64) (.int .i64))))))) (.pair .bool (.pair (.sl 3 (.int .i64)) (.sl 3 (.int .i64)))))) a0],.val false [.sl .any 66 (.pair (.int .i64) (.pair (.pair (.int .i64) (.pair (.int .i64) (.pair (.int .i64) (.pair (.int .i64) (.pair (.int .i64) (.pair (.int .i64) (.int .i64))))))) (.pair .bool (.pair (.sl 3 (.int .i64)) (.sl 3 (.int .i64)))))) a1]]) = some ((g_Aw_eqFroTxS a0 a1),.val false [.bool (g_Vw_eqFroTxS_0 a0 a1)],[]) := by kernel_rfl
theorem sw_eqFroTxS:Sound Try.prog 25 msw_eqFroTxS Fw_eqFroTxS := by
 refine fn_gen goodw_eqFroTxS (by kernel_rfl) .std (fn := Try.f25) (c := (Try.f25.body.getD .skip)) (o := Ow_eqFroTxS_1) (k := 1) (by kernel_rfl) (by kernel_rfl) (by kernel_rfl) (by kernel_rfl) (by decide) kw_eqFroTxS_1 ?_
 intro ys r outs h
 unfold Fw_eqFroTxS at h
 split at h
 ·exact (vw_eqFroTxS _ _).trans h
 ·cases h
noncomputable def Ew_eqStoWrite:Env where
 tt := mkTI Try.prog
 fn := fun f => match f with
  | 44 => some (msw_eqIntS,FSem.wk msw_eqIntS Fw_eqIntS)
  | _ => none
 bxf := fun _ => none
 mv := []
 keep := fun _ => []
 keepB := fun _ => []
 keepX := fun _ => []
 keepXB := fun _ => []
theorem goodFw_eqStoWrite:∀ f ms F,Ew_eqStoWrite.fn f = some (ms,F) → Sound Try.prog f ms F := fun f ms F h => by
 unfold Ew_eqStoWrite at h
 dsimp only at h
 split at h
 ·injection h with h; injection h with e1 e2; subst e1 e2; exact Sound.wk sw_eqIntS
 ·cases h
theorem goodBw_eqStoWrite:∀ f ms F,Ew_eqStoWrite.bxf f = some (ms,F) → SoundB Try.prog f ms F := fun f ms F h => by cases h
theorem goodw_eqStoWrite:Good Try.prog Ew_eqStoWrite := ⟨rfl,goodFw_eqStoWrite,goodBw_eqStoWrite⟩
noncomputable def Ow_eqStoWrite_0:Orc := fun _ _ => none
noncomputable def msw_eqStoWrite:List PM := [.rd,.rd]
noncomputable def lsw_eqStoWrite:List (Nat×Code) := loopsAll 0 (Try.f48.body.getD .skip)
theorem kw_eqStoWrite_0:OrcOk Ew_eqStoWrite Ow_eqStoWrite_0 lsw_eqStoWrite 0 := orcOk_none
noncomputable def g_Aw_eqStoWrite (a0:ByteArray) (a1:Bool) (a2:List Int) (a3:ByteArray) (a4:Bool) (a5:List Int):Bool := !ByteArray.toList a0 == ByteArray.toList a3 || (!a1 == a4 || g_Aw_eqIntS a2 a5)
noncomputable def g_Vw_eqStoWrite_0 (a0:ByteArray) (a1:Bool) (a2:List Int) (a3:ByteArray) (a4:Bool) (a5:List Int):Bool := bif !ByteArray.toList a0 == ByteArray.toList a3 then false else bif !a1 == a4 then false else bif !g_Vw_eqIntS_0 a2 a5 then false else true
noncomputable def Fw_eqStoWrite:FSem := fun ys => match ys with
 | [.val true [.str a0,.bool a1,.sl .any 3 (.int .i64) a2],.val true [.str a3,.bool a4,.sl .any 3 (.int .i64) a5]] => some ((g_Aw_eqStoWrite a0 a1 a2 a3 a4 a5),.val false [.bool (g_Vw_eqStoWrite_0 a0 a1 a2 a3 a4 a5)],[])
 | _ => none
theorem vw_eqStoWrite (a0:ByteArray) (a1:Bool) (a2:List Int) (a3:ByteArray) (a4:Bool) (a5:List Int):collapseH .std Ew_eqStoWrite Ow_eqStoWrite_0 (execFn Ew_eqStoWrite Try.f48 msw_eqStoWrite [.val true [.str a0,.bool a1,.sl .any 3 (.int .i64) a2],.val true [.str a3,.bool a4,.sl .any 3 (.int .i64) a5]]) = some ((g_Aw_eqStoWrite a0 a1 a2 a3 a4 a5),.val false [.bool (g_Vw_eqStoWrite_0 a0 a1 a2 a3 a4 a5)],[]) := by kernel_rfl
theorem sw_eqStoWrite:Sound Try.prog 48 msw_eqStoWrite Fw_eqStoWrite := by
 refine fn_gen goodw_eqStoWrite (by kernel_rfl) .std (fn := Try.f48) (c := (Try.f48.body.getD .skip)) (o := Ow_eqStoWrite_0) (k := 0) (by kernel_rfl) (by kernel_rfl) (by kernel_rfl) (by kernel_rfl) (by decide) kw_eqStoWrite_0 ?_
 intro ys r outs h
 unfold Fw_eqStoWrite at h
 split at h
 ·exact (vw_eqStoWrite _ _ _ _ _ _).trans h
 ·cases h
noncomputable def Ew_eqStoWriteS:Env where
 tt := mkTI Try.prog
 fn := fun f => match f with
  | 48 => some (msw_eqStoWrite,FSem.wk msw_eqStoWrite Fw_eqStoWrite)
  | _ => none
 bxf := fun _ => none
 mv := []
 keep := fun b => match b with
  | 0 => [(0,false),(1,false),(5,false)]
  | _ => []
 keepB := fun b => match b with
  | 0 => []
  | _ => []
 keepX := fun b => match b with
  | 0 => [(4,false)]
  | _ => []
 keepXB := fun b => match b with
  | 0 => []
  | _ => []
theorem goodFw_eqStoWriteS:∀ f ms F,Ew_eqStoWriteS.fn f = some (ms,F) → Sound Try.prog f ms F := fun f ms F h => by
 unfold Ew_eqStoWriteS at h
 dsimp only at h
 split at h
 ·injection h with h; injection h with e1 e2; subst e1 e2; exact Sound.wk sw_eqStoWrite
 ·cases h
theorem goodBw_eqStoWriteS:∀ f ms F,Ew_eqStoWriteS.bxf f = some (ms,F) → SoundB Try.prog f ms F := fun f ms F h => by cases h
theorem goodw_eqStoWriteS:Good Try.prog Ew_eqStoWriteS := ⟨rfl,goodFw_eqStoWriteS,goodBw_eqStoWriteS⟩
noncomputable def Ow_eqStoWriteS_0:Orc := fun _ _ => none
noncomputable def msw_eqStoWriteS:List PM := [.rd,.rd]
noncomputable def lsw_eqStoWriteS:List (Nat×Code) := loopsAll 0 (Try.f47.body.getD .skip)
noncomputable def cw_eqStoWriteS_0:Code := (loopOf 0 (Try.f47.body.getD .skip)).getD .skip
theorem lseqw_eqStoWriteS:lsw_eqStoWriteS = [(0,cw_eqStoWriteS_0)] := by kernel_rfl
theorem mw_eqStoWriteS_0:∀ p,p ∈ lsw_eqStoWriteS → p.1 = 0 → p.2 = cw_eqStoWriteS_0 := by
 intro p hp
 rw [lseqw_eqStoWriteS] at hp
 simp only [List.mem_cons,List.not_mem_nil,or_false] at hp
 subst hp; simp
theorem kw_eqStoWriteS_0:OrcOk Ew_eqStoWriteS Ow_eqStoWriteS_0 lsw_eqStoWriteS 0 := orcOk_none
noncomputable def hw_eqStoWriteS_0 (y0:List (ByteArray×(Bool×(List Int)))) (y1:List (ByteArray×(Bool×(List Int)))) (y2:Int):List (Pl×LV) := [(.T 0,.t (.val false [.sl .any 78 (.pair .str (.pair .bool (.sl 3 (.int .i64)))) y0])),(.T 1,.t (.val false [.sl .any 78 (.pair .str (.pair .bool (.sl 3 (.int .i64)))) y1])),(.T 5,.t (.val false [.int .i64 y2]))]
noncomputable def g_Sw_eqStoWriteS_0 (y0:List (ByteArray×(Bool×(List Int)))) (y1:List (ByteArray×(Bool×(List Int)))):(Int) → RT (Int) ((Bool) ⊕ (Unit))
 | y2 => .br (true) (.br (decide (y2 < (↑(List.length y0):Int))) (.br (decide ((0:Int) ≤ y2 ∧ y2 < (↑(List.length y0):Int))) (.br (decide ((0:Int) ≤ y2 ∧ y2 < (↑(List.length y1):Int))) (.br (g_Aw_eqStoWrite (at_ (Ty.pair Ty.str (Ty.pair Ty.bool (Ty.sl (nat_lit 3) (Ty.int IntKind.i64)))) y0 (Int.toNat y2)).1 (at_ (Ty.pair Ty.str (Ty.pair Ty.bool (Ty.sl (nat_lit 3) (Ty.int IntKind.i64)))) y0 (Int.toNat y2)).2.1 (at_ (Ty.pair Ty.str (Ty.pair Ty.bool (Ty.sl (nat_lit 3) (Ty.int IntKind.i64)))) y0 (Int.toNat y2)).2.2 (at_ (Ty.pair Ty.str (Ty.pair Ty.bool (Ty.sl (nat_lit 3) (Ty.int IntKind.i64)))) y1 (Int.toNat y2)).1 (at_ (Ty.pair Ty.str (Ty.pair Ty.bool (Ty.sl (nat_lit 3) (Ty.int IntKind.i64)))) y1 (Int.toNat y2)).2.1 (at_ (Ty.pair Ty.str (Ty.pair Ty.bool (Ty.sl (nat_lit 3) (Ty.int IntKind.i64)))) y1 (Int.toNat y2)).2.2) (.br (!g_Vw_eqStoWrite_0 (at_ (Ty.pair Ty.str (Ty.pair Ty.bool (Ty.sl (nat_lit 3) (Ty.int IntKind.i64)))) y0 (Int.toNat y2)).1 (at_ (Ty.pair Ty.str (Ty.pair Ty.bool (Ty.sl (nat_lit 3) (Ty.int IntKind.i64)))) y0 (Int.toNat y2)).2.1 (at_ (Ty.pair Ty.str (Ty.pair Ty.bool (Ty.sl (nat_lit 3) (Ty.int IntKind.i64)))) y0 (Int.toNat y2)).2.2 (at_ (Ty.pair Ty.str (Ty.pair Ty.bool (Ty.sl (nat_lit 3) (Ty.int IntKind.i64)))) y1 (Int.toNat y2)).1 (at_ (Ty.pair Ty.str (Ty.pair Ty.bool (Ty.sl (nat_lit 3) (Ty.int IntKind.i64)))) y1 (Int.toNat y2)).2.1 (at_ (Ty.pair Ty.str (Ty.pair Ty.bool (Ty.sl (nat_lit 3) (Ty.int IntKind.i64)))) y1 (Int.toNat y2)).2.2) (.out (.inl false)) (.br (true) (.go (IntKind.wrap IntKind.i64 (y2 + (1:Int)))) .bad)) .bad) .bad) .bad) (.out (.inr (())))) .bad
noncomputable def g_Lw_eqStoWriteS_0 (y0:List (ByteArray×(Bool×(List Int)))) (y1:List (ByteArray×(Bool×(List Int)))) (x:Int):Option ((Bool) ⊕ (Unit)) := loopO (g_Sw_eqStoWriteS_0 y0 y1) x
noncomputable def xw_eqStoWriteS_0 (y0:List (ByteArray×(Bool×(List Int)))) (y1:List (ByteArray×(Bool×(List Int)))):((Bool) ⊕ (Unit)) → Ex×List (Pl×LV) := fun
 | .inl r => (.ret,[(.T 4,.t (.val false [.bool r]))])
 | .inr (r) => (.exit 0,[(.T 4,.t (.val false [.undef]))])
noncomputable def Ow_eqStoWriteS_1:Orc := fun b h => match b,h with
 | 0,[(.T 0,.t (.val false [.sl .any 78 (.pair .str (.pair .bool (.sl 3 (.int .i64)))) y0])),(.T 1,.t (.val false [.sl .any 78 (.pair .str (.pair .bool (.sl 3 (.int .i64)))) y1])),(.T 5,.t (.val false [.int .i64 y2]))] => some (okO (g_Lw_eqStoWriteS_0 y0 y1 y2),(.br (isL (valO (g_Lw_eqStoWriteS_0 y0 y1 y2))) (.leaf .ret [(.T 4,.t (.val false [.bool (getL (valO (g_Lw_eqStoWriteS_0 y0 y1 y2)))]))]) (.leaf (.exit 0) [(.T 4,.t (.val false [.undef]))])))
 | b,h => Ow_eqStoWriteS_0 b h
theorem bw_eqStoWriteS_0 (y0:List (ByteArray×(Bool×(List Int)))) (y1:List (ByteArray×(Bool×(List Int)))) (y2:Int):Tr.bt Ew_eqStoWriteS Ow_eqStoWriteS_0 (exec Ew_eqStoWriteS 0 cw_eqStoWriteS_0 (St.of (hw_eqStoWriteS_0 y0 y1 y2)) (leafRd Ew_eqStoWriteS 0)) = (g_Sw_eqStoWriteS_0 y0 y1 y2).bt (fun (y2:Int) => (hw_eqStoWriteS_0 y0 y1 y2)) (xw_eqStoWriteS_0 y0 y1) := by kernel_rfl
theorem kw_eqStoWriteS_1:OrcOk Ew_eqStoWriteS Ow_eqStoWriteS_1 lsw_eqStoWriteS 1 := orc_add kw_eqStoWriteS_0 (fun n p hp h ex h' ho => by
 obtain ⟨b,c⟩ := p
 obtain ⟨xt,h1,h2⟩ := ho
 have h1:Ow_eqStoWriteS_1 b h = some (true,xt) := h1
 unfold Ow_eqStoWriteS_1 at h1
 split at h1
 ·injection h1 with h1
  injection h1 with e1 e2
  subst e2
  have hc:c = cw_eqStoWriteS_0 := mw_eqStoWriteS_0 _ hp rfl
  subst hc
  right
  rename_i y0 y1 y2
  have key := LT_step kw_eqStoWriteS_0 hp (fun q hq => loopsAll_in _ _ _ _ hp hq) (fun (y2:Int) => (hw_eqStoWriteS_0 y0 y1 y2)) (xw_eqStoWriteS_0 y0 y1) (g_Sw_eqStoWriteS_0 y0 y1) (fun x => by first | exact bw_eqStoWriteS_0 y0 y1 x) n (x := y2) (okO_some e1)
  have hx:∀ r,XT.sel (.br (isL r) (.leaf .ret [(.T 4,.t (.val false [.bool (getL r)]))]) (.leaf (.exit 0) [(.T 4,.t (.val false [.undef]))])) = xw_eqStoWriteS_0 y0 y1 r := fun r => by first | rfl | (rcases r with r | r <;> rfl) | (rcases r with r | r | r <;> rfl) | (rcases r with r | r | r | r <;> rfl)
  have h3 := (hx (valO (g_Lw_eqStoWriteS_0 y0 y1 y2))).symm.trans h2
  have e3 := congrArg Prod.fst h3
  have e4 := congrArg Prod.snd h3
  simp only at e3 e4
  rw [← e3,← e4]
  exact key
 ·exact .inl ⟨xt,h1,h2⟩)
noncomputable def g_Aw_eqStoWriteS (a0:List (ByteArray×(Bool×(List Int)))) (a1:List (ByteArray×(Bool×(List Int)))):Bool := (↑(List.length a0):Int) != (↑(List.length a1):Int) || okO (g_Lw_eqStoWriteS_0 a0 a1 (0:Int))
noncomputable def g_Vw_eqStoWriteS_0 (a0:List (ByteArray×(Bool×(List Int)))) (a1:List (ByteArray×(Bool×(List Int)))):Bool := bif (↑(List.length a0):Int) != (↑(List.length a1):Int) then false else bif isL (valO (g_Lw_eqStoWriteS_0 a0 a1 (0:Int))) then getL (valO (g_Lw_eqStoWriteS_0 a0 a1 (0:Int))) else true
noncomputable def Fw_eqStoWriteS:FSem := fun ys => match ys with
 | [.val false [.sl .any 78 (.pair .str (.pair .bool (.sl 3 (.int .i64)))) a0],.val false [.sl .any 78 (.pair .str (.pair .bool (.sl 3 (.int .i64)))) a1]] => some ((g_Aw_eqStoWriteS a0 a1),.val false [.bool (g_Vw_eqStoWriteS_0 a0 a1)],[])
 | _ => none
theorem vw_eqStoWriteS (a0:List (ByteArray×(Bool×(List Int)))) (a1:List (ByteArray×(Bool×(List Int)))):collapseH .std Ew_eqStoWriteS Ow_eqStoWriteS_1 (execFn Ew_eqStoWriteS Try.f47 msw_eqStoWriteS [.val false [.sl .any 78 (.pair .str (.pair .bool (.sl 3 (.int .i64)))) a0],.val false [.sl .any 78 (.pair .str (.pair .bool (.sl 3 (.int .i64)))) a1]]) = some ((g_Aw_eqStoWriteS a0 a1),.val false [.bool (g_Vw_eqStoWriteS_0 a0 a1)],[]) := by kernel_rfl
theorem sw_eqStoWriteS:Sound Try.prog 47 msw_eqStoWriteS Fw_eqStoWriteS := by
 refine fn_gen goodw_eqStoWriteS (by kernel_rfl) .std (fn := Try.f47) (c := (Try.f47.body.getD .skip)) (o := Ow_eqStoWriteS_1) (k := 1) (by kernel_rfl) (by kernel_rfl) (by kernel_rfl) (by kernel_rfl) (by decide) kw_eqStoWriteS_1 ?_
 intro ys r outs h
 unfold Fw_eqStoWriteS at h
 split at h
 ·exact (vw_eqStoWriteS _ _).trans h
 ·cases h
noncomputable def Ew_eqStringS:Env where
 tt := mkTI Try.prog
 fn := fun _ => none
 bxf := fun _ => none
 mv := []
 keep := fun b => match b with
  | 0 => [(0,false),(1,false),(5,false)]
  | _ => []
 keepB := fun b => match b with
  | 0 => []
  | _ => []
 keepX := fun b => match b with
  | 0 => [(4,false)]
  | _ => []
 keepXB := fun b => match b with
  | 0 => []
  | _ => []
theorem goodFw_eqStringS:∀ f ms F,Ew_eqStringS.fn f = some (ms,F) → Sound Try.prog f ms F := fun f ms F h => by cases h
theorem goodBw_eqStringS:∀ f ms F,Ew_eqStringS.bxf f = some (ms,F) → SoundB Try.prog f ms F := fun f ms F h => by cases h
theorem goodw_eqStringS:Good Try.prog Ew_eqStringS := ⟨rfl,goodFw_eqStringS,goodBw_eqStringS⟩
noncomputable def Ow_eqStringS_0:Orc := fun _ _ => none
noncomputable def msw_eqStringS:List PM := [.rd,.rd]
noncomputable def lsw_eqStringS:List (Nat×Code) := loopsAll 0 (Try.f46.body.getD .skip)
noncomputable def cw_eqStringS_0:Code := (loopOf 0 (Try.f46.body.getD .skip)).getD .skip
theorem lseqw_eqStringS:lsw_eqStringS = [(0,cw_eqStringS_0)] := by kernel_rfl
theorem mw_eqStringS_0:∀ p,p ∈ lsw_eqStringS → p.1 = 0 → p.2 = cw_eqStringS_0 := by
 intro p hp
 rw [lseqw_eqStringS] at hp
 simp only [List.mem_cons,List.not_mem_nil,or_false] at hp
 subst hp; simp
theorem kw_eqStringS_0:OrcOk Ew_eqStringS Ow_eqStringS_0 lsw_eqStringS 0 := orcOk_none
noncomputable def hw_eqStringS_0 (y0:List ByteArray) (y1:List ByteArray) (y2:Int):List (Pl×LV) := [(.T 0,.t (.val false [.sl .any 9 .str y0])),(.T 1,.t (.val false [.sl .any 9 .str y1])),(.T 5,.t (.val false [.int .i64 y2]))]
noncomputable def g_Sw_eqStringS_0 (y0:List ByteArray) (y1:List ByteArray):(Int) → RT (Int) ((Bool) ⊕ (Unit))
 | y2 => .br (true) (.br (decide (y2 < (↑(List.length y0):Int))) (.br (decide ((0:Int) ≤ y2 ∧ y2 < (↑(List.length y0):Int))) (.br (decide ((0:Int) ≤ y2 ∧ y2 < (↑(List.length y1):Int))) (.br (true) (.br (!ByteArray.toList (at_ Ty.str y0 (Int.toNat y2)) == ByteArray.toList (at_ Ty.str y1 (Int.toNat y2))) (.out (.inl false)) (.br (true) (.go (IntKind.wrap IntKind.i64 (y2 + (1:Int)))) .bad)) .bad) .bad) .bad) (.out (.inr (())))) .bad
noncomputable def g_Lw_eqStringS_0 (y0:List ByteArray) (y1:List ByteArray) (x:Int):Option ((Bool) ⊕ (Unit)) := loopO (g_Sw_eqStringS_0 y0 y1) x
noncomputable def xw_eqStringS_0 (y0:List ByteArray) (y1:List ByteArray):((Bool) ⊕ (Unit)) → Ex×List (Pl×LV) := fun
 | .inl r => (.ret,[(.T 4,.t (.val false [.bool r]))])
 | .inr (r) => (.exit 0,[(.T 4,.t (.val false [.undef]))])
noncomputable def Ow_eqStringS_1:Orc := fun b h => match b,h with
 | 0,[(.T 0,.t (.val false [.sl .any 9 .str y0])),(.T 1,.t (.val false [.sl .any 9 .str y1])),(.T 5,.t (.val false [.int .i64 y2]))] => some (okO (g_Lw_eqStringS_0 y0 y1 y2),(.br (isL (valO (g_Lw_eqStringS_0 y0 y1 y2))) (.leaf .ret [(.T 4,.t (.val false [.bool (getL (valO (g_Lw_eqStringS_0 y0 y1 y2)))]))]) (.leaf (.exit 0) [(.T 4,.t (.val false [.undef]))])))
 | b,h => Ow_eqStringS_0 b h
theorem bw_eqStringS_0 (y0:List ByteArray) (y1:List ByteArray) (y2:Int):Tr.bt Ew_eqStringS Ow_eqStringS_0 (exec Ew_eqStringS 0 cw_eqStringS_0 (St.of (hw_eqStringS_0 y0 y1 y2)) (leafRd Ew_eqStringS 0)) = (g_Sw_eqStringS_0 y0 y1 y2).bt (fun (y2:Int) => (hw_eqStringS_0 y0 y1 y2)) (xw_eqStringS_0 y0 y1) := by kernel_rfl
theorem kw_eqStringS_1:OrcOk Ew_eqStringS Ow_eqStringS_1 lsw_eqStringS 1 := orc_add kw_eqStringS_0 (fun n p hp h ex h' ho => by
 obtain ⟨b,c⟩ := p
 obtain ⟨xt,h1,h2⟩ := ho
 have h1:Ow_eqStringS_1 b h = some (true,xt) := h1
 unfold Ow_eqStringS_1 at h1
 split at h1
 ·injection h1 with h1
  injection h1 with e1 e2
  subst e2
  have hc:c = cw_eqStringS_0 := mw_eqStringS_0 _ hp rfl
  subst hc
  right
  rename_i y0 y1 y2
  have key := LT_step kw_eqStringS_0 hp (fun q hq => loopsAll_in _ _ _ _ hp hq) (fun (y2:Int) => (hw_eqStringS_0 y0 y1 y2)) (xw_eqStringS_0 y0 y1) (g_Sw_eqStringS_0 y0 y1) (fun x => by first | exact bw_eqStringS_0 y0 y1 x) n (x := y2) (okO_some e1)
  have hx:∀ r,XT.sel (.br (isL r) (.leaf .ret [(.T 4,.t (.val false [.bool (getL r)]))]) (.leaf (.exit 0) [(.T 4,.t (.val false [.undef]))])) = xw_eqStringS_0 y0 y1 r := fun r => by first | rfl | (rcases r with r | r <;> rfl) | (rcases r with r | r | r <;> rfl) | (rcases r with r | r | r | r <;> rfl)
  have h3 := (hx (valO (g_Lw_eqStringS_0 y0 y1 y2))).symm.trans h2
  have e3 := congrArg Prod.fst h3
  have e4 := congrArg Prod.snd h3
  simp only at e3 e4
  rw [← e3,← e4]
  exact key
 ·exact .inl ⟨xt,h1,h2⟩)
noncomputable def g_Aw_eqStringS (a0:List ByteArray) (a1:List ByteArray):Bool := (↑(List.length a0):Int) != (↑(List.length a1):Int) || okO (g_Lw_eqStringS_0 a0 a1 (0:Int))
noncomputable def g_Vw_eqStringS_0 (a0:List ByteArray) (a1:List ByteArray):Bool := bif (↑(List.length a0):Int) != (↑(List.length a1):Int) then false else bif isL (valO (g_Lw_eqStringS_0 a0 a1 (0:Int))) then getL (valO (g_Lw_eqStringS_0 a0 a1 (0:Int))) else true
noncomputable def Fw_eqStringS:FSem := fun ys => match ys with
 | [.val false [.sl .any 9 .str a0],.val false [.sl .any 9 .str a1]] => some ((g_Aw_eqStringS a0 a1),.val false [.bool (g_Vw_eqStringS_0 a0 a1)],[])
 | _ => none
theorem vw_eqStringS (a0:List ByteArray) (a1:List ByteArray):collapseH .std Ew_eqStringS Ow_eqStringS_1 (execFn Ew_eqStringS Try.f46 msw_eqStringS [.val false [.sl .any 9 .str a0],.val false [.sl .any 9 .str a1]]) = some ((g_Aw_eqStringS a0 a1),.val false [.bool (g_Vw_eqStringS_0 a0 a1)],[]) := by kernel_rfl
theorem sw_eqStringS:Sound Try.prog 46 msw_eqStringS Fw_eqStringS := by
 refine fn_gen goodw_eqStringS (by kernel_rfl) .std (fn := Try.f46) (c := (Try.f46.body.getD .skip)) (o := Ow_eqStringS_1) (k := 1) (by kernel_rfl) (by kernel_rfl) (by kernel_rfl) (by kernel_rfl) (by decide) kw_eqStringS_1 ?_
 intro ys r outs h
 unfold Fw_eqStringS at h
 split at h
 ·exact (vw_eqStringS _ _).trans h
 ·cases h
noncomputable def Ew_eqLogNote:Env where
 tt := mkTI Try.prog
 fn := fun f => match f with
  | 46 => some (msw_eqStringS,FSem.wk msw_eqStringS Fw_eqStringS)
  | 47 => some (msw_eqStoWriteS,FSem.wk msw_eqStoWriteS Fw_eqStoWriteS)
  | _ => none
 bxf := fun _ => none
 mv := []
 keep := fun _ => []
 keepB := fun _ => []
 keepX := fun _ => []
 keepXB := fun _ => []
theorem goodFw_eqLogNote:∀ f ms F,Ew_eqLogNote.fn f = some (ms,F) → Sound Try.prog f ms F := fun f ms F h => by
 unfold Ew_eqLogNote at h
 dsimp only at h
 split at h
 ·injection h with h; injection h with e1 e2; subst e1 e2; exact Sound.wk sw_eqStringS
 ·injection h with h; injection h with e1 e2; subst e1 e2; exact Sound.wk sw_eqStoWriteS
 ·cases h
theorem goodBw_eqLogNote:∀ f ms F,Ew_eqLogNote.bxf f = some (ms,F) → SoundB Try.prog f ms F := fun f ms F h => by cases h
theorem goodw_eqLogNote:Good Try.prog Ew_eqLogNote := ⟨rfl,goodFw_eqLogNote,goodBw_eqLogNote⟩
noncomputable def Ow_eqLogNote_0:Orc := fun _ _ => none
noncomputable def msw_eqLogNote:List PM := [.rd,.rd]
noncomputable def lsw_eqLogNote:List (Nat×Code) := loopsAll 0 (Try.f43.body.getD .skip)
theorem kw_eqLogNote_0:OrcOk Ew_eqLogNote Ow_eqLogNote_0 lsw_eqLogNote 0 := orcOk_none
noncomputable def g_Aw_eqLogNote (a0:Int) (a1:Int) (a2:List ByteArray) (a3:List (ByteArray×(Bool×(List Int)))) (a4:Int) (a5:Int) (a6:List ByteArray) (a7:List (ByteArray×(Bool×(List Int)))):Bool := a0 != a4 || (a1 != a5 || g_Aw_eqStringS a2 a6&&(!g_Vw_eqStringS_0 a2 a6 || g_Aw_eqStoWriteS a3 a7))
noncomputable def g_Vw_eqLogNote_0 (a0:Int) (a1:Int) (a2:List ByteArray) (a3:List (ByteArray×(Bool×(List Int)))) (a4:Int) (a5:Int) (a6:List ByteArray) (a7:List (ByteArray×(Bool×(List Int)))):Bool := bif a0 != a4 then false else bif a1 != a5 then false else bif !g_Vw_eqStringS_0 a2 a6 then false else bif !g_Vw_eqStoWriteS_0 a3 a7 then false else true
noncomputable def Fw_eqLogNote:FSem := fun ys => match ys with
 | [.val true [.int .i64 a0,.int .i64 a1,.sl .any 9 .str a2,.sl .any 78 (.pair .str (.pair .bool (.sl 3 (.int .i64)))) a3],.val true [.int .i64 a4,.int .i64 a5,.sl .any 9 .str a6,.sl .any 78 (.pair .str (.pair .bool (.sl 3 (.int .i64)))) a7]] => some ((g_Aw_eqLogNote a0 a1 a2 a3 a4 a5 a6 a7),.val false [.bool (g_Vw_eqLogNote_0 a0 a1 a2 a3 a4 a5 a6 a7)],[])
 | _ => none
theorem vw_eqLogNote (a0:Int) (a1:Int) (a2:List ByteArray) (a3:List (ByteArray×(Bool×(List Int)))) (a4:Int) (a5:Int) (a6:List ByteArray) (a7:List (ByteArray×(Bool×(List Int)))):collapseH .std Ew_eqLogNote Ow_eqLogNote_0 (execFn Ew_eqLogNote Try.f43 msw_eqLogNote [.val true [.int .i64 a0,.int .i64 a1,.sl .any 9 .str a2,.sl .any 78 (.pair .str (.pair .bool (.sl 3 (.int .i64)))) a3],.val true [.int .i64 a4,.int .i64 a5,.sl .any 9 .str a6,.sl .any 78 (.pair .str (.pair .bool (.sl 3 (.int .i64)))) a7]]) = some ((g_Aw_eqLogNote a0 a1 a2 a3 a4 a5 a6 a7),.val false [.bool (g_Vw_eqLogNote_0 a0 a1 a2 a3 a4 a5 a6 a7)],[]) := by kernel_rfl
theorem sw_eqLogNote:Sound Try.prog 43 msw_eqLogNote Fw_eqLogNote := by
 refine fn_gen goodw_eqLogNote (by kernel_rfl) .std (fn := Try.f43) (c := (Try.f43.body.getD .skip)) (o := Ow_eqLogNote_0) (k := 0) (by kernel_rfl) (by kernel_rfl) (by kernel_rfl) (by kernel_rfl) (by decide) kw_eqLogNote_0 ?_
 intro ys r outs h
 unfold Fw_eqLogNote at h
 split at h
 ·exact (vw_eqLogNote _ _ _ _ _ _ _ _).trans h
 ·cases h
noncomputable def Ew_eqLogNoteS:Env where
 tt := mkTI Try.prog
 fn := fun f => match f with
  | 43 => some (msw_eqLogNote,FSem.wk msw_eqLogNote Fw_eqLogNote)
  | _ => none
 bxf := fun _ => none
 mv := []
 keep := fun b => match b with
  | 0 => [(0,false),(1,false),(5,false)]
  | _ => []
 keepB := fun b => match b with
  | 0 => []
  | _ => []
 keepX := fun b => match b with
  | 0 => [(4,false)]
  | _ => []
 keepXB := fun b => match b with
  | 0 => []
  | _ => []
theorem goodFw_eqLogNoteS:∀ f ms F,Ew_eqLogNoteS.fn f = some (ms,F) → Sound Try.prog f ms F := fun f ms F h => by
 unfold Ew_eqLogNoteS at h
 dsimp only at h
 split at h
 ·injection h with h; injection h with e1 e2; subst e1 e2; exact Sound.wk sw_eqLogNote
 ·cases h
theorem goodBw_eqLogNoteS:∀ f ms F,Ew_eqLogNoteS.bxf f = some (ms,F) → SoundB Try.prog f ms F := fun f ms F h => by cases h
theorem goodw_eqLogNoteS:Good Try.prog Ew_eqLogNoteS := ⟨rfl,goodFw_eqLogNoteS,goodBw_eqLogNoteS⟩
noncomputable def Ow_eqLogNoteS_0:Orc := fun _ _ => none
noncomputable def msw_eqLogNoteS:List PM := [.rd,.rd]
noncomputable def lsw_eqLogNoteS:List (Nat×Code) := loopsAll 0 (Try.f35.body.getD .skip)
noncomputable def cw_eqLogNoteS_0:Code := (loopOf 0 (Try.f35.body.getD .skip)).getD .skip
theorem lseqw_eqLogNoteS:lsw_eqLogNoteS = [(0,cw_eqLogNoteS_0)] := by kernel_rfl
theorem mw_eqLogNoteS_0:∀ p,p ∈ lsw_eqLogNoteS → p.1 = 0 → p.2 = cw_eqLogNoteS_0 := by
 intro p hp
 rw [lseqw_eqLogNoteS] at hp
 simp only [List.mem_cons,List.not_mem_nil,or_false] at hp
 subst hp; simp
theorem kw_eqLogNoteS_0:OrcOk Ew_eqLogNoteS Ow_eqLogNoteS_0 lsw_eqLogNoteS 0 := orcOk_none
noncomputable def hw_eqLogNoteS_0 (y0:List (Int×(Int×((List ByteArray)×(List (ByteArray×(Bool×(List Int)))))))) (y1:List (Int×(Int×((List ByteArray)×(List (ByteArray×(Bool×(List Int)))))))) (y2:Int):List (Pl×LV) := [(.T 0,.t (.val false [.sl .any 71 (.pair (.int .i64) (.pair (.int .i64) (.pair (.sl 9 .str) (.sl 78 (.pair .str (.pair .bool (.sl 3 (.int .i64)))))))) y0])),(.T 1,.t (.val false [.sl .any 71 (.pair (.int .i64) (.pair (.int .i64) (.pair (.sl 9 .str) (.sl 78 (.pair .str (.pair .bool (.sl 3 (.int .i64)))))))) y1])),(.T 5,.t (.val false [.int .i64 y2]))]
noncomputable def g_Sw_eqLogNoteS_0 (y0:List (Int×(Int×((List ByteArray)×(List (ByteArray×(Bool×(List Int)))))))) (y1:List (Int×(Int×((List ByteArray)×(List (ByteArray×(Bool×(List Int)))))))):(Int) → RT (Int) ((Bool) ⊕ (Unit))
 | y2 => .br (true) (.br (decide (y2 < (↑(List.length y0):Int))) (.br (decide ((0:Int) ≤ y2 ∧ y2 < (↑(List.length y0):Int))) (.br (decide ((0:Int) ≤ y2 ∧ y2 < (↑(List.length y1):Int))) (.br (g_Aw_eqLogNote (at_ (Ty.pair (Ty.int IntKind.i64) (Ty.pair (Ty.int IntKind.i64) (Ty.pair (Ty.sl (nat_lit 9) Ty.str) (Ty.sl (nat_lit 78) (Ty.pair Ty.str (Ty.pair Ty.bool (Ty.sl (nat_lit 3) (Ty.int IntKind.i64)))))))) y0 (Int.toNat y2)).1 (at_ (Ty.pair (Ty.int IntKind.i64) (Ty.pair (Ty.int IntKind.i64) (Ty.pair (Ty.sl (nat_lit 9) Ty.str) (Ty.sl (nat_lit 78) (Ty.pair Ty.str (Ty.pair Ty.bool (Ty.sl (nat_lit 3) (Ty.int IntKind.i64)))))))) y0 (Int.toNat y2)).2.1 (at_ (Ty.pair (Ty.int IntKind.i64) (Ty.pair (Ty.int IntKind.i64) (Ty.pair (Ty.sl (nat_lit 9) Ty.str) (Ty.sl (nat_lit 78) (Ty.pair Ty.str (Ty.pair Ty.bool (Ty.sl (nat_lit 3) (Ty.int IntKind.i64)))))))) y0 (Int.toNat y2)).2.2.1 (at_ (Ty.pair (Ty.int IntKind.i64) (Ty.pair (Ty.int IntKind.i64) (Ty.pair (Ty.sl (nat_lit 9) Ty.str) (Ty.sl (nat_lit 78) (Ty.pair Ty.str (Ty.pair Ty.bool (Ty.sl (nat_lit 3) (Ty.int IntKind.i64)))))))) y0 (Int.toNat y2)).2.2.2 (at_ (Ty.pair (Ty.int IntKind.i64) (Ty.pair (Ty.int IntKind.i64) (Ty.pair (Ty.sl (nat_lit 9) Ty.str) (Ty.sl (nat_lit 78) (Ty.pair Ty.str (Ty.pair Ty.bool (Ty.sl (nat_lit 3) (Ty.int IntKind.i64)))))))) y1 (Int.toNat y2)).1 (at_ (Ty.pair (Ty.int IntKind.i64) (Ty.pair (Ty.int IntKind.i64) (Ty.pair (Ty.sl (nat_lit 9) Ty.str) (Ty.sl (nat_lit 78) (Ty.pair Ty.str (Ty.pair Ty.bool (Ty.sl (nat_lit 3) (Ty.int IntKind.i64)))))))) y1 (Int.toNat y2)).2.1 (at_ (Ty.pair (Ty.int IntKind.i64) (Ty.pair (Ty.int IntKind.i64) (Ty.pair (Ty.sl (nat_lit 9) Ty.str) (Ty.sl (nat_lit 78) (Ty.pair Ty.str (Ty.pair Ty.bool (Ty.sl (nat_lit 3) (Ty.int IntKind.i64)))))))) y1 (Int.toNat y2)).2.2.1 (at_ (Ty.pair (Ty.int IntKind.i64) (Ty.pair (Ty.int IntKind.i64) (Ty.pair (Ty.sl (nat_lit 9) Ty.str) (Ty.sl (nat_lit 78) (Ty.pair Ty.str (Ty.pair Ty.bool (Ty.sl (nat_lit 3) (Ty.int IntKind.i64)))))))) y1 (Int.toNat y2)).2.2.2) (.br (!g_Vw_eqLogNote_0 (at_ (Ty.pair (Ty.int IntKind.i64) (Ty.pair (Ty.int IntKind.i64) (Ty.pair (Ty.sl (nat_lit 9) Ty.str) (Ty.sl (nat_lit 78) (Ty.pair Ty.str (Ty.pair Ty.bool (Ty.sl (nat_lit 3) (Ty.int IntKind.i64)))))))) y0 (Int.toNat y2)).1 (at_ (Ty.pair (Ty.int IntKind.i64) (Ty.pair (Ty.int IntKind.i64) (Ty.pair (Ty.sl (nat_lit 9) Ty.str) (Ty.sl (nat_lit 78) (Ty.pair Ty.str (Ty.pair Ty.bool (Ty.sl (nat_lit 3) (Ty.int IntKind.i64)))))))) y0 (Int.toNat y2)).2.1 (at_ (Ty.pair (Ty.int IntKind.i64) (Ty.pair (Ty.int IntKind.i64) (Ty.pair (Ty.sl (nat_lit 9) Ty.str) (Ty.sl (nat_lit 78) (Ty.pair Ty.str (Ty.pair Ty.bool (Ty.sl (nat_lit 3) (Ty.int IntKind.i64)))))))) y0 (Int.toNat y2)).2.2.1 (at_ (Ty.pair (Ty.int IntKind.i64) (Ty.pair (Ty.int IntKind.i64) (Ty.pair (Ty.sl (nat_lit 9) Ty.str) (Ty.sl (nat_lit 78) (Ty.pair Ty.str (Ty.pair Ty.bool (Ty.sl (nat_lit 3) (Ty.int IntKind.i64)))))))) y0 (Int.toNat y2)).2.2.2 (at_ (Ty.pair (Ty.int IntKind.i64) (Ty.pair (Ty.int IntKind.i64) (Ty.pair (Ty.sl (nat_lit 9) Ty.str) (Ty.sl (nat_lit 78) (Ty.pair Ty.str (Ty.pair Ty.bool (Ty.sl (nat_lit 3) (Ty.int IntKind.i64)))))))) y1 (Int.toNat y2)).1 (at_ (Ty.pair (Ty.int IntKind.i64) (Ty.pair (Ty.int IntKind.i64) (Ty.pair (Ty.sl (nat_lit 9) Ty.str) (Ty.sl (nat_lit 78) (Ty.pair Ty.str (Ty.pair Ty.bool (Ty.sl (nat_lit 3) (Ty.int IntKind.i64)))))))) y1 (Int.toNat y2)).2.1 (at_ (Ty.pair (Ty.int IntKind.i64) (Ty.pair (Ty.int IntKind.i64) (Ty.pair (Ty.sl (nat_lit 9) Ty.str) (Ty.sl (nat_lit 78) (Ty.pair Ty.str (Ty.pair Ty.bool (Ty.sl (nat_lit 3) (Ty.int IntKind.i64)))))))) y1 (Int.toNat y2)).2.2.1 (at_ (Ty.pair (Ty.int IntKind.i64) (Ty.pair (Ty.int IntKind.i64) (Ty.pair (Ty.sl (nat_lit 9) Ty.str) (Ty.sl (nat_lit 78) (Ty.pair Ty.str (Ty.pair Ty.bool (Ty.sl (nat_lit 3) (Ty.int IntKind.i64)))))))) y1 (Int.toNat y2)).2.2.2) (.out (.inl false)) (.br (true) (.go (IntKind.wrap IntKind.i64 (y2 + (1:Int)))) .bad)) .bad) .bad) .bad) (.out (.inr (())))) .bad
noncomputable def g_Lw_eqLogNoteS_0 (y0:List (Int×(Int×((List ByteArray)×(List (ByteArray×(Bool×(List Int)))))))) (y1:List (Int×(Int×((List ByteArray)×(List (ByteArray×(Bool×(List Int)))))))) (x:Int):Option ((Bool) ⊕ (Unit)) := loopO (g_Sw_eqLogNoteS_0 y0 y1) x
noncomputable def xw_eqLogNoteS_0 (y0:List (Int×(Int×((List ByteArray)×(List (ByteArray×(Bool×(List Int)))))))) (y1:List (Int×(Int×((List ByteArray)×(List (ByteArray×(Bool×(List Int)))))))):((Bool) ⊕ (Unit)) → Ex×List (Pl×LV) := fun
 | .inl r => (.ret,[(.T 4,.t (.val false [.bool r]))])
 | .inr (r) => (.exit 0,[(.T 4,.t (.val false [.undef]))])
noncomputable def Ow_eqLogNoteS_1:Orc := fun b h => match b,h with
 | 0,[(.T 0,.t (.val false [.sl .any 71 (.pair (.int .i64) (.pair (.int .i64) (.pair (.sl 9 .str) (.sl 78 (.pair .str (.pair .bool (.sl 3 (.int .i64)))))))) y0])),(.T 1,.t (.val false [.sl .any 71 (.pair (.int .i64) (.pair (.int .i64) (.pair (.sl 9 .str) (.sl 78 (.pair .str (.pair .bool (.sl 3 (.int .i64)))))))) y1])),(.T 5,.t (.val false [.int .i64 y2]))] => some (okO (g_Lw_eqLogNoteS_0 y0 y1 y2),(.br (isL (valO (g_Lw_eqLogNoteS_0 y0 y1 y2))) (.leaf .ret [(.T 4,.t (.val false [.bool (getL (valO (g_Lw_eqLogNoteS_0 y0 y1 y2)))]))]) (.leaf (.exit 0) [(.T 4,.t (.val false [.undef]))])))
 | b,h => Ow_eqLogNoteS_0 b h
theorem bw_eqLogNoteS_0 (y0:List (Int×(Int×((List ByteArray)×(List (ByteArray×(Bool×(List Int)))))))) (y1:List (Int×(Int×((List ByteArray)×(List (ByteArray×(Bool×(List Int)))))))) (y2:Int):Tr.bt Ew_eqLogNoteS Ow_eqLogNoteS_0 (exec Ew_eqLogNoteS 0 cw_eqLogNoteS_0 (St.of (hw_eqLogNoteS_0 y0 y1 y2)) (leafRd Ew_eqLogNoteS 0)) = (g_Sw_eqLogNoteS_0 y0 y1 y2).bt (fun (y2:Int) => (hw_eqLogNoteS_0 y0 y1 y2)) (xw_eqLogNoteS_0 y0 y1) := by kernel_rfl
theorem kw_eqLogNoteS_1:OrcOk Ew_eqLogNoteS Ow_eqLogNoteS_1 lsw_eqLogNoteS 1 := orc_add kw_eqLogNoteS_0 (fun n p hp h ex h' ho => by
 obtain ⟨b,c⟩ := p
 obtain ⟨xt,h1,h2⟩ := ho
 have h1:Ow_eqLogNoteS_1 b h = some (true,xt) := h1
 unfold Ow_eqLogNoteS_1 at h1
 split at h1
 ·injection h1 with h1
  injection h1 with e1 e2
  subst e2
  have hc:c = cw_eqLogNoteS_0 := mw_eqLogNoteS_0 _ hp rfl
  subst hc
  right
  rename_i y0 y1 y2
  have key := LT_step kw_eqLogNoteS_0 hp (fun q hq => loopsAll_in _ _ _ _ hp hq) (fun (y2:Int) => (hw_eqLogNoteS_0 y0 y1 y2)) (xw_eqLogNoteS_0 y0 y1) (g_Sw_eqLogNoteS_0 y0 y1) (fun x => by first | exact bw_eqLogNoteS_0 y0 y1 x) n (x := y2) (okO_some e1)
  have hx:∀ r,XT.sel (.br (isL r) (.leaf .ret [(.T 4,.t (.val false [.bool (getL r)]))]) (.leaf (.exit 0) [(.T 4,.t (.val false [.undef]))])) = xw_eqLogNoteS_0 y0 y1 r := fun r => by first | rfl | (rcases r with r | r <;> rfl) | (rcases r with r | r | r <;> rfl) | (rcases r with r | r | r | r <;> rfl)
  have h3 := (hx (valO (g_Lw_eqLogNoteS_0 y0 y1 y2))).symm.trans h2
  have e3 := congrArg Prod.fst h3
  have e4 := congrArg Prod.snd h3
  simp only at e3 e4
  rw [← e3,← e4]
  exact key
 ·exact .inl ⟨xt,h1,h2⟩)
noncomputable def g_Aw_eqLogNoteS (a0:List (Int×(Int×((List ByteArray)×(List (ByteArray×(Bool×(List Int)))))))) (a1:List (Int×(Int×((List ByteArray)×(List (ByteArray×(Bool×(List Int)))))))):Bool := (↑(List.length a0):Int) != (↑(List.length a1):Int) || okO (g_Lw_eqLogNoteS_0 a0 a1 (0:Int))
noncomputable def g_Vw_eqLogNoteS_0 (a0:List (Int×(Int×((List ByteArray)×(List (ByteArray×(Bool×(List Int)))))))) (a1:List (Int×(Int×((List ByteArray)×(List (ByteArray×(Bool×(List Int)))))))):Bool := bif (↑(List.length a0):Int) != (↑(List.length a1):Int) then false else bif isL (valO (g_Lw_eqLogNoteS_0 a0 a1 (0:Int))) then getL (valO (g_Lw_eqLogNoteS_0 a0 a1 (0:Int))) else true
noncomputable def Fw_eqLogNoteS:FSem := fun ys => match ys with
 | [.val false [.sl .any 71 (.pair (.int .i64) (.pair (.int .i64) (.pair (.sl 9 .str) (.sl 78 (.pair .str (.pair .bool (.sl 3 (.int .i64)))))))) a0],.val false [.sl .any 71 (.pair (.int .i64) (.pair (.int .i64) (.pair (.sl 9 .str) (.sl 78 (.pair .str (.pair .bool (.sl 3 (.int .i64)))))))) a1]] => some ((g_Aw_eqLogNoteS a0 a1),.val false [.bool (g_Vw_eqLogNoteS_0 a0 a1)],[])
 | _ => none
theorem vw_eqLogNoteS (a0:List (Int×(Int×((List ByteArray)×(List (ByteArray×(Bool×(List Int)))))))) (a1:List (Int×(Int×((List ByteArray)×(List (ByteArray×(Bool×(List Int)))))))):collapseH .std Ew_eqLogNoteS Ow_eqLogNoteS_1 (execFn Ew_eqLogNoteS Try.f35 msw_eqLogNoteS [.val false [.sl .any 71 (.pair (.int .i64) (.pair (.int .i64) (.pair (.sl 9 .str) (.sl 78 (.pair .str (.pair .bool (.sl 3 (.int .i64)))))))) a0],.val false [.sl .any 71 (.pair (.int .i64) (.pair (.int .i64) (.pair (.sl 9 .str) (.sl 78 (.pair .str (.pair .bool (.sl 3 (.int .i64)))))))) a1]]) = some ((g_Aw_eqLogNoteS a0 a1),.val false [.bool (g_Vw_eqLogNoteS_0 a0 a1)],[]) := by kernel_rfl
theorem sw_eqLogNoteS:Sound Try.prog 35 msw_eqLogNoteS Fw_eqLogNoteS := by
 refine fn_gen goodw_eqLogNoteS (by kernel_rfl) .std (fn := Try.f35) (c := (Try.f35.body.getD .skip)) (o := Ow_eqLogNoteS_1) (k := 1) (by kernel_rfl) (by kernel_rfl) (by kernel_rfl) (by kernel_rfl) (by decide) kw_eqLogNoteS_1 ?_
 intro ys r outs h
 unfold Fw_eqLogNoteS at h
 split at h
 ·exact (vw_eqLogNoteS _ _).trans h
 ·cases h
noncomputable def Ew_eqLogDisk:Env where
 tt := mkTI Try.prog
 fn := fun f => match f with
  | 35 => some (msw_eqLogNoteS,FSem.wk msw_eqLogNoteS Fw_eqLogNoteS)
  | _ => none
 bxf := fun _ => none
 mv := []
 keep := fun _ => []
 keepB := fun _ => []
 keepX := fun _ => []
 keepXB := fun _ => []
theorem goodFw_eqLogDisk:∀ f ms F,Ew_eqLogDisk.fn f = some (ms,F) → Sound Try.prog f ms F := fun f ms F h => by
 unfold Ew_eqLogDisk at h
 dsimp only at h
 split at h
 ·injection h with h; injection h with e1 e2; subst e1 e2; exact Sound.wk sw_eqLogNoteS
 ·cases h
theorem goodBw_eqLogDisk:∀ f ms F,Ew_eqLogDisk.bxf f = some (ms,F) → SoundB Try.prog f ms F := fun f ms F h => by cases h
theorem goodw_eqLogDisk:Good Try.prog Ew_eqLogDisk := ⟨rfl,goodFw_eqLogDisk,goodBw_eqLogDisk⟩
noncomputable def Ow_eqLogDisk_0:Orc := fun _ _ => none
noncomputable def msw_eqLogDisk:List PM := [.rd,.rd]
noncomputable def lsw_eqLogDisk:List (Nat×Code) := loopsAll 0 (Try.f24.body.getD .skip)
theorem kw_eqLogDisk_0:OrcOk Ew_eqLogDisk Ow_eqLogDisk_0 lsw_eqLogDisk 0 := orcOk_none
noncomputable def g_Aw_eqLogDisk (a0:List (Int×(Int×((List ByteArray)×(List (ByteArray×(Bool×(List Int)))))))) (a1:Int) (a2:List (Int×(Int×((List ByteArray)×(List (ByteArray×(Bool×(List Int)))))))) (a3:Int):Bool := g_Aw_eqLogNoteS a0 a2&&(!g_Vw_eqLogNoteS_0 a0 a2 || true)
noncomputable def g_Vw_eqLogDisk_0 (a0:List (Int×(Int×((List ByteArray)×(List (ByteArray×(Bool×(List Int)))))))) (a1:Int) (a2:List (Int×(Int×((List ByteArray)×(List (ByteArray×(Bool×(List Int)))))))) (a3:Int):Bool := bif !g_Vw_eqLogNoteS_0 a0 a2 then false else bif a1 != a3 then false else true
noncomputable def Fw_eqLogDisk:FSem := fun ys => match ys with
 | [.val true [.sl .any 71 (.pair (.int .i64) (.pair (.int .i64) (.pair (.sl 9 .str) (.sl 78 (.pair .str (.pair .bool (.sl 3 (.int .i64)))))))) a0,.int .i64 a1],.val true [.sl .any 71 (.pair (.int .i64) (.pair (.int .i64) (.pair (.sl 9 .str) (.sl 78 (.pair .str (.pair .bool (.sl 3 (.int .i64)))))))) a2,.int .i64 a3]] => some ((g_Aw_eqLogDisk a0 a1 a2 a3),.val false [.bool (g_Vw_eqLogDisk_0 a0 a1 a2 a3)],[])
 | _ => none
theorem vw_eqLogDisk (a0:List (Int×(Int×((List ByteArray)×(List (ByteArray×(Bool×(List Int)))))))) (a1:Int) (a2:List (Int×(Int×((List ByteArray)×(List (ByteArray×(Bool×(List Int)))))))) (a3:Int):collapseH .std Ew_eqLogDisk Ow_eqLogDisk_0 (execFn Ew_eqLogDisk Try.f24 msw_eqLogDisk [.val true [.sl .any 71 (.pair (.int .i64) (.pair (.int .i64) (.pair (.sl 9 .str) (.sl 78 (.pair .str (.pair .bool (.sl 3 (.int .i64)))))))) a0,.int .i64 a1],.val true [.sl .any 71 (.pair (.int .i64) (.pair (.int .i64) (.pair (.sl 9 .str) (.sl 78 (.pair .str (.pair .bool (.sl 3 (.int .i64)))))))) a2,.int .i64 a3]]) = some ((g_Aw_eqLogDisk a0 a1 a2 a3),.val false [.bool (g_Vw_eqLogDisk_0 a0 a1 a2 a3)],[]) := by kernel_rfl
theorem sw_eqLogDisk:Sound Try.prog 24 msw_eqLogDisk Fw_eqLogDisk := by
 refine fn_gen goodw_eqLogDisk (by kernel_rfl) .std (fn := Try.f24) (c := (Try.f24.body.getD .skip)) (o := Ow_eqLogDisk_0) (k := 0) (by kernel_rfl) (by kernel_rfl) (by kernel_rfl) (by kernel_rfl) (by decide) kw_eqLogDisk_0 ?_
 intro ys r outs h
 unfold Fw_eqLogDisk at h
 split at h
 ·exact (vw_eqLogDisk _ _ _ _).trans h
 ·cases h
noncomputable def Ew_eqFroState:Env where
 tt := mkTI Try.prog
 fn := fun f => match f with
  | 24 => some (msw_eqLogDisk,FSem.wk msw_eqLogDisk Fw_eqLogDisk)
  | 25 => some (msw_eqFroTxS,FSem.wk msw_eqFroTxS Fw_eqFroTxS)
  | _ => none
 bxf := fun _ => none
 mv := []
 keep := fun _ => []
 keepB := fun _ => []
 keepX := fun _ => []
 keepXB := fun _ => []
theorem goodFw_eqFroState:∀ f ms F,Ew_eqFroState.fn f = some (ms,F) → Sound Try.prog f ms F := fun f ms F h => by
 unfold Ew_eqFroState at h
 dsimp only at h
 split at h
 ·injection h with h; injection h with e1 e2; subst e1 e2; exact Sound.wk sw_eqLogDisk
 ·injection h with h; injection h with e1 e2; subst e1 e2; exact Sound.wk sw_eqFroTxS
 ·cases h
theorem goodBw_eqFroState:∀ f ms F,Ew_eqFroState.bxf f = some (ms,F) → SoundB Try.prog f ms F := fun f ms F h => by cases h
theorem goodw_eqFroState:Good Try.prog Ew_eqFroState := ⟨rfl,goodFw_eqFroState,goodBw_eqFroState⟩
noncomputable def Ow_eqFroState_0:Orc := fun _ _ => none
noncomputable def msw_eqFroState:List PM := [.rd,.rd]
noncomputable def lsw_eqFroState:List (Nat×Code) := loopsAll 0 (Try.f9.body.getD .skip)
theorem kw_eqFroState_0:OrcOk Ew_eqFroState Ow_eqFroState_0 lsw_eqFroState 0 := orcOk_none
noncomputable def g_Aw_eqFroState (a0:List (Int×(Int×((List ByteArray)×(List (ByteArray×(Bool×(List Int)))))))) (a1:Int) (a2:List (Int×((Int×(Int×(Int×(Int×(Int×(Int×Int))))))×(Bool×((List Int)×(List Int)))))) (a3:List (Int×(Int×((List ByteArray)×(List (ByteArray×(Bool×(List Int)))))))) (a4:Int) (a5:List (Int×((Int×(Int×(Int×(Int×(Int×(Int×Int))))))×(Bool×((List Int)×(List Int)))))):Bool := g_Aw_eqLogDisk a0 a1 a3 a4&&(!g_Vw_eqLogDisk_0 a0 a1 a3 a4 || g_Aw_eqFroTxS a2 a5)
noncomputable def g_Vw_eqFroState_0 (a0:List (Int×(Int×((List ByteArray)×(List (ByteArray×(Bool×(List Int)))))))) (a1:Int) (a2:List (Int×((Int×(Int×(Int×(Int×(Int×(Int×Int))))))×(Bool×((List Int)×(List Int)))))) (a3:List (Int×(Int×((List ByteArray)×(List (ByteArray×(Bool×(List Int)))))))) (a4:Int) (a5:List (Int×((Int×(Int×(Int×(Int×(Int×(Int×Int))))))×(Bool×((List Int)×(List Int)))))):Bool := bif !g_Vw_eqLogDisk_0 a0 a1 a3 a4 then false else bif !g_Vw_eqFroTxS_0 a2 a5 then false else true
noncomputable def Fw_eqFroState:FSem := fun ys => match ys with
 | [.val true [.sl .any 71 (.pair (.int .i64) (.pair (.int .i64) (.pair (.sl 9 .str) (.sl 78 (.pair .str (.pair .bool (.sl 3 (.int .i64)))))))) a0,.int .i64 a1,.sl .any 66 (.pair (.int .i64) (.pair (.pair (.int .i64) (.pair (.int .i64) (.pair (.int .i64) (.pair (.int .i64) (.pair (.int .i64) (.pair (.int .i64) (.int .i64))))))) (.pair .bool (.pair (.sl 3 (.int .i64)) (.sl 3 (.int .i64)))))) a2],.val true [.sl .any 71 (.pair (.int .i64) (.pair (.int .i64) (.pair (.sl 9 .str) (.sl 78 (.pair .str (.pair .bool (.sl 3 (.int .i64)))))))) a3,.int .i64 a4,.sl .any 66 (.pair (.int .i64) (.pair (.pair (.int .i64) (.pair (.int .i64) (.pair (.int .i64) (.pair (.int .i64) (.pair (.int .i64) (.pair (.int .i64) (.int .i64))))))) (.pair .bool (.pair (.sl 3 (.int .i64)) (.sl 3 (.int .i64)))))) a5]] => some ((g_Aw_eqFroState a0 a1 a2 a3 a4 a5),.val false [.bool (g_Vw_eqFroState_0 a0 a1 a2 a3 a4 a5)],[])
 | _ => none
theorem vw_eqFroState (a0:List (Int×(Int×((List ByteArray)×(List (ByteArray×(Bool×(List Int)))))))) (a1:Int) (a2:List (Int×((Int×(Int×(Int×(Int×(Int×(Int×Int))))))×(Bool×((List Int)×(List Int)))))) (a3:List (Int×(Int×((List ByteArray)×(List (ByteArray×(Bool×(List Int)))))))) (a4:Int) (a5:List (Int×((Int×(Int×(Int×(Int×(Int×(Int×Int))))))×(Bool×((List Int)×(List Int)))))):collapseH .std Ew_eqFroState Ow_eqFroState_0 (execFn Ew_eqFroState Try.f9 msw_eqFroState [.val true [.sl .any 71 (.pair (.int .i64) (.pair (.int .i64) (.pair (.sl 9 .str) (.sl 78 (.pair .str (.pair .bool (.sl 3 (.int .i64)))))))) a0,.int .i64 a1,.sl .any 66 (.pair (.int .i64) (.pair (.pair (.int .i64) (.pair (.int .i64) (.pair (.int .i64) (.pair (.int .i64) (.pair (.int .i64) (.pair (.int .i64) (.int .i64))))))) (.pair .bool (.pair (.sl 3 (.int .i64)) (.sl 3 (.int .i64)))))) a2],.val true [.sl .any 71 (.pair (.int .i64) (.pair (.int .i64) (.pair (.sl 9 .str) (.sl 78 (.pair .str (.pair .bool (.sl 3 (.int .i64)))))))) a3,.int .i64 a4,.sl .any 66 (.pair (.int .i64) (.pair (.pair (.int .i64) (.pair (.int .i64) (.pair (.int .i64) (.pair (.int .i64) (.pair (.int .i64) (.pair (.int .i64) (.int .i64))))))) (.pair .bool (.pair (.sl 3 (.int .i64)) (.sl 3 (.int .i64)))))) a5]]) = some ((g_Aw_eqFroState a0 a1 a2 a3 a4 a5),.val false [.bool (g_Vw_eqFroState_0 a0 a1 a2 a3 a4 a5)],[]) := by kernel_rfl
theorem sw_eqFroState:Sound Try.prog 9 msw_eqFroState Fw_eqFroState := by
 refine fn_gen goodw_eqFroState (by kernel_rfl) .std (fn := Try.f9) (c := (Try.f9.body.getD .skip)) (o := Ow_eqFroState_0) (k := 0) (by kernel_rfl) (by kernel_rfl) (by kernel_rfl) (by kernel_rfl) (by decide) kw_eqFroState_0 ?_
 intro ys r outs h
 unfold Fw_eqFroState at h
 split at h
 ·exact (vw_eqFroState _ _ _ _ _ _).trans h
 ·cases h
noncomputable def Ew_eqLogDiskS:Env where
 tt := mkTI Try.prog
 fn := fun f => match f with
  | 24 => some (msw_eqLogDisk,FSem.wk msw_eqLogDisk Fw_eqLogDisk)
  | _ => none
 bxf := fun _ => none
 mv := []
 keep := fun b => match b with
  | 0 => [(0,false),(1,false),(5,false)]
  | _ => []
 keepB := fun b => match b with
  | 0 => []
  | _ => []
 keepX := fun b => match b with
  | 0 => [(4,false)]
  | _ => []
 keepXB := fun b => match b with
  | 0 => []
  | _ => []
theorem goodFw_eqLogDiskS:∀ f ms F,Ew_eqLogDiskS.fn f = some (ms,F) → Sound Try.prog f ms F := fun f ms F h => by
 unfold Ew_eqLogDiskS at h
 dsimp only at h
 split at h
 ·injection h with h; injection h with e1 e2; subst e1 e2; exact Sound.wk sw_eqLogDisk
 ·cases h
theorem goodBw_eqLogDiskS:∀ f ms F,Ew_eqLogDiskS.bxf f = some (ms,F) → SoundB Try.prog f ms F := fun f ms F h => by cases h
theorem goodw_eqLogDiskS:Good Try.prog Ew_eqLogDiskS := ⟨rfl,goodFw_eqLogDiskS,goodBw_eqLogDiskS⟩
noncomputable def Ow_eqLogDiskS_0:Orc := fun _ _ => none
noncomputable def msw_eqLogDiskS:List PM := [.rd,.rd]
noncomputable def lsw_eqLogDiskS:List (Nat×Code) := loopsAll 0 (Try.f10.body.getD .skip)
noncomputable def cw_eqLogDiskS_0:Code := (loopOf 0 (Try.f10.body.getD .skip)).getD .skip
theorem lseqw_eqLogDiskS:lsw_eqLogDiskS = [(0,cw_eqLogDiskS_0)] := by kernel_rfl
theorem mw_eqLogDiskS_0:∀ p,p ∈ lsw_eqLogDiskS → p.1 = 0 → p.2 = cw_eqLogDiskS_0 := by
 intro p hp
 rw [lseqw_eqLogDiskS] at hp
 simp only [List.mem_cons,List.not_mem_nil,or_false] at hp
 subst hp; simp
theorem kw_eqLogDiskS_0:OrcOk Ew_eqLogDiskS Ow_eqLogDiskS_0 lsw_eqLogDiskS 0 := orcOk_none
noncomputable def hw_eqLogDiskS_0 (y0:List ((List (Int×(Int×((List ByteArray)×(List (ByteArray×(Bool×(List Int))))))))×Int)) (y1:List ((List (Int×(Int×((List ByteArray)×(List (ByteArray×(Bool×(List Int))))))))×Int)) (y2:Int):List (Pl×LV) := [(.T 0,.t (.val false [.sl .any 24 (.pair (.sl 71 (.pair (.int .i64) (.pair (.int .i64) (.pair (.sl 9 .str) (.sl 78 (.pair .str (.pair .bool (.sl 3 (.int .i64))))))))) (.int .i64)) y0])),(.T 1,.t (.val false [.sl .any 24 (.pair (.sl 71 (.pair (.int .i64) (.pair (.int .i64) (.pair (.sl 9 .str) (.sl 78 (.pair .str (.pair .bool (.sl 3 (.int .i64))))))))) (.int .i64)) y1])),(.T 5,.t (.val false [.int .i64 y2]))]
noncomputable def g_Sw_eqLogDiskS_0 (y0:List ((List (Int×(Int×((List ByteArray)×(List (ByteArray×(Bool×(List Int))))))))×Int)) (y1:List ((List (Int×(Int×((List ByteArray)×(List (ByteArray×(Bool×(List Int))))))))×Int)):(Int) → RT (Int) ((Bool) ⊕ (Unit))
 | y2 => .br (true) (.br (decide (y2 < (↑(List.length y0):Int))) (.br (decide ((0:Int) ≤ y2 ∧ y2 < (↑(List.length y0):Int))) (.br (decide ((0:Int) ≤ y2 ∧ y2 < (↑(List.length y1):Int))) (.br (g_Aw_eqLogDisk (at_ (Ty.pair (Ty.sl (nat_lit 71) (Ty.pair (Ty.int IntKind.i64) (Ty.pair (Ty.int IntKind.i64) (Ty.pair (Ty.sl (nat_lit 9) Ty.str) (Ty.sl (nat_lit 78) (Ty.pair Ty.str (Ty.pair Ty.bool (Ty.sl (nat_lit 3) (Ty.int IntKind.i64))))))))) (Ty.int IntKind.i64)) y0 (Int.toNat y2)).1 (at_ (Ty.pair (Ty.sl (nat_lit 71) (Ty.pair (Ty.int IntKind.i64) (Ty.pair (Ty.int IntKind.i64) (Ty.pair (Ty.sl (nat_lit 9) Ty.str) (Ty.sl (nat_lit 78) (Ty.pair Ty.str (Ty.pair Ty.bool (Ty.sl (nat_lit 3) (Ty.int IntKind.i64))))))))) (Ty.int IntKind.i64)) y0 (Int.toNat y2)).2 (at_ (Ty.pair (Ty.sl (nat_lit 71) (Ty.pair (Ty.int IntKind.i64) (Ty.pair (Ty.int IntKind.i64) (Ty.pair (Ty.sl (nat_lit 9) Ty.str) (Ty.sl (nat_lit 78) (Ty.pair Ty.str (Ty.pair Ty.bool (Ty.sl (nat_lit 3) (Ty.int IntKind.i64))))))))) (Ty.int IntKind.i64)) y1 (Int.toNat y2)).1 (at_ (Ty.pair (Ty.sl (nat_lit 71) (Ty.pair (Ty.int IntKind.i64) (Ty.pair (Ty.int IntKind.i64) (Ty.pair (Ty.sl (nat_lit 9) Ty.str) (Ty.sl (nat_lit 78) (Ty.pair Ty.str (Ty.pair Ty.bool (Ty.sl (nat_lit 3) (Ty.int IntKind.i64))))))))) (Ty.int IntKind.i64)) y1 (Int.toNat y2)).2) (.br (!g_Vw_eqLogDisk_0 (at_ (Ty.pair (Ty.sl (nat_lit 71) (Ty.pair (Ty.int IntKind.i64) (Ty.pair (Ty.int IntKind.i64) (Ty.pair (Ty.sl (nat_lit 9) Ty.str) (Ty.sl (nat_lit 78) (Ty.pair Ty.str (Ty.pair Ty.bool (Ty.sl (nat_lit 3) (Ty.int IntKind.i64))))))))) (Ty.int IntKind.i64)) y0 (Int.toNat y2)).1 (at_ (Ty.pair (Ty.sl (nat_lit 71) (Ty.pair (Ty.int IntKind.i64) (Ty.pair (Ty.int IntKind.i64) (Ty.pair (Ty.sl (nat_lit 9) Ty.str) (Ty.sl (nat_lit 78) (Ty.pair Ty.str (Ty.pair Ty.bool (Ty.sl (nat_lit 3) (Ty.int IntKind.i64))))))))) (Ty.int IntKind.i64)) y0 (Int.toNat y2)).2 (at_ (Ty.pair (Ty.sl (nat_lit 71) (Ty.pair (Ty.int IntKind.i64) (Ty.pair (Ty.int IntKind.i64) (Ty.pair (Ty.sl (nat_lit 9) Ty.str) (Ty.sl (nat_lit 78) (Ty.pair Ty.str (Ty.pair Ty.bool (Ty.sl (nat_lit 3) (Ty.int IntKind.i64))))))))) (Ty.int IntKind.i64)) y1 (Int.toNat y2)).1 (at_ (Ty.pair (Ty.sl (nat_lit 71) (Ty.pair (Ty.int IntKind.i64) (Ty.pair (Ty.int IntKind.i64) (Ty.pair (Ty.sl (nat_lit 9) Ty.str) (Ty.sl (nat_lit 78) (Ty.pair Ty.str (Ty.pair Ty.bool (Ty.sl (nat_lit 3) (Ty.int IntKind.i64))))))))) (Ty.int IntKind.i64)) y1 (Int.toNat y2)).2) (.out (.inl false)) (.br (true) (.go (IntKind.wrap IntKind.i64 (y2 + (1:Int)))) .bad)) .bad) .bad) .bad) (.out (.inr (())))) .bad
noncomputable def g_Lw_eqLogDiskS_0 (y0:List ((List (Int×(Int×((List ByteArray)×(List (ByteArray×(Bool×(List Int))))))))×Int)) (y1:List ((List (Int×(Int×((List ByteArray)×(List (ByteArray×(Bool×(List Int))))))))×Int)) (x:Int):Option ((Bool) ⊕ (Unit)) := loopO (g_Sw_eqLogDiskS_0 y0 y1) x
noncomputable def xw_eqLogDiskS_0 (y0:List ((List (Int×(Int×((List ByteArray)×(List (ByteArray×(Bool×(List Int))))))))×Int)) (y1:List ((List (Int×(Int×((List ByteArray)×(List (ByteArray×(Bool×(List Int))))))))×Int)):((Bool) ⊕ (Unit)) → Ex×List (Pl×LV) := fun
 | .inl r => (.ret,[(.T 4,.t (.val false [.bool r]))])
 | .inr (r) => (.exit 0,[(.T 4,.t (.val false [.undef]))])
noncomputable def Ow_eqLogDiskS_1:Orc := fun b h => match b,h with
 | 0,[(.T 0,.t (.val false [.sl .any 24 (.pair (.sl 71 (.pair (.int .i64) (.pair (.int .i64) (.pair (.sl 9 .str) (.sl 78 (.pair .str (.pair .bool (.sl 3 (.int .i64))))))))) (.int .i64)) y0])),(.T 1,.t (.val false [.sl .any 24 (.pair (.sl 71 (.pair (.int .i64) (.pair (.int .i64) (.pair (.sl 9 .str) (.sl 78 (.pair .str (.pair .bool (.sl 3 (.int .i64))))))))) (.int .i64)) y1])),(.T 5,.t (.val false [.int .i64 y2]))] => some (okO (g_Lw_eqLogDiskS_0 y0 y1 y2),(.br (isL (valO (g_Lw_eqLogDiskS_0 y0 y1 y2))) (.leaf .ret [(.T 4,.t (.val false [.bool (getL (valO (g_Lw_eqLogDiskS_0 y0 y1 y2)))]))]) (.leaf (.exit 0) [(.T 4,.t (.val false [.undef]))])))
 | b,h => Ow_eqLogDiskS_0 b h
theorem bw_eqLogDiskS_0 (y0:List ((List (Int×(Int×((List ByteArray)×(List (ByteArray×(Bool×(List Int))))))))×Int)) (y1:List ((List (Int×(Int×((List ByteArray)×(List (ByteArray×(Bool×(List Int))))))))×Int)) (y2:Int):Tr.bt Ew_eqLogDiskS Ow_eqLogDiskS_0 (exec Ew_eqLogDiskS 0 cw_eqLogDiskS_0 (St.of (hw_eqLogDiskS_0 y0 y1 y2)) (leafRd Ew_eqLogDiskS 0)) = (g_Sw_eqLogDiskS_0 y0 y1 y2).bt (fun (y2:Int) => (hw_eqLogDiskS_0 y0 y1 y2)) (xw_eqLogDiskS_0 y0 y1) := by kernel_rfl
theorem kw_eqLogDiskS_1:OrcOk Ew_eqLogDiskS Ow_eqLogDiskS_1 lsw_eqLogDiskS 1 := orc_add kw_eqLogDiskS_0 (fun n p hp h ex h' ho => by
 obtain ⟨b,c⟩ := p
 obtain ⟨xt,h1,h2⟩ := ho
 have h1:Ow_eqLogDiskS_1 b h = some (true,xt) := h1
 unfold Ow_eqLogDiskS_1 at h1
 split at h1
 ·injection h1 with h1
  injection h1 with e1 e2
  subst e2
  have hc:c = cw_eqLogDiskS_0 := mw_eqLogDiskS_0 _ hp rfl
  subst hc
  right
  rename_i y0 y1 y2
  have key := LT_step kw_eqLogDiskS_0 hp (fun q hq => loopsAll_in _ _ _ _ hp hq) (fun (y2:Int) => (hw_eqLogDiskS_0 y0 y1 y2)) (xw_eqLogDiskS_0 y0 y1) (g_Sw_eqLogDiskS_0 y0 y1) (fun x => by first | exact bw_eqLogDiskS_0 y0 y1 x) n (x := y2) (okO_some e1)
  have hx:∀ r,XT.sel (.br (isL r) (.leaf .ret [(.T 4,.t (.val false [.bool (getL r)]))]) (.leaf (.exit 0) [(.T 4,.t (.val false [.undef]))])) = xw_eqLogDiskS_0 y0 y1 r := fun r => by first | rfl | (rcases r with r | r <;> rfl) | (rcases r with r | r | r <;> rfl) | (rcases r with r | r | r | r <;> rfl)
  have h3 := (hx (valO (g_Lw_eqLogDiskS_0 y0 y1 y2))).symm.trans h2
  have e3 := congrArg Prod.fst h3
  have e4 := congrArg Prod.snd h3
  simp only at e3 e4
  rw [← e3,← e4]
  exact key
 ·exact .inl ⟨xt,h1,h2⟩)
noncomputable def g_Aw_eqLogDiskS (a0:List ((List (Int×(Int×((List ByteArray)×(List (ByteArray×(Bool×(List Int))))))))×Int)) (a1:List ((List (Int×(Int×((List ByteArray)×(List (ByteArray×(Bool×(List Int))))))))×Int)):Bool := (↑(List.length a0):Int) != (↑(List.length a1):Int) || okO (g_Lw_eqLogDiskS_0 a0 a1 (0:Int))
noncomputable def g_Vw_eqLogDiskS_0 (a0:List ((List (Int×(Int×((List ByteArray)×(List (ByteArray×(Bool×(List Int))))))))×Int)) (a1:List ((List (Int×(Int×((List ByteArray)×(List (ByteArray×(Bool×(List Int))))))))×Int)):Bool := bif (↑(List.length a0):Int) != (↑(List.length a1):Int) then false else bif isL (valO (g_Lw_eqLogDiskS_0 a0 a1 (0:Int))) then getL (valO (g_Lw_eqLogDiskS_0 a0 a1 (0:Int))) else true
noncomputable def Fw_eqLogDiskS:FSem := fun ys => match ys with
 | [.val false [.sl .any 24 (.pair (.sl 71 (.pair (.int .i64) (.pair (.int .i64) (.pair (.sl 9 .str) (.sl 78 (.pair .str (.pair .bool (.sl 3 (.int .i64))))))))) (.int .i64)) a0],.val false [.sl .any 24 (.pair (.sl 71 (.pair (.int .i64) (.pair (.int .i64) (.pair (.sl 9 .str) (.sl 78 (.pair .str (.pair .bool (.sl 3 (.int .i64))))))))) (.int .i64)) a1]] => some ((g_Aw_eqLogDiskS a0 a1),.val false [.bool (g_Vw_eqLogDiskS_0 a0 a1)],[])
 | _ => none
theorem vw_eqLogDiskS (a0:List ((List (Int×(Int×((List ByteArray)×(List (ByteArray×(Bool×(List Int))))))))×Int)) (a1:List ((List (Int×(Int×((List ByteArray)×(List (ByteArray×(Bool×(List Int))))))))×Int)):collapseH .std Ew_eqLogDiskS Ow_eqLogDiskS_1 (execFn Ew_eqLogDiskS Try.f10 msw_eqLogDiskS [.val false [.sl .any 24 (.pair (.sl 71 (.pair (.int .i64) (.pair (.int .i64) (.pair (.sl 9 .str) (.sl 78 (.pair .str (.pair .bool (.sl 3 (.int .i64))))))))) (.int .i64)) a0],.val false [.sl .any 24 (.pair (.sl 71 (.pair (.int .i64) (.pair (.int .i64) (.pair (.sl 9 .str) (.sl 78 (.pair .str (.pair .bool (.sl 3 (.int .i64))))))))) (.int .i64)) a1]]) = some ((g_Aw_eqLogDiskS a0 a1),.val false [.bool (g_Vw_eqLogDiskS_0 a0 a1)],[]) := by kernel_rfl
theorem sw_eqLogDiskS:Sound Try.prog 10 msw_eqLogDiskS Fw_eqLogDiskS := by
 refine fn_gen goodw_eqLogDiskS (by kernel_rfl) .std (fn := Try.f10) (c := (Try.f10.body.getD .skip)) (o := Ow_eqLogDiskS_1) (k := 1) (by kernel_rfl) (by kernel_rfl) (by kernel_rfl) (by kernel_rfl) (by decide) kw_eqLogDiskS_1 ?_
 intro ys r outs h
 unfold Fw_eqLogDiskS at h
 split at h
 ·exact (vw_eqLogDiskS _ _).trans h
 ·cases h
noncomputable def Ew_eqMsgMsg:Env where
 tt := mkTI Try.prog
 fn := fun f => match f with
  | 27 => some (msw_eqOpOp,FSem.wk msw_eqOpOp Fw_eqOpOp)
  | _ => none
 bxf := fun _ => none
 mv := []
 keep := fun _ => []
 keepB := fun _ => []
 keepX := fun _ => []
 keepXB := fun _ => []
theorem goodFw_eqMsgMsg:∀ f ms F,Ew_eqMsgMsg.fn f = some (ms,F) → Sound Try.prog f ms F := fun f ms F h => by
 unfold Ew_eqMsgMsg at h
 dsimp only at h
 split at h
 ·injection h with h; injection h with e1 e2; subst e1 e2; exact Sound.wk sw_eqOpOp
 ·cases h
theorem goodBw_eqMsgMsg:∀ f ms F,Ew_eqMsgMsg.bxf f = some (ms,F) → SoundB Try.prog f ms F := fun f ms F h => by cases h
theorem goodw_eqMsgMsg:Good Try.prog Ew_eqMsgMsg := ⟨rfl,goodFw_eqMsgMsg,goodBw_eqMsgMsg⟩
noncomputable def Ow_eqMsgMsg_0:Orc := fun _ _ => none
noncomputable def msw_eqMsgMsg:List PM := [.own,.own]
noncomputable def lsw_eqMsgMsg:List (Nat×Code) := loopsAll 0 (Try.f26.body.getD .skip)
theorem kw_eqMsgMsg_0:OrcOk Ew_eqMsgMsg Ow_eqMsgMsg_0 lsw_eqMsgMsg 0 := orcOk_none
noncomputable def g_Aw_eqMsgMsg (a0:Int) (a1:Int) (a2:Int) (a3:Int) (a4:Int) (a5:Int) (a6:Int) (a7:Int) (a8:Int) (a9:Int) (a10:Int) (a11:Int) (a12:Int) (a13:Int) (a14:Int) (a15:Int) (a16:Int) (a17:Int) (a18:Int) (a19:Int) (a20:Int) (a21:Int):Bool := a0 != a11 || (a1 != a12 || (a2 != a13 || (a3 != a14 || g_Aw_eqOpOp a4 a5 a6 a7 a8 a9 a10 a15 a16 a17 a18 a19 a20 a21)))
noncomputable def g_Vw_eqMsgMsg_0 (a0:Int) (a1:Int) (a2:Int) (a3:Int) (a4:Int) (a5:Int) (a6:Int) (a7:Int) (a8:Int) (a9:Int) (a10:Int) (a11:Int) (a12:Int) (a13:Int) (a14:Int) (a15:Int) (a16:Int) (a17:Int) (a18:Int) (a19:Int) (a20:Int) (a21:Int):Bool := bif a0 != a11 then false else bif a1 != a12 then false else bif a2 != a13 then false else bif a3 != a14 then false else bif !g_Vw_eqOpOp_0 a4 a5 a6 a7 a8 a9 a10 a15 a16 a17 a18 a19 a20 a21 then false else true
noncomputable def Fw_eqMsgMsg:FSem := fun ys => match ys with
 | [.val true [.int .i64 a0,.int .i64 a1,.int .i64 a2,.int .i64 a3,.int .i64 a4,.int .i64 a5,.int .i64 a6,.int .i64 a7,.int .i64 a8,.int .i64 a9,.int .i64 a10],.val true [.int .i64 a11,.int .i64 a12,.int .i64 a13,.int .i64 a14,.int .i64 a15,.int .i64 a16,.int .i64 a17,.int .i64 a18,.int .i64 a19,.int .i64 a20,.int .i64 a21]] => some ((g_Aw_eqMsgMsg a0 a1 a2 a3 a4 a5 a6 a7 a8 a9 a10 a11 a12 a13 a14 a15 a16 a17 a18 a19 a20 a21),.val false [.bool (g_Vw_eqMsgMsg_0 a0 a1 a2 a3 a4 a5 a6 a7 a8 a9 a10 a11 a12 a13 a14 a15 a16 a17 a18 a19 a20 a21)],[])
 | _ => none
theorem vw_eqMsgMsg (a0:Int) (a1:Int) (a2:Int) (a3:Int) (a4:Int) (a5:Int) (a6:Int) (a7:Int) (a8:Int) (a9:Int) (a10:Int) (a11:Int) (a12:Int) (a13:Int) (a14:Int) (a15:Int) (a16:Int) (a17:Int) (a18:Int) (a19:Int) (a20:Int) (a21:Int):collapseH .std Ew_eqMsgMsg Ow_eqMsgMsg_0 (execFn Ew_eqMsgMsg Try.f26 msw_eqMsgMsg [.val true [.int .i64 a0,.int .i64 a1,.int .i64 a2,.int .i64 a3,.int .i64 a4,.int .i64 a5,.int .i64 a6,.int .i64 a7,.int .i64 a8,.int .i64 a9,.int .i64 a10],.val true [.int .i64 a11,.int .i64 a12,.int .i64 a13,.int .i64 a14,.int .i64 a15,.int .i64 a16,.int .i64 a17,.int .i64 a18,.int .i64 a19,.int .i64 a20,.int .i64 a21]]) = some ((g_Aw_eqMsgMsg a0 a1 a2 a3 a4 a5 a6 a7 a8 a9 a10 a11 a12 a13 a14 a15 a16 a17 a18 a19 a20 a21),.val false [.bool (g_Vw_eqMsgMsg_0 a0 a1 a2 a3 a4 a5 a6 a7 a8 a9 a10 a11 a12 a13 a14 a15 a16 a17 a18 a19 a20 a21)],[]) := by kernel_rfl
theorem sw_eqMsgMsg:Sound Try.prog 26 msw_eqMsgMsg Fw_eqMsgMsg := by
 refine fn_gen goodw_eqMsgMsg (by kernel_rfl) .std (fn := Try.f26) (c := (Try.f26.body.getD .skip)) (o := Ow_eqMsgMsg_0) (k := 0) (by kernel_rfl) (by kernel_rfl) (by kernel_rfl) (by kernel_rfl) (by decide) kw_eqMsgMsg_0 ?_
 intro ys r outs h
 unfold Fw_eqMsgMsg at h
 split at h
 ·exact (vw_eqMsgMsg _ _ _ _ _ _ _ _ _ _ _ _ _ _ _ _ _ _ _ _ _ _).trans h
 ·cases h
noncomputable def Ew_eqMsgMsgS:Env where
 tt := mkTI Try.prog
 fn := fun f => match f with
  | 26 => some (msw_eqMsgMsg,FSem.wk msw_eqMsgMsg Fw_eqMsgMsg)
  | _ => none
 bxf := fun _ => none
 mv := []
 keep := fun b => match b with
  | 0 => [(0,false),(1,false),(5,false)]
  | _ => []
 keepB := fun b => match b with
  | 0 => []
  | _ => []
 keepX := fun b => match b with
  | 0 => [(4,false)]
  | _ => []
 keepXB := fun b => match b with
  | 0 => []
  | _ => []
theorem goodFw_eqMsgMsgS:∀ f ms F,Ew_eqMsgMsgS.fn f = some (ms,F) → Sound Try.prog f ms F := fun f ms F h => by
 unfold Ew_eqMsgMsgS at h
 dsimp only at h
 split at h
 ·injection h with h; injection h with e1 e2; subst e1 e2; exact Sound.wk sw_eqMsgMsg
 ·cases h
theorem goodBw_eqMsgMsgS:∀ f ms F,Ew_eqMsgMsgS.bxf f = some (ms,F) → SoundB Try.prog f ms F := fun f ms F h => by cases h
theorem goodw_eqMsgMsgS:Good Try.prog Ew_eqMsgMsgS := ⟨rfl,goodFw_eqMsgMsgS,goodBw_eqMsgMsgS⟩
noncomputable def Ow_eqMsgMsgS_0:Orc := fun _ _ => none
noncomputable def msw_eqMsgMsgS:List PM := [.rd,.rd]
noncomputable def lsw_eqMsgMsgS:List (Nat×Code) := loopsAll 0 (Try.f11.body.getD .skip)
noncomputable def cw_eqMsgMsgS_0:Code := (loopOf 0 (Try.f11.body.getD .skip)).getD .skip
theorem lseqw_eqMsgMsgS:lsw_eqMsgMsgS = [(0,cw_eqMsgMsgS_0)] := by kernel_rfl
theorem mw_eqMsgMsgS_0:∀ p,p ∈ lsw_eqMsgMsgS → p.1 = 0 → p.2 = cw_eqMsgMsgS_0 := by
 intro p hp
 rw [lseqw_eqMsgMsgS] at hp
 simp only [List.mem_cons,List.not_mem_nil,or_false] at hp
 subst hp; simp
theorem kw_eqMsgMsgS_0:OrcOk Ew_eqMsgMsgS Ow_eqMsgMsgS_0 lsw_eqMsgMsgS 0 := orcOk_none
noncomputable def hw_eqMsgMsgS_0 (y0:List (Int×(Int×(Int×(Int×(Int×(Int×(Int×(Int×(Int×(Int×Int))))))))))) (y1:List (Int×(Int×(Int×(Int×(Int×(Int×(Int×(Int×(Int×(Int×Int))))))))))) (y2:Int):List (Pl×LV) := [(.T 0,.t (.val false [.sl .any 54 (.pair (.int .i64) (.pair (.int .i64) (.pair (.int .i64) (.pair (.int .i64) (.pair (.int .i64) (.pair (.int .i64) (.pair (.int .i64) (.pair (.int .i64) (.pair (.int .i64) (.pair (.int .i64) (.int .i64))))))))))) y0])),(.T 1,.t (.val false [.sl .any 54 (.pair (.int .i64) (.pair (.int .i64) (.pair (.int .i64) (.pair (.int .i64) (.pair (.int .i64) (.pair (.int .i64) (.pair (.int .i64) (.pair (.int .i64) (.pair (.int .i64) (.pair (.int .i64) (.int .i64))))))))))) y1])),(.T 5,.t (.val false [.int .i64 y2]))]
noncomputable def g_Sw_eqMsgMsgS_0 (y0:List (Int×(Int×(Int×(Int×(Int×(Int×(Int×(Int×(Int×(Int×Int))))))))))) (y1:List (Int×(Int×(Int×(Int×(Int×(Int×(Int×(Int×(Int×(Int×Int))))))))))):(Int) → RT (Int) ((Bool) ⊕ (Unit))
 | y2 => .br (true) (.br (decide (y2 < (↑(List.length y0):Int))) (.br (decide ((0:Int) ≤ y2 ∧ y2 < (↑(List.length y0):Int))) (.br (decide ((0:Int) ≤ y2 ∧ y2 < (↑(List.length y1):Int))) (.br (g_Aw_eqMsgMsg (at_ (Ty.pair (Ty.int IntKind.i64) (Ty.pair (Ty.int IntKind.i64) (Ty.pair (Ty.int IntKind.i64) (Ty.pair (Ty.int IntKind.i64) (Ty.pair (Ty.int IntKind.i64) (Ty.pair (Ty.int IntKind.i64) (Ty.pair (Ty.int IntKind.i64) (Ty.pair (Ty.int IntKind.i64) (Ty.pair (Ty.int IntKind.i64) (Ty.pair (Ty.int IntKind.i64) (Ty.int IntKind.i64))))))))))) y0 (Int.toNat y2)).1 (at_ (Ty.pair (Ty.int IntKind.i64) (Ty.pair (Ty.int IntKind.i64) (Ty.pair (Ty.int IntKind.i64) (Ty.pair (Ty.int IntKind.i64) (Ty.pair (Ty.int IntKind.i64) (Ty.pair (Ty.int IntKind.i64) (Ty.pair (Ty.int IntKind.i64) (Ty.pair (Ty.int IntKind.i64) (Ty.pair (Ty.int IntKind.i64) (Ty.pair (Ty.int IntKind.i64) (Ty.int IntKind.i64))))))))))) y0 (Int.toNat y2)).2.1 (at_ (Ty.pair (Ty.int IntKind.i64) (Ty.pair (Ty.int IntKind.i64) (Ty.pair (Ty.int IntKind.i64) (Ty.pair (Ty.int IntKind.i64) (Ty.pair (Ty.int IntKind.i64) (Ty.pair (Ty.int IntKind.i64) (Ty.pair (Ty.int IntKind.i64) (Ty.pair (Ty.int IntKind.i64) (Ty.pair (Ty.int IntKind.i64) (Ty.pair (Ty.int IntKind.i64) (Ty.int IntKind.i64))))))))))) y0 (Int.toNat y2)).2.2.1 (at_ (Ty.pair (Ty.int IntKind.i64) (Ty.pair (Ty.int IntKind.i64) (Ty.pair (Ty.int IntKind.i64) (Ty.pair (Ty.int IntKind.i64) (Ty.pair (Ty.int IntKind.i64) (Ty.pair (Ty.int IntKind.i64) (Ty.pair (Ty.int IntKind.i64) (Ty.pair (Ty.int IntKind.i64) (Ty.pair (Ty.int IntKind.i64) (Ty.pair (Ty.int IntKind.i64) (Ty.int IntKind.i64))))))))))) y0 (Int.toNat y2)).2.2.2.1 (at_ (Ty.pair (Ty.int IntKind.i64) (Ty.pair (Ty.int IntKind.i64) (Ty.pair (Ty.int IntKind.i64) (Ty.pair (Ty.int IntKind.i64) (Ty.pair (Ty.int IntKind.i64) (Ty.pair (Ty.int IntKind.i64) (Ty.pair (Ty.int IntKind.i64) (Ty.pair (Ty.int IntKind.i64) (Ty.pair (Ty.int IntKind.i64) (Ty.pair (Ty.int IntKind.i64) (Ty.int IntKind.i64))))))))))) y0 (Int.toNat y2)).2.2.2.2.1 (at_ (Ty.pair (Ty.int IntKind.i64) (Ty.pair (Ty.int IntKind.i64) (Ty.pair (Ty.int IntKind.i64) (Ty.pair (Ty.int IntKind.i64) (Ty.pair (Ty.int IntKind.i64) (Ty.pair (Ty.int IntKind.i64) (Ty.pair (Ty.int IntKind.i64) (Ty.pair (Ty.int IntKind.i64) (Ty.pair (Ty.int IntKind.i64) (Ty.pair (Ty.int IntKind.i64) (Ty.int IntKind.i64))))))))))) y0 (Int.toNat y2)).2.2.2.2.2.1 (at_ (Ty.pair (Ty.int IntKind.i64) (Ty.pair (Ty.int IntKind.i64) (Ty.pair (Ty.int IntKind.i64) (Ty.pair (Ty.int IntKind.i64) (Ty.pair (Ty.int IntKind.i64) (Ty.pair (Ty.int IntKind.i64) (Ty.pair (Ty.int IntKind.i64) (Ty.pair (Ty.int IntKind.i64) (Ty.pair (Ty.int IntKind.i64) (Ty.pair (Ty.int IntKind.i64) (Ty.int IntKind.i64))))))))))) y0 (Int.toNat y2)).2.2.2.2.2.2.1 (at_ (Ty.pair (Ty.int IntKind.i64) (Ty.pair (Ty.int IntKind.i64) (Ty.pair (Ty.int IntKind.i64) (Ty.pair (Ty.int IntKind.i64) (Ty.pair (Ty.int IntKind.i64) (Ty.pair (Ty.int IntKind.i64) (Ty.pair (Ty.int IntKind.i64) (Ty.pair (Ty.int IntKind.i64) (Ty.pair (Ty.int IntKind.i64) (Ty.pair (Ty.int IntKind.i64) (Ty.int IntKind.i64))))))))))) y0 (Int.toNat y2)).2.2.2.2.2.2.2.1 (at_ (Ty.pair (Ty.int IntKind.i64) (Ty.pair (Ty.int IntKind.i64) (Ty.pair (Ty.int IntKind.i64) (Ty.pair (Ty.int IntKind.i64) (Ty.pair (Ty.int IntKind.i64) (Ty.pair (Ty.int IntKind.i64) (Ty.pair (Ty.int IntKind.i64) (Ty.pair (Ty.int IntKind.i64) (Ty.pair (Ty.int IntKind.i64) (Ty.pair (Ty.int IntKind.i64) (Ty.int IntKind.i64))))))))))) y0 (Int.toNat y2)).2.2.2.2.2.2.2.2.1 (at_ (Ty.pair (Ty.int IntKind.i64) (Ty.pair (Ty.int IntKind.i64) (Ty.pair (Ty.int IntKind.i64) (Ty.pair (Ty.int IntKind.i64) (Ty.pair (Ty.int IntKind.i64) (Ty.pair (Ty.int IntKind.i64) (Ty.pair (Ty.int IntKind.i64) (Ty.pair (Ty.int IntKind.i64) (Ty.pair (Ty.int IntKind.i64) (Ty.pair (Ty.int IntKind.i64) (Ty.int IntKind.i64))))))))))) y0 (Int.toNat y2)).2.2.2.2.2.2.2.2.2.1 (at_ (Ty.pair (Ty.int IntKind.i64) (Ty.pair (Ty.int IntKind.i64) (Ty.pair (Ty.int IntKind.i64) (Ty.pair (Ty.int IntKind.i64) (Ty.pair (Ty.int IntKind.i64) (Ty.pair (Ty.int IntKind.i64) (Ty.pair (Ty.int IntKind.i64) (Ty.pair (Ty.int IntKind.i64) (Ty.pair (Ty.int IntKind.i64) (Ty.pair (Ty.int IntKind.i64) (Ty.int IntKind.i64))))))))))) y0 (Int.toNat y2)).2.2.2.2.2.2.2.2.2.2 (at_ (Ty.pair (Ty.int IntKind.i64) (Ty.pair (Ty.int IntKind.i64) (Ty.pair (Ty.int IntKind.i64) (Ty.pair (Ty.int IntKind.i64) (Ty.pair (Ty.int IntKind.i64) (Ty.pair (Ty.int IntKind.i64) (Ty.pair (Ty.int IntKind.i64) (Ty.pair (Ty.int IntKind.i64) (Ty.pair (Ty.int IntKind.i64) (Ty.pair (Ty.int IntKind.i64) (Ty.int IntKind.i64))))))))))) y1 (Int.toNat y2)).1 (at_ (Ty.pair (Ty.int IntKind.i64) (Ty.pair (Ty.int IntKind.i64) (Ty.pair (Ty.int IntKind.i64) (Ty.pair (Ty.int IntKind.i64) (Ty.pair (Ty.int IntKind.i64) (Ty.pair (Ty.int IntKind.i64) (Ty.pair (Ty.int IntKind.i64) (Ty.pair (Ty.int IntKind.i64) (Ty.pair (Ty.int IntKind.i64) (Ty.pair (Ty.int IntKind.i64) (Ty.int IntKind.i64))))))))))) y1 (Int.toNat y2)).2.1 (at_ (Ty.pair (Ty.int IntKind.i64) (Ty.pair (Ty.int IntKind.i64) (Ty.pair (Ty.int IntKind.i64) (Ty.pair (Ty.int IntKind.i64) (Ty.pair (Ty.int IntKind.i64) (Ty.pair (Ty.int IntKind.i64) (Ty.pair (Ty.int IntKind.i64) (Ty.pair (Ty.int IntKind.i64) (Ty.pair (Ty.int IntKind.i64) (Ty.pair (Ty.int IntKind.i64) (Ty.int IntKind.i64))))))))))) y1 (Int.toNat y2)).2.2.1 (at_ (Ty.pair (Ty.int IntKind.i64) (Ty.pair (Ty.int IntKind.i64) (Ty.pair (Ty.int IntKind.i64) (Ty.pair (Ty.int IntKind.i64) (Ty.pair (Ty.int IntKind.i64) (Ty.pair (Ty.int IntKind.i64) (Ty.pair (Ty.int IntKind.i64) (Ty.pair (Ty.int IntKind.i64) (Ty.pair (Ty.int IntKind.i64) (Ty.pair (Ty.int IntKind.i64) (Ty.int IntKind.i64))))))))))) y1 (Int.toNat y2)).2.2.2.1 (at_ (Ty.pair (Ty.int IntKind.i64) (Ty.pair (Ty.int IntKind.i64) (Ty.pair (Ty.int IntKind.i64) (Ty.pair (Ty.int IntKind.i64) (Ty.pair (Ty.int IntKind.i64) (Ty.pair (Ty.int IntKind.i64) (Ty.pair (Ty.int IntKind.i64) (Ty.pair (Ty.int IntKind.i64) (Ty.pair (Ty.int IntKind.i64) (Ty.pair (Ty.int IntKind.i64) (Ty.int IntKind.i64))))))))))) y1 (Int.toNat y2)).2.2.2.2.1 (at_ (Ty.pair (Ty.int IntKind.i64) (Ty.pair (Ty.int IntKind.i64) (Ty.pair (Ty.int IntKind.i64) (Ty.pair (Ty.int IntKind.i64) (Ty.pair (Ty.int IntKind.i64) (Ty.pair (Ty.int IntKind.i64) (Ty.pair (Ty.int IntKind.i64) (Ty.pair (Ty.int IntKind.i64) (Ty.pair (Ty.int IntKind.i64) (Ty.pair (Ty.int IntKind.i64) (Ty.int IntKind.i64))))))))))) y1 (Int.toNat y2)).2.2.2.2.2.1 (at_ (Ty.pair (Ty.int IntKind.i64) (Ty.pair (Ty.int IntKind.i64) (Ty.pair (Ty.int IntKind.i64) (Ty.pair (Ty.int IntKind.i64) (Ty.pair (Ty.int IntKind.i64) (Ty.pair (Ty.int IntKind.i64) (Ty.pair (Ty.int IntKind.i64) (Ty.pair (Ty.int IntKind.i64) (Ty.pair (Ty.int IntKind.i64) (Ty.pair (Ty.int IntKind.i64) (Ty.int IntKind.i64))))))))))) y1 (Int.toNat y2)).2.2.2.2.2.2.1 (at_ (Ty.pair (Ty.int IntKind.i64) (Ty.pair (Ty.int IntKind.i64) (Ty.pair (Ty.int IntKind.i64) (Ty.pair (Ty.int IntKind.i64) (Ty.pair (Ty.int IntKind.i64) (Ty.pair (Ty.int IntKind.i64) (Ty.pair (Ty.int IntKind.i64) (Ty.pair (Ty.int IntKind.i64) (Ty.pair (Ty.int IntKind.i64) (Ty.pair (Ty.int IntKind.i64) (Ty.int IntKind.i64))))))))))) y1 (Int.toNat y2)).2.2.2.2.2.2.2.1 (at_ (Ty.pair (Ty.int IntKind.i64) (Ty.pair (Ty.int IntKind.i64) (Ty.pair (Ty.int IntKind.i64) (Ty.pair (Ty.int IntKind.i64) (Ty.pair (Ty.int IntKind.i64) (Ty.pair (Ty.int IntKind.i64) (Ty.pair (Ty.int IntKind.i64) (Ty.pair (Ty.int IntKind.i64) (Ty.pair (Ty.int IntKind.i64) (Ty.pair (Ty.int IntKind.i64) (Ty.int IntKind.i64))))))))))) y1 (Int.toNat y2)).2.2.2.2.2.2.2.2.1 (at_ (Ty.pair (Ty.int IntKind.i64) (Ty.pair (Ty.int IntKind.i64) (Ty.pair (Ty.int IntKind.i64) (Ty.pair (Ty.int IntKind.i64) (Ty.pair (Ty.int IntKind.i64) (Ty.pair (Ty.int IntKind.i64) (Ty.pair (Ty.int IntKind.i64) (Ty.pair (Ty.int IntKind.i64) (Ty.pair (Ty.int IntKind.i64) (Ty.pair (Ty.int IntKind.i64) (Ty.int IntKind.i64))))))))))) y1 (Int.toNat y2)).2.2.2.2.2.2.2.2.2.1 (at_ (Ty.pair (Ty.int IntKind.i64) (Ty.pair (Ty.int IntKind.i64) (Ty.pair (Ty.int IntKind.i64) (Ty.pair (Ty.int IntKind.i64) (Ty.pair (Ty.int IntKind.i64) (Ty.pair (Ty.int IntKind.i64) (Ty.pair (Ty.int IntKind.i64) (Ty.pair (Ty.int IntKind.i64) (Ty.pair (Ty.int IntKind.i64) (Ty.pair (Ty.int IntKind.i64) (Ty.int IntKind.i64))))))))))) y1 (Int.toNat y2)).2.2.2.2.2.2.2.2.2.2) (.br (!g_Vw_eqMsgMsg_0 (at_ (Ty.pair (Ty.int IntKind.i64) (Ty.pair (Ty.int IntKind.i64) (Ty.pair (Ty.int IntKind.i64) (Ty.pair (Ty.int IntKind.i64) (Ty.pair (Ty.int IntKind.i64) (Ty.pair (Ty.int IntKind.i64) (Ty.pair (Ty.int IntKind.i64) (Ty.pair (Ty.int IntKind.i64) (Ty.pair (Ty.int IntKind.i64) (Ty.pair (Ty.int IntKind.i64) (Ty.int IntKind.i64))))))))))) y0 (Int.toNat y2)).1 (at_ (Ty.pair (Ty.int IntKind.i64) (Ty.pair (Ty.int IntKind.i64) (Ty.pair (Ty.int IntKind.i64) (Ty.pair (Ty.int IntKind.i64) (Ty.pair (Ty.int IntKind.i64) (Ty.pair (Ty.int IntKind.i64) (Ty.pair (Ty.int IntKind.i64) (Ty.pair (Ty.int IntKind.i64) (Ty.pair (Ty.int IntKind.i64) (Ty.pair (Ty.int IntKind.i64) (Ty.int IntKind.i64))))))))))) y0 (Int.toNat y2)).2.1 (at_ (Ty.pair (Ty.int IntKind.i64) (Ty.pair (Ty.int IntKind.i64) (Ty.pair (Ty.int IntKind.i64) (Ty.pair (Ty.int IntKind.i64) (Ty.pair (Ty.int IntKind.i64) (Ty.pair (Ty.int IntKind.i64) (Ty.pair (Ty.int IntKind.i64) (Ty.pair (Ty.int IntKind.i64) (Ty.pair (Ty.int IntKind.i64) (Ty.pair (Ty.int IntKind.i64) (Ty.int IntKind.i64))))))))))) y0 (Int.toNat y2)).2.2.1 (at_ (Ty.pair (Ty.int IntKind.i64) (Ty.pair (Ty.int IntKind.i64) (Ty.pair (Ty.int IntKind.i64) (Ty.pair (Ty.int IntKind.i64) (Ty.pair (Ty.int IntKind.i64) (Ty.pair (Ty.int IntKind.i64) (Ty.pair (Ty.int IntKind.i64) (Ty.pair (Ty.int IntKind.i64) (Ty.pair (Ty.int IntKind.i64) (Ty.pair (Ty.int IntKind.i64) (Ty.int IntKind.i64))))))))))) y0 (Int.toNat y2)).2.2.2.1 (at_ (Ty.pair (Ty.int IntKind.i64) (Ty.pair (Ty.int IntKind.i64) (Ty.pair (Ty.int IntKind.i64) (Ty.pair (Ty.int IntKind.i64) (Ty.pair (Ty.int IntKind.i64) (Ty.pair (Ty.int IntKind.i64) (Ty.pair (Ty.int IntKind.i64) (Ty.pair (Ty.int IntKind.i64) (Ty.pair (Ty.int IntKind.i64) (Ty.pair (Ty.int IntKind.i64) (Ty.int IntKind.i64))))))))))) y0 (Int.toNat y2)).2.2.2.2.1 (at_ (Ty.pair (Ty.int IntKind.i64) (Ty.pair (Ty.int IntKind.i64) (Ty.pair (Ty.int IntKind.i64) (Ty.pair (Ty.int IntKind.i64) (Ty.pair (Ty.int IntKind.i64) (Ty.pair (Ty.int IntKind.i64) (Ty.pair (Ty.int IntKind.i64) (Ty.pair (Ty.int IntKind.i64) (Ty.pair (Ty.int IntKind.i64) (Ty.pair (Ty.int IntKind.i64) (Ty.int IntKind.i64))))))))))) y0 (Int.toNat y2)).2.2.2.2.2.1 (at_ (Ty.pair (Ty.int IntKind.i64) (Ty.pair (Ty.int IntKind.i64) (Ty.pair (Ty.int IntKind.i64) (Ty.pair (Ty.int IntKind.i64) (Ty.pair (Ty.int IntKind.i64) (Ty.pair (Ty.int IntKind.i64) (Ty.pair (Ty.int IntKind.i64) (Ty.pair (Ty.int IntKind.i64) (Ty.pair (Ty.int IntKind.i64) (Ty.pair (Ty.int IntKind.i64) (Ty.int IntKind.i64))))))))))) y0 (Int.toNat y2)).2.2.2.2.2.2.1 (at_ (Ty.pair (Ty.int IntKind.i64) (Ty.pair (Ty.int IntKind.i64) (Ty.pair (Ty.int IntKind.i64) (Ty.pair (Ty.int IntKind.i64) (Ty.pair (Ty.int IntKind.i64) (Ty.pair (Ty.int IntKind.i64) (Ty.pair (Ty.int IntKind.i64) (Ty.pair (Ty.int IntKind.i64) (Ty.pair (Ty.int IntKind.i64) (Ty.pair (Ty.int IntKind.i64) (Ty.int IntKind.i64))))))))))) y0 (Int.toNat y2)).2.2.2.2.2.2.2.1 (at_ (Ty.pair (Ty.int IntKind.i64) (Ty.pair (Ty.int IntKind.i64) (Ty.pair (Ty.int IntKind.i64) (Ty.pair (Ty.int IntKind.i64) (Ty.pair (Ty.int IntKind.i64) (Ty.pair (Ty.int IntKind.i64) (Ty.pair (Ty.int IntKind.i64) (Ty.pair (Ty.int IntKind.i64) (Ty.pair (Ty.int IntKind.i64) (Ty.pair (Ty.int IntKind.i64) (Ty.int IntKind.i64))))))))))) y0 (Int.toNat y2)).2.2.2.2.2.2.2.2.1 (at_ (Ty.pair (Ty.int IntKind.i64) (Ty.pair (Ty.int IntKind.i64) (Ty.pair (Ty.int IntKind.i64) (Ty.pair (Ty.int IntKind.i64) (Ty.pair (Ty.int IntKind.i64) (Ty.pair (Ty.int IntKind.i64) (Ty.pair (Ty.int IntKind.i64) (Ty.pair (Ty.int IntKind.i64) (Ty.pair (Ty.int IntKind.i64) (Ty.pair (Ty.int IntKind.i64) (Ty.int IntKind.i64))))))))))) y0 (Int.toNat y2)).2.2.2.2.2.2.2.2.2.1 (at_ (Ty.pair (Ty.int IntKind.i64) (Ty.pair (Ty.int IntKind.i64) (Ty.pair (Ty.int IntKind.i64) (Ty.pair (Ty.int IntKind.i64) (Ty.pair (Ty.int IntKind.i64) (Ty.pair (Ty.int IntKind.i64) (Ty.pair (Ty.int IntKind.i64) (Ty.pair (Ty.int IntKind.i64) (Ty.pair (Ty.int IntKind.i64) (Ty.pair (Ty.int IntKind.i64) (Ty.int IntKind.i64))))))))))) y0 (Int.toNat y2)).2.2.2.2.2.2.2.2.2.2 (at_ (Ty.pair (Ty.int IntKind.i64) (Ty.pair (Ty.int IntKind.i64) (Ty.pair (Ty.int IntKind.i64) (Ty.pair (Ty.int IntKind.i64) (Ty.pair (Ty.int IntKind.i64) (Ty.pair (Ty.int IntKind.i64) (Ty.pair (Ty.int IntKind.i64) (Ty.pair (Ty.int IntKind.i64) (Ty.pair (Ty.int IntKind.i64) (Ty.pair (Ty.int IntKind.i64) (Ty.int IntKind.i64))))))))))) y1 (Int.toNat y2)).1 (at_ (Ty.pair (Ty.int IntKind.i64) (Ty.pair (Ty.int IntKind.i64) (Ty.pair (Ty.int IntKind.i64) (Ty.pair (Ty.int IntKind.i64) (Ty.pair (Ty.int IntKind.i64) (Ty.pair (Ty.int IntKind.i64) (Ty.pair (Ty.int IntKind.i64) (Ty.pair (Ty.int IntKind.i64) (Ty.pair (Ty.int IntKind.i64) (Ty.pair (Ty.int IntKind.i64) (Ty.int IntKind.i64))))))))))) y1 (Int.toNat y2)).2.1 (at_ (Ty.pair (Ty.int IntKind.i64) (Ty.pair (Ty.int IntKind.i64) (Ty.pair (Ty.int IntKind.i64) (Ty.pair (Ty.int IntKind.i64) (Ty.pair (Ty.int IntKind.i64) (Ty.pair (Ty.int IntKind.i64) (Ty.pair (Ty.int IntKind.i64) (Ty.pair (Ty.int IntKind.i64) (Ty.pair (Ty.int IntKind.i64) (Ty.pair (Ty.int IntKind.i64) (Ty.int IntKind.i64))))))))))) y1 (Int.toNat y2)).2.2.1 (at_ (Ty.pair (Ty.int IntKind.i64) (Ty.pair (Ty.int IntKind.i64) (Ty.pair (Ty.int IntKind.i64) (Ty.pair (Ty.int IntKind.i64) (Ty.pair (Ty.int IntKind.i64) (Ty.pair (Ty.int IntKind.i64) (Ty.pair (Ty.int IntKind.i64) (Ty.pair (Ty.int IntKind.i64) (Ty.pair (Ty.int IntKind.i64) (Ty.pair (Ty.int IntKind.i64) (Ty.int IntKind.i64))))))))))) y1 (Int.toNat y2)).2.2.2.1 (at_ (Ty.pair (Ty.int IntKind.i64) (Ty.pair (Ty.int IntKind.i64) (Ty.pair (Ty.int IntKind.i64) (Ty.pair (Ty.int IntKind.i64) (Ty.pair (Ty.int IntKind.i64) (Ty.pair (Ty.int IntKind.i64) (Ty.pair (Ty.int IntKind.i64) (Ty.pair (Ty.int IntKind.i64) (Ty.pair (Ty.int IntKind.i64) (Ty.pair (Ty.int IntKind.i64) (Ty.int IntKind.i64))))))))))) y1 (Int.toNat y2)).2.2.2.2.1 (at_ (Ty.pair (Ty.int IntKind.i64) (Ty.pair (Ty.int IntKind.i64) (Ty.pair (Ty.int IntKind.i64) (Ty.pair (Ty.int IntKind.i64) (Ty.pair (Ty.int IntKind.i64) (Ty.pair (Ty.int IntKind.i64) (Ty.pair (Ty.int IntKind.i64) (Ty.pair (Ty.int IntKind.i64) (Ty.pair (Ty.int IntKind.i64) (Ty.pair (Ty.int IntKind.i64) (Ty.int IntKind.i64))))))))))) y1 (Int.toNat y2)).2.2.2.2.2.1 (at_ (Ty.pair (Ty.int IntKind.i64) (Ty.pair (Ty.int IntKind.i64) (Ty.pair (Ty.int IntKind.i64) (Ty.pair (Ty.int IntKind.i64) (Ty.pair (Ty.int IntKind.i64) (Ty.pair (Ty.int IntKind.i64) (Ty.pair (Ty.int IntKind.i64) (Ty.pair (Ty.int IntKind.i64) (Ty.pair (Ty.int IntKind.i64) (Ty.pair (Ty.int IntKind.i64) (Ty.int IntKind.i64))))))))))) y1 (Int.toNat y2)).2.2.2.2.2.2.1 (at_ (Ty.pair (Ty.int IntKind.i64) (Ty.pair (Ty.int IntKind.i64) (Ty.pair (Ty.int IntKind.i64) (Ty.pair (Ty.int IntKind.i64) (Ty.pair (Ty.int IntKind.i64) (Ty.pair (Ty.int IntKind.i64) (Ty.pair (Ty.int IntKind.i64) (Ty.pair (Ty.int IntKind.i64) (Ty.pair (Ty.int IntKind.i64) (Ty.pair (Ty.int IntKind.i64) (Ty.int IntKind.i64))))))))))) y1 (Int.toNat y2)).2.2.2.2.2.2.2.1 (at_ (Ty.pair (Ty.int IntKind.i64) (Ty.pair (Ty.int IntKind.i64) (Ty.pair (Ty.int IntKind.i64) (Ty.pair (Ty.int IntKind.i64) (Ty.pair (Ty.int IntKind.i64) (Ty.pair (Ty.int IntKind.i64) (Ty.pair (Ty.int IntKind.i64) (Ty.pair (Ty.int IntKind.i64) (Ty.pair (Ty.int IntKind.i64) (Ty.pair (Ty.int IntKind.i64) (Ty.int IntKind.i64))))))))))) y1 (Int.toNat y2)).2.2.2.2.2.2.2.2.1 (at_ (Ty.pair (Ty.int IntKind.i64) (Ty.pair (Ty.int IntKind.i64) (Ty.pair (Ty.int IntKind.i64) (Ty.pair (Ty.int IntKind.i64) (Ty.pair (Ty.int IntKind.i64) (Ty.pair (Ty.int IntKind.i64) (Ty.pair (Ty.int IntKind.i64) (Ty.pair (Ty.int IntKind.i64) (Ty.pair (Ty.int IntKind.i64) (Ty.pair (Ty.int IntKind.i64) (Ty.int IntKind.i64))))))))))) y1 (Int.toNat y2)).2.2.2.2.2.2.2.2.2.1 (at_ (Ty.pair (Ty.int IntKind.i64) (Ty.pair (Ty.int IntKind.i64) (Ty.pair (Ty.int IntKind.i64) (Ty.pair (Ty.int IntKind.i64) (Ty.pair (Ty.int IntKind.i64) (Ty.pair (Ty.int IntKind.i64) (Ty.pair (Ty.int IntKind.i64) (Ty.pair (Ty.int IntKind.i64) (Ty.pair (Ty.int IntKind.i64) (Ty.pair (Ty.int IntKind.i64) (Ty.int IntKind.i64))))))))))) y1 (Int.toNat y2)).2.2.2.2.2.2.2.2.2.2) (.out (.inl false)) (.br (true) (.go (IntKind.wrap IntKind.i64 (y2 + (1:Int)))) .bad)) .bad) .bad) .bad) (.out (.inr (())))) .bad
noncomputable def g_Lw_eqMsgMsgS_0 (y0:List (Int×(Int×(Int×(Int×(Int×(Int×(Int×(Int×(Int×(Int×Int))))))))))) (y1:List (Int×(Int×(Int×(Int×(Int×(Int×(Int×(Int×(Int×(Int×Int))))))))))) (x:Int):Option ((Bool) ⊕ (Unit)) := loopO (g_Sw_eqMsgMsgS_0 y0 y1) x
noncomputable def xw_eqMsgMsgS_0 (y0:List (Int×(Int×(Int×(Int×(Int×(Int×(Int×(Int×(Int×(Int×Int))))))))))) (y1:List (Int×(Int×(Int×(Int×(Int×(Int×(Int×(Int×(Int×(Int×Int))))))))))):((Bool) ⊕ (Unit)) → Ex×List (Pl×LV) := fun
 | .inl r => (.ret,[(.T 4,.t (.val false [.bool r]))])
 | .inr (r) => (.exit 0,[(.T 4,.t (.val false [.undef]))])
noncomputable def Ow_eqMsgMsgS_1:Orc := fun b h => match b,h with
 | 0,[(.T 0,.t (.val false [.sl .any 54 (.pair (.int .i64) (.pair (.int .i64) (.pair (.int .i64) (.pair (.int .i64) (.pair (.int .i64) (.pair (.int .i64) (.pair (.int .i64) (.pair (.int .i64) (.pair (.int .i64) (.pair (.int .i64) (.int .i64))))))))))) y0])),(.T 1,.t (.val false [.sl .any 54 (.pair (.int .i64) (.pair (.int .i64) (.pair (.int .i64) (.pair (.int .i64) (.pair (.int .i64) (.pair (.int .i64) (.pair (.int .i64) (.pair (.int .i64) (.pair (.int .i64) (.pair (.int .i64) (.int .i64))))))))))) y1])),(.T 5,.t (.val false [.int .i64 y2]))] => some (okO (g_Lw_eqMsgMsgS_0 y0 y1 y2),(.br (isL (valO (g_Lw_eqMsgMsgS_0 y0 y1 y2))) (.leaf .ret [(.T 4,.t (.val false [.bool (getL (valO (g_Lw_eqMsgMsgS_0 y0 y1 y2)))]))]) (.leaf (.exit 0) [(.T 4,.t (.val false [.undef]))])))
 | b,h => Ow_eqMsgMsgS_0 b h
theorem bw_eqMsgMsgS_0 (y0:List (Int×(Int×(Int×(Int×(Int×(Int×(Int×(Int×(Int×(Int×Int))))))))))) (y1:List (Int×(Int×(Int×(Int×(Int×(Int×(Int×(Int×(Int×(Int×Int))))))))))) (y2:Int):Tr.bt Ew_eqMsgMsgS Ow_eqMsgMsgS_0 (exec Ew_eqMsgMsgS 0 cw_eqMsgMsgS_0 (St.of (hw_eqMsgMsgS_0 y0 y1 y2)) (leafRd Ew_eqMsgMsgS 0)) = (g_Sw_eqMsgMsgS_0 y0 y1 y2).bt (fun (y2:Int) => (hw_eqMsgMsgS_0 y0 y1 y2)) (xw_eqMsgMsgS_0 y0 y1) := by kernel_rfl
theorem kw_eqMsgMsgS_1:OrcOk Ew_eqMsgMsgS Ow_eqMsgMsgS_1 lsw_eqMsgMsgS 1 := orc_add kw_eqMsgMsgS_0 (fun n p hp h ex h' ho => by
 obtain ⟨b,c⟩ := p
 obtain ⟨xt,h1,h2⟩ := ho
 have h1:Ow_eqMsgMsgS_1 b h = some (true,xt) := h1
 unfold Ow_eqMsgMsgS_1 at h1
 split at h1
 ·injection h1 with h1
  injection h1 with e1 e2
  subst e2
  have hc:c = cw_eqMsgMsgS_0 := mw_eqMsgMsgS_0 _ hp rfl
  subst hc
  right
  rename_i y0 y1 y2
  have key := LT_step kw_eqMsgMsgS_0 hp (fun q hq => loopsAll_in _ _ _ _ hp hq) (fun (y2:Int) => (hw_eqMsgMsgS_0 y0 y1 y2)) (xw_eqMsgMsgS_0 y0 y1) (g_Sw_eqMsgMsgS_0 y0 y1) (fun x => by first | exact bw_eqMsgMsgS_0 y0 y1 x) n (x := y2) (okO_some e1)
  have hx:∀ r,XT.sel (.br (isL r) (.leaf .ret [(.T 4,.t (.val false [.bool (getL r)]))]) (.leaf (.exit 0) [(.T 4,.t (.val false [.undef]))])) = xw_eqMsgMsgS_0 y0 y1 r := fun r => by first | rfl | (rcases r with r | r <;> rfl) | (rcases r with r | r | r <;> rfl) | (rcases r with r | r | r | r <;> rfl)
  have h3 := (hx (valO (g_Lw_eqMsgMsgS_0 y0 y1 y2))).symm.trans h2
  have e3 := congrArg Prod.fst h3
  have e4 := congrArg Prod.snd h3
  simp only at e3 e4
  rw [← e3,← e4]
  exact key
 ·exact .inl ⟨xt,h1,h2⟩)
noncomputable def g_Aw_eqMsgMsgS (a0:List (Int×(Int×(Int×(Int×(Int×(Int×(Int×(Int×(Int×(Int×Int))))))))))) (a1:List (Int×(Int×(Int×(Int×(Int×(Int×(Int×(Int×(Int×(Int×Int))))))))))):Bool := (↑(List.length a0):Int) != (↑(List.length a1):Int) || okO (g_Lw_eqMsgMsgS_0 a0 a1 (0:Int))
noncomputable def g_Vw_eqMsgMsgS_0 (a0:List (Int×(Int×(Int×(Int×(Int×(Int×(Int×(Int×(Int×(Int×Int))))))))))) (a1:List (Int×(Int×(Int×(Int×(Int×(Int×(Int×(Int×(Int×(Int×Int))))))))))):Bool := bif (↑(List.length a0):Int) != (↑(List.length a1):Int) then false else bif isL (valO (g_Lw_eqMsgMsgS_0 a0 a1 (0:Int))) then getL (valO (g_Lw_eqMsgMsgS_0 a0 a1 (0:Int))) else true
noncomputable def Fw_eqMsgMsgS:FSem := fun ys => match ys with
 | [.val false [.sl .any 54 (.pair (.int .i64) (.pair (.int .i64) (.pair (.int .i64) (.pair (.int .i64) (.pair (.int .i64) (.pair (.int .i64) (.pair (.int .i64) (.pair (.int .i64) (.pair (.int .i64) (.pair (.int .i64) (.int .i64))))))))))) a0],.val false [.sl .any 54 (.pair (.int .i64) (.pair (.int .i64) (.pair (.int .i64) (.pair (.int .i64) (.pair (.int .i64) (.pair (.int .i64) (.pair (.int .i64) (.pair (.int .i64) (.pair (.int .i64) (.pair (.int .i64) (.int .i64))))))))))) a1]] => some ((g_Aw_eqMsgMsgS a0 a1),.val false [.bool (g_Vw_eqMsgMsgS_0 a0 a1)],[])
 | _ => none
theorem vw_eqMsgMsgS (a0:List (Int×(Int×(Int×(Int×(Int×(Int×(Int×(Int×(Int×(Int×Int))))))))))) (a1:List (Int×(Int×(Int×(Int×(Int×(Int×(Int×(Int×(Int×(Int×Int))))))))))):collapseH .std Ew_eqMsgMsgS Ow_eqMsgMsgS_1 (execFn Ew_eqMsgMsgS Try.f11 msw_eqMsgMsgS [.val false [.sl .any 54 (.pair (.int .i64) (.pair (.int .i64) (.pair (.int .i64) (.pair (.int .i64) (.pair (.int .i64) (.pair (.int .i64) (.pair (.int .i64) (.pair (.int .i64) (.pair (.int .i64) (.pair (.int .i64) (.int .i64))))))))))) a0],.val false [.sl .any 54 (.pair (.int .i64) (.pair (.int .i64) (.pair (.int .i64) (.pair (.int .i64) (.pair (.int .i64) (.pair (.int .i64) (.pair (.int .i64) (.pair (.int .i64) (.pair (.int .i64) (.pair (.int .i64) (.int .i64))))))))))) a1]]) = some ((g_Aw_eqMsgMsgS a0 a1),.val false [.bool (g_Vw_eqMsgMsgS_0 a0 a1)],[]) := by kernel_rfl
theorem sw_eqMsgMsgS:Sound Try.prog 11 msw_eqMsgMsgS Fw_eqMsgMsgS := by
 refine fn_gen goodw_eqMsgMsgS (by kernel_rfl) .std (fn := Try.f11) (c := (Try.f11.body.getD .skip)) (o := Ow_eqMsgMsgS_1) (k := 1) (by kernel_rfl) (by kernel_rfl) (by kernel_rfl) (by kernel_rfl) (by decide) kw_eqMsgMsgS_1 ?_
 intro ys r outs h
 unfold Fw_eqMsgMsgS at h
 split at h
 ·exact (vw_eqMsgMsgS _ _).trans h
 ·cases h
noncomputable def Ew_eqOpOpS:Env where
 tt := mkTI Try.prog
 fn := fun f => match f with
  | 27 => some (msw_eqOpOp,FSem.wk msw_eqOpOp Fw_eqOpOp)
  | _ => none
 bxf := fun _ => none
 mv := []
 keep := fun b => match b with
  | 0 => [(0,false),(1,false),(5,false)]
  | _ => []
 keepB := fun b => match b with
  | 0 => []
  | _ => []
 keepX := fun b => match b with
  | 0 => [(4,false)]
  | _ => []
 keepXB := fun b => match b with
  | 0 => []
  | _ => []
theorem goodFw_eqOpOpS:∀ f ms F,Ew_eqOpOpS.fn f = some (ms,F) → Sound Try.prog f ms F := fun f ms F h => by
 unfold Ew_eqOpOpS at h
 dsimp only at h
 split at h
 ·injection h with h; injection h with e1 e2; subst e1 e2; exact Sound.wk sw_eqOpOp
 ·cases h
theorem goodBw_eqOpOpS:∀ f ms F,Ew_eqOpOpS.bxf f = some (ms,F) → SoundB Try.prog f ms F := fun f ms F h => by cases h
theorem goodw_eqOpOpS:Good Try.prog Ew_eqOpOpS := ⟨rfl,goodFw_eqOpOpS,goodBw_eqOpOpS⟩
noncomputable def Ow_eqOpOpS_0:Orc := fun _ _ => none
noncomputable def msw_eqOpOpS:List PM := [.rd,.rd]
noncomputable def lsw_eqOpOpS:List (Nat×Code) := loopsAll 0 (Try.f12.body.getD .skip)
noncomputable def cw_eqOpOpS_0:Code := (loopOf 0 (Try.f12.body.getD .skip)).getD .skip
theorem lseqw_eqOpOpS:lsw_eqOpOpS = [(0,cw_eqOpOpS_0)] := by kernel_rfl
theorem mw_eqOpOpS_0:∀ p,p ∈ lsw_eqOpOpS → p.1 = 0 → p.2 = cw_eqOpOpS_0 := by
 intro p hp
 rw [lseqw_eqOpOpS] at hp
 simp only [List.mem_cons,List.not_mem_nil,or_false] at hp
 subst hp; simp
theorem kw_eqOpOpS_0:OrcOk Ew_eqOpOpS Ow_eqOpOpS_0 lsw_eqOpOpS 0 := orcOk_none
noncomputable def hw_eqOpOpS_0 (y0:List (Int×(Int×(Int×(Int×(Int×(Int×Int))))))) (y1:List (Int×(Int×(Int×(Int×(Int×(Int×Int))))))) (y2:Int):List (Pl×LV) := [(.T 0,.t (.val false [.sl .any 52 (.pair (.int .i64) (.pair (.int .i64) (.pair (.int .i64) (.pair (.int .i64) (.pair (.int .i64) (.pair (.int .i64) (.int .i64))))))) y0])),(.T 1,.t (.val false [.sl .any 52 (.pair (.int .i64) (.pair (.int .i64) (.pair (.int .i64) (.pair (.int .i64) (.pair (.int .i64) (.pair (.int .i64) (.int .i64))))))) y1])),(.T 5,.t (.val false [.int .i64 y2]))]
noncomputable def g_Sw_eqOpOpS_0 (y0:List (Int×(Int×(Int×(Int×(Int×(Int×Int))))))) (y1:List (Int×(Int×(Int×(Int×(Int×(Int×Int))))))):(Int) → RT (Int) ((Bool) ⊕ (Unit))
 | y2 => .br (true) (.br (decide (y2 < (↑(List.length y0):Int))) (.br (decide ((0:Int) ≤ y2 ∧ y2 < (↑(List.length y0):Int))) (.br (decide ((0:Int) ≤ y2 ∧ y2 < (↑(List.length y1):Int))) (.br (g_Aw_eqOpOp (at_ (Ty.pair (Ty.int IntKind.i64) (Ty.pair (Ty.int IntKind.i64) (Ty.pair (Ty.int IntKind.i64) (Ty.pair (Ty.int IntKind.i64) (Ty.pair (Ty.int IntKind.i64) (Ty.pair (Ty.int IntKind.i64) (Ty.int IntKind.i64))))))) y0 (Int.toNat y2)).1 (at_ (Ty.pair (Ty.int IntKind.i64) (Ty.pair (Ty.int IntKind.i64) (Ty.pair (Ty.int IntKind.i64) (Ty.pair (Ty.int IntKind.i64) (Ty.pair (Ty.int IntKind.i64) (Ty.pair (Ty.int IntKind.i64) (Ty.int IntKind.i64))))))) y0 (Int.toNat y2)).2.1 (at_ (Ty.pair (Ty.int IntKind.i64) (Ty.pair (Ty.int IntKind.i64) (Ty.pair (Ty.int IntKind.i64) (Ty.pair (Ty.int IntKind.i64) (Ty.pair (Ty.int IntKind.i64) (Ty.pair (Ty.int IntKind.i64) (Ty.int IntKind.i64))))))) y0 (Int.toNat y2)).2.2.1 (at_ (Ty.pair (Ty.int IntKind.i64) (Ty.pair (Ty.int IntKind.i64) (Ty.pair (Ty.int IntKind.i64) (Ty.pair (Ty.int IntKind.i64) (Ty.pair (Ty.int IntKind.i64) (Ty.pair (Ty.int IntKind.i64) (Ty.int IntKind.i64))))))) y0 (Int.toNat y2)).2.2.2.1 (at_ (Ty.pair (Ty.int IntKind.i64) (Ty.pair (Ty.int IntKind.i64) (Ty.pair (Ty.int IntKind.i64) (Ty.pair (Ty.int IntKind.i64) (Ty.pair (Ty.int IntKind.i64) (Ty.pair (Ty.int IntKind.i64) (Ty.int IntKind.i64))))))) y0 (Int.toNat y2)).2.2.2.2.1 (at_ (Ty.pair (Ty.int IntKind.i64) (Ty.pair (Ty.int IntKind.i64) (Ty.pair (Ty.int IntKind.i64) (Ty.pair (Ty.int IntKind.i64) (Ty.pair (Ty.int IntKind.i64) (Ty.pair (Ty.int IntKind.i64) (Ty.int IntKind.i64))))))) y0 (Int.toNat y2)).2.2.2.2.2.1 (at_ (Ty.pair (Ty.int IntKind.i64) (Ty.pair (Ty.int IntKind.i64) (Ty.pair (Ty.int IntKind.i64) (Ty.pair (Ty.int IntKind.i64) (Ty.pair (Ty.int IntKind.i64) (Ty.pair (Ty.int IntKind.i64) (Ty.int IntKind.i64))))))) y0 (Int.toNat y2)).2.2.2.2.2.2 (at_ (Ty.pair (Ty.int IntKind.i64) (Ty.pair (Ty.int IntKind.i64) (Ty.pair (Ty.int IntKind.i64) (Ty.pair (Ty.int IntKind.i64) (Ty.pair (Ty.int IntKind.i64) (Ty.pair (Ty.int IntKind.i64) (Ty.int IntKind.i64))))))) y1 (Int.toNat y2)).1 (at_ (Ty.pair (Ty.int IntKind.i64) (Ty.pair (Ty.int IntKind.i64) (Ty.pair (Ty.int IntKind.i64) (Ty.pair (Ty.int IntKind.i64) (Ty.pair (Ty.int IntKind.i64) (Ty.pair (Ty.int IntKind.i64) (Ty.int IntKind.i64))))))) y1 (Int.toNat y2)).2.1 (at_ (Ty.pair (Ty.int IntKind.i64) (Ty.pair (Ty.int IntKind.i64) (Ty.pair (Ty.int IntKind.i64) (Ty.pair (Ty.int IntKind.i64) (Ty.pair (Ty.int IntKind.i64) (Ty.pair (Ty.int IntKind.i64) (Ty.int IntKind.i64))))))) y1 (Int.toNat y2)).2.2.1 (at_ (Ty.pair (Ty.int IntKind.i64) (Ty.pair (Ty.int IntKind.i64) (Ty.pair (Ty.int IntKind.i64) (Ty.pair (Ty.int IntKind.i64) (Ty.pair (Ty.int IntKind.i64) (Ty.pair (Ty.int IntKind.i64) (Ty.int IntKind.i64))))))) y1 (Int.toNat y2)).2.2.2.1 (at_ (Ty.pair (Ty.int IntKind.i64) (Ty.pair (Ty.int IntKind.i64) (Ty.pair (Ty.int IntKind.i64) (Ty.pair (Ty.int IntKind.i64) (Ty.pair (Ty.int IntKind.i64) (Ty.pair (Ty.int IntKind.i64) (Ty.int IntKind.i64))))))) y1 (Int.toNat y2)).2.2.2.2.1 (at_ (Ty.pair (Ty.int IntKind.i64) (Ty.pair (Ty.int IntKind.i64) (Ty.pair (Ty.int IntKind.i64) (Ty.pair (Ty.int IntKind.i64) (Ty.pair (Ty.int IntKind.i64) (Ty.pair (Ty.int IntKind.i64) (Ty.int IntKind.i64))))))) y1 (Int.toNat y2)).2.2.2.2.2.1 (at_ (Ty.pair (Ty.int IntKind.i64) (Ty.pair (Ty.int IntKind.i64) (Ty.pair (Ty.int IntKind.i64) (Ty.pair (Ty.int IntKind.i64) (Ty.pair (Ty.int IntKind.i64) (Ty.pair (Ty.int IntKind.i64) (Ty.int IntKind.i64))))))) y1 (Int.toNat y2)).2.2.2.2.2.2) (.br (!g_Vw_eqOpOp_0 (at_ (Ty.pair (Ty.int IntKind.i64) (Ty.pair (Ty.int IntKind.i64) (Ty.pair (Ty.int IntKind.i64) (Ty.pair (Ty.int IntKind.i64) (Ty.pair (Ty.int IntKind.i64) (Ty.pair (Ty.int IntKind.i64) (Ty.int IntKind.i64))))))) y0 (Int.toNat y2)).1 (at_ (Ty.pair (Ty.int IntKind.i64) (Ty.pair (Ty.int IntKind.i64) (Ty.pair (Ty.int IntKind.i64) (Ty.pair (Ty.int IntKind.i64) (Ty.pair (Ty.int IntKind.i64) (Ty.pair (Ty.int IntKind.i64) (Ty.int IntKind.i64))))))) y0 (Int.toNat y2)).2.1 (at_ (Ty.pair (Ty.int IntKind.i64) (Ty.pair (Ty.int IntKind.i64) (Ty.pair (Ty.int IntKind.i64) (Ty.pair (Ty.int IntKind.i64) (Ty.pair (Ty.int IntKind.i64) (Ty.pair (Ty.int IntKind.i64) (Ty.int IntKind.i64))))))) y0 (Int.toNat y2)).2.2.1 (at_ (Ty.pair (Ty.int IntKind.i64) (Ty.pair (Ty.int IntKind.i64) (Ty.pair (Ty.int IntKind.i64) (Ty.pair (Ty.int IntKind.i64) (Ty.pair (Ty.int IntKind.i64) (Ty.pair (Ty.int IntKind.i64) (Ty.int IntKind.i64))))))) y0 (Int.toNat y2)).2.2.2.1 (at_ (Ty.pair (Ty.int IntKind.i64) (Ty.pair (Ty.int IntKind.i64) (Ty.pair (Ty.int IntKind.i64) (Ty.pair (Ty.int IntKind.i64) (Ty.pair (Ty.int IntKind.i64) (Ty.pair (Ty.int IntKind.i64) (Ty.int IntKind.i64))))))) y0 (Int.toNat y2)).2.2.2.2.1 (at_ (Ty.pair (Ty.int IntKind.i64) (Ty.pair (Ty.int IntKind.i64) (Ty.pair (Ty.int IntKind.i64) (Ty.pair (Ty.int IntKind.i64) (Ty.pair (Ty.int IntKind.i64) (Ty.pair (Ty.int IntKind.i64) (Ty.int IntKind.i64))))))) y0 (Int.toNat y2)).2.2.2.2.2.1 (at_ (Ty.pair (Ty.int IntKind.i64) (Ty.pair (Ty.int IntKind.i64) (Ty.pair (Ty.int IntKind.i64) (Ty.pair (Ty.int IntKind.i64) (Ty.pair (Ty.int IntKind.i64) (Ty.pair (Ty.int IntKind.i64) (Ty.int IntKind.i64))))))) y0 (Int.toNat y2)).2.2.2.2.2.2 (at_ (Ty.pair (Ty.int IntKind.i64) (Ty.pair (Ty.int IntKind.i64) (Ty.pair (Ty.int IntKind.i64) (Ty.pair (Ty.int IntKind.i64) (Ty.pair (Ty.int IntKind.i64) (Ty.pair (Ty.int IntKind.i64) (Ty.int IntKind.i64))))))) y1 (Int.toNat y2)).1 (at_ (Ty.pair (Ty.int IntKind.i64) (Ty.pair (Ty.int IntKind.i64) (Ty.pair (Ty.int IntKind.i64) (Ty.pair (Ty.int IntKind.i64) (Ty.pair (Ty.int IntKind.i64) (Ty.pair (Ty.int IntKind.i64) (Ty.int IntKind.i64))))))) y1 (Int.toNat y2)).2.1 (at_ (Ty.pair (Ty.int IntKind.i64) (Ty.pair (Ty.int IntKind.i64) (Ty.pair (Ty.int IntKind.i64) (Ty.pair (Ty.int IntKind.i64) (Ty.pair (Ty.int IntKind.i64) (Ty.pair (Ty.int IntKind.i64) (Ty.int IntKind.i64))))))) y1 (Int.toNat y2)).2.2.1 (at_ (Ty.pair (Ty.int IntKind.i64) (Ty.pair (Ty.int IntKind.i64) (Ty.pair (Ty.int IntKind.i64) (Ty.pair (Ty.int IntKind.i64) (Ty.pair (Ty.int IntKind.i64) (Ty.pair (Ty.int IntKind.i64) (Ty.int IntKind.i64))))))) y1 (Int.toNat y2)).2.2.2.1 (at_ (Ty.pair (Ty.int IntKind.i64) (Ty.pair (Ty.int IntKind.i64) (Ty.pair (Ty.int IntKind.i64) (Ty.pair (Ty.int IntKind.i64) (Ty.pair (Ty.int IntKind.i64) (Ty.pair (Ty.int IntKind.i64) (Ty.int IntKind.i64))))))) y1 (Int.toNat y2)).2.2.2.2.1 (at_ (Ty.pair (Ty.int IntKind.i64) (Ty.pair (Ty.int IntKind.i64) (Ty.pair (Ty.int IntKind.i64) (Ty.pair (Ty.int IntKind.i64) (Ty.pair (Ty.int IntKind.i64) (Ty.pair (Ty.int IntKind.i64) (Ty.int IntKind.i64))))))) y1 (Int.toNat y2)).2.2.2.2.2.1 (at_ (Ty.pair (Ty.int IntKind.i64) (Ty.pair (Ty.int IntKind.i64) (Ty.pair (Ty.int IntKind.i64) (Ty.pair (Ty.int IntKind.i64) (Ty.pair (Ty.int IntKind.i64) (Ty.pair (Ty.int IntKind.i64) (Ty.int IntKind.i64))))))) y1 (Int.toNat y2)).2.2.2.2.2.2) (.out (.inl false)) (.br (true) (.go (IntKind.wrap IntKind.i64 (y2 + (1:Int)))) .bad)) .bad) .bad) .bad) (.out (.inr (())))) .bad
noncomputable def g_Lw_eqOpOpS_0 (y0:List (Int×(Int×(Int×(Int×(Int×(Int×Int))))))) (y1:List (Int×(Int×(Int×(Int×(Int×(Int×Int))))))) (x:Int):Option ((Bool) ⊕ (Unit)) := loopO (g_Sw_eqOpOpS_0 y0 y1) x
noncomputable def xw_eqOpOpS_0 (y0:List (Int×(Int×(Int×(Int×(Int×(Int×Int))))))) (y1:List (Int×(Int×(Int×(Int×(Int×(Int×Int))))))):((Bool) ⊕ (Unit)) → Ex×List (Pl×LV) := fun
 | .inl r => (.ret,[(.T 4,.t (.val false [.bool r]))])
 | .inr (r) => (.exit 0,[(.T 4,.t (.val false [.undef]))])
noncomputable def Ow_eqOpOpS_1:Orc := fun b h => match b,h with
 | 0,[(.T 0,.t (.val false [.sl .any 52 (.pair (.int .i64) (.pair (.int .i64) (.pair (.int .i64) (.pair (.int .i64) (.pair (.int .i64) (.pair (.int .i64) (.int .i64))))))) y0])),(.T 1,.t (.val false [.sl .any 52 (.pair (.int .i64) (.pair (.int .i64) (.pair (.int .i64) (.pair (.int .i64) (.pair (.int .i64) (.pair (.int .i64) (.int .i64))))))) y1])),(.T 5,.t (.val false [.int .i64 y2]))] => some (okO (g_Lw_eqOpOpS_0 y0 y1 y2),(.br (isL (valO (g_Lw_eqOpOpS_0 y0 y1 y2))) (.leaf .ret [(.T 4,.t (.val false [.bool (getL (valO (g_Lw_eqOpOpS_0 y0 y1 y2)))]))]) (.leaf (.exit 0) [(.T 4,.t (.val false [.undef]))])))
 | b,h => Ow_eqOpOpS_0 b h
theorem bw_eqOpOpS_0 (y0:List (Int×(Int×(Int×(Int×(Int×(Int×Int))))))) (y1:List (Int×(Int×(Int×(Int×(Int×(Int×Int))))))) (y2:Int):Tr.bt Ew_eqOpOpS Ow_eqOpOpS_0 (exec Ew_eqOpOpS 0 cw_eqOpOpS_0 (St.of (hw_eqOpOpS_0 y0 y1 y2)) (leafRd Ew_eqOpOpS 0)) = (g_Sw_eqOpOpS_0 y0 y1 y2).bt (fun (y2:Int) => (hw_eqOpOpS_0 y0 y1 y2)) (xw_eqOpOpS_0 y0 y1) := by kernel_rfl
theorem kw_eqOpOpS_1:OrcOk Ew_eqOpOpS Ow_eqOpOpS_1 lsw_eqOpOpS 1 := orc_add kw_eqOpOpS_0 (fun n p hp h ex h' ho => by
 obtain ⟨b,c⟩ := p
 obtain ⟨xt,h1,h2⟩ := ho
 have h1:Ow_eqOpOpS_1 b h = some (true,xt) := h1
 unfold Ow_eqOpOpS_1 at h1
 split at h1
 ·injection h1 with h1
  injection h1 with e1 e2
  subst e2
  have hc:c = cw_eqOpOpS_0 := mw_eqOpOpS_0 _ hp rfl
  subst hc
  right
  rename_i y0 y1 y2
  have key := LT_step kw_eqOpOpS_0 hp (fun q hq => loopsAll_in _ _ _ _ hp hq) (fun (y2:Int) => (hw_eqOpOpS_0 y0 y1 y2)) (xw_eqOpOpS_0 y0 y1) (g_Sw_eqOpOpS_0 y0 y1) (fun x => by first | exact bw_eqOpOpS_0 y0 y1 x) n (x := y2) (okO_some e1)
  have hx:∀ r,XT.sel (.br (isL r) (.leaf .ret [(.T 4,.t (.val false [.bool (getL r)]))]) (.leaf (.exit 0) [(.T 4,.t (.val false [.undef]))])) = xw_eqOpOpS_0 y0 y1 r := fun r => by first | rfl | (rcases r with r | r <;> rfl) | (rcases r with r | r | r <;> rfl) | (rcases r with r | r | r | r <;> rfl)
  have h3 := (hx (valO (g_Lw_eqOpOpS_0 y0 y1 y2))).symm.trans h2
  have e3 := congrArg Prod.fst h3
  have e4 := congrArg Prod.snd h3
  simp only at e3 e4
  rw [← e3,← e4]
  exact key
 ·exact .inl ⟨xt,h1,h2⟩)
noncomputable def g_Aw_eqOpOpS (a0:List (Int×(Int×(Int×(Int×(Int×(Int×Int))))))) (a1:List (Int×(Int×(Int×(Int×(Int×(Int×Int))))))):Bool := (↑(List.length a0):Int) != (↑(List.length a1):Int) || okO (g_Lw_eqOpOpS_0 a0 a1 (0:Int))
noncomputable def g_Vw_eqOpOpS_0 (a0:List (Int×(Int×(Int×(Int×(Int×(Int×Int))))))) (a1:List (Int×(Int×(Int×(Int×(Int×(Int×Int))))))):Bool := bif (↑(List.length a0):Int) != (↑(List.length a1):Int) then false else bif isL (valO (g_Lw_eqOpOpS_0 a0 a1 (0:Int))) then getL (valO (g_Lw_eqOpOpS_0 a0 a1 (0:Int))) else true
noncomputable def Fw_eqOpOpS:FSem := fun ys => match ys with
 | [.val false [.sl .any 52 (.pair (.int .i64) (.pair (.int .i64) (.pair (.int .i64) (.pair (.int .i64) (.pair (.int .i64) (.pair (.int .i64) (.int .i64))))))) a0],.val false [.sl .any 52 (.pair (.int .i64) (.pair (.int .i64) (.pair (.int .i64) (.pair (.int .i64) (.pair (.int .i64) (.pair (.int .i64) (.int .i64))))))) a1]] => some ((g_Aw_eqOpOpS a0 a1),.val false [.bool (g_Vw_eqOpOpS_0 a0 a1)],[])
 | _ => none
theorem vw_eqOpOpS (a0:List (Int×(Int×(Int×(Int×(Int×(Int×Int))))))) (a1:List (Int×(Int×(Int×(Int×(Int×(Int×Int))))))):collapseH .std Ew_eqOpOpS Ow_eqOpOpS_1 (execFn Ew_eqOpOpS Try.f12 msw_eqOpOpS [.val false [.sl .any 52 (.pair (.int .i64) (.pair (.int .i64) (.pair (.int .i64) (.pair (.int .i64) (.pair (.int .i64) (.pair (.int .i64) (.int .i64))))))) a0],.val false [.sl .any 52 (.pair (.int .i64) (.pair (.int .i64) (.pair (.int .i64) (.pair (.int .i64) (.pair (.int .i64) (.pair (.int .i64) (.int .i64))))))) a1]]) = some ((g_Aw_eqOpOpS a0 a1),.val false [.bool (g_Vw_eqOpOpS_0 a0 a1)],[]) := by kernel_rfl
theorem sw_eqOpOpS:Sound Try.prog 12 msw_eqOpOpS Fw_eqOpOpS := by
 refine fn_gen goodw_eqOpOpS (by kernel_rfl) .std (fn := Try.f12) (c := (Try.f12.body.getD .skip)) (o := Ow_eqOpOpS_1) (k := 1) (by kernel_rfl) (by kernel_rfl) (by kernel_rfl) (by kernel_rfl) (by decide) kw_eqOpOpS_1 ?_
 intro ys r outs h
 unfold Fw_eqOpOpS at h
 split at h
 ·exact (vw_eqOpOpS _ _).trans h
 ·cases h
noncomputable def Ew_eqWldWorld:Env where
 tt := mkTI Try.prog
 fn := fun f => match f with
  | 9 => some (msw_eqFroState,FSem.wk msw_eqFroState Fw_eqFroState)
  | 10 => some (msw_eqLogDiskS,FSem.wk msw_eqLogDiskS Fw_eqLogDiskS)
  | 11 => some (msw_eqMsgMsgS,FSem.wk msw_eqMsgMsgS Fw_eqMsgMsgS)
  | 12 => some (msw_eqOpOpS,FSem.wk msw_eqOpOpS Fw_eqOpOpS)
  | 13 => some (msw_eqFroOutS,FSem.wk msw_eqFroOutS Fw_eqFroOutS)
  | _ => none
 bxf := fun _ => none
 mv := []
 keep := fun _ => []
 keepB := fun _ => []
 keepX := fun _ => []
 keepXB := fun _ => []
theorem goodFw_eqWldWorld:∀ f ms F,Ew_eqWldWorld.fn f = some (ms,F) → Sound Try.prog f ms F := fun f ms F h => by
 unfold Ew_eqWldWorld at h
 dsimp only at h
 split at h
 ·injection h with h; injection h with e1 e2; subst e1 e2; exact Sound.wk sw_eqFroState
 ·injection h with h; injection h with e1 e2; subst e1 e2; exact Sound.wk sw_eqLogDiskS
 ·injection h with h; injection h with e1 e2; subst e1 e2; exact Sound.wk sw_eqMsgMsgS
 ·injection h with h; injection h with e1 e2; subst e1 e2; exact Sound.wk sw_eqOpOpS
 ·injection h with h; injection h with e1 e2; subst e1 e2; exact Sound.wk sw_eqFroOutS
 ·cases h
theorem goodBw_eqWldWorld:∀ f ms F,Ew_eqWldWorld.bxf f = some (ms,F) → SoundB Try.prog f ms F := fun f ms F h => by cases h
theorem goodw_eqWldWorld:Good Try.prog Ew_eqWldWorld := ⟨rfl,goodFw_eqWldWorld,goodBw_eqWldWorld⟩
noncomputable def Ow_eqWldWorld_0:Orc := fun _ _ => none
noncomputable def msw_eqWldWorld:List PM := [.rd,.rd]
noncomputable def lsw_eqWldWorld:List (Nat×Code) := loopsAll 0 (Try.f6.body.getD .skip)
theorem kw_eqWldWorld_0:OrcOk Ew_eqWldWorld Ow_eqWldWorld_0 lsw_eqWldWorld 0 := orcOk_none
noncomputable def g_Aw_eqWldWorld (a0:List (Int×(Int×((List ByteArray)×(List (ByteArray×(Bool×(List Int)))))))) (a1:Int) (a2:List (Int×((Int×(Int×(Int×(Int×(Int×(Int×Int))))))×(Bool×((List Int)×(List Int)))))) (a3:List ((List (Int×(Int×((List ByteArray)×(List (ByteArray×(Bool×(List Int))))))))×Int)) (a4:List (Int×(Int×(Int×(Int×(Int×(Int×(Int×(Int×(Int×(Int×Int))))))))))) (a5:List (Int×(Int×(Int×(Int×(Int×(Int×Int))))))) (a6:List (Int×Bool)) (a7:List (Int×(Int×((List ByteArray)×(List (ByteArray×(Bool×(List Int)))))))) (a8:Int) (a9:List (Int×((Int×(Int×(Int×(Int×(Int×(Int×Int))))))×(Bool×((List Int)×(List Int)))))) (a10:List ((List (Int×(Int×((List ByteArray)×(List (ByteArray×(Bool×(List Int))))))))×Int)) (a11:List (Int×(Int×(Int×(Int×(Int×(Int×(Int×(Int×(Int×(Int×Int))))))))))) (a12:List (Int×(Int×(Int×(Int×(Int×(Int×Int))))))) (a13:List (Int×Bool)):Bool := g_Aw_eqFroState a0 a1 a2 a7 a8 a9&&(!g_Vw_eqFroState_0 a0 a1 a2 a7 a8 a9 || g_Aw_eqLogDiskS a3 a10&&(!g_Vw_eqLogDiskS_0 a3 a10 || g_Aw_eqMsgMsgS a4 a11&&(!g_Vw_eqMsgMsgS_0 a4 a11 || g_Aw_eqOpOpS a5 a12&&(!g_Vw_eqOpOpS_0 a5 a12 || g_Aw_eqFroOutS a6 a13))))
noncomputable def g_Vw_eqWldWorld_0 (a0:List (Int×(Int×((List ByteArray)×(List (ByteArray×(Bool×(List Int)))))))) (a1:Int) (a2:List (Int×((Int×(Int×(Int×(Int×(Int×(Int×Int))))))×(Bool×((List Int)×(List Int)))))) (a3:List ((List (Int×(Int×((List ByteArray)×(List (ByteArray×(Bool×(List Int))))))))×Int)) (a4:List (Int×(Int×(Int×(Int×(Int×(Int×(Int×(Int×(Int×(Int×Int))))))))))) (a5:List (Int×(Int×(Int×(Int×(Int×(Int×Int))))))) (a6:List (Int×Bool)) (a7:List (Int×(Int×((List ByteArray)×(List (ByteArray×(Bool×(List Int)))))))) (a8:Int) (a9:List (Int×((Int×(Int×(Int×(Int×(Int×(Int×Int))))))×(Bool×((List Int)×(List Int)))))) (a10:List ((List (Int×(Int×((List ByteArray)×(List (ByteArray×(Bool×(List Int))))))))×Int)) (a11:List (Int×(Int×(Int×(Int×(Int×(Int×(Int×(Int×(Int×(Int×Int))))))))))) (a12:List (Int×(Int×(Int×(Int×(Int×(Int×Int))))))) (a13:List (Int×Bool)):Bool := bif !g_Vw_eqFroState_0 a0 a1 a2 a7 a8 a9 then false else bif !g_Vw_eqLogDiskS_0 a3 a10 then false else bif !g_Vw_eqMsgMsgS_0 a4 a11 then false else bif !g_Vw_eqOpOpS_0 a5 a12 then false else bif !g_Vw_eqFroOutS_0 a6 a13 then false else true
noncomputable def Fw_eqWldWorld:FSem := fun ys => match ys with
 | [.val true [.sl .any 71 (.pair (.int .i64) (.pair (.int .i64) (.pair (.sl 9 .str) (.sl 78 (.pair .str (.pair .bool (.sl 3 (.int .i64)))))))) a0,.int .i64 a1,.sl .any 66 (.pair (.int .i64) (.pair (.pair (.int .i64) (.pair (.int .i64) (.pair (.int .i64) (.pair (.int .i64) (.pair (.int .i64) (.pair (.int .i64) (.int .i64))))))) (.pair .bool (.pair (.sl 3 (.int .i64)) (.sl 3 (.int .i64)))))) a2,.sl .any 24 (.pair (.sl 71 (.pair (.int .i64) (.pair (.int .i64) (.pair (.sl 9 .str) (.sl 78 (.pair .str (.pair .bool (.sl 3 (.int .i64))))))))) (.int .i64)) a3,.sl .any 54 (.pair (.int .i64) (.pair (.int .i64) (.pair (.int .i64) (.pair (.int .i64) (.pair (.int .i64) (.pair (.int .i64) (.pair (.int .i64) (.pair (.int .i64) (.pair (.int .i64) (.pair (.int .i64) (.int .i64))))))))))) a4,.sl .any 52 (.pair (.int .i64) (.pair (.int .i64) (.pair (.int .i64) (.pair (.int .i64) (.pair (.int .i64) (.pair (.int .i64) (.int .i64))))))) a5,.sl .any 58 (.pair (.int .i64) .bool) a6],.val true [.sl .any 71 (.pair (.int .i64) (.pair (.int .i64) (.pair (.sl 9 .str) (.sl 78 (.pair .str (.pair .bool (.sl 3 (.int .i64)))))))) a7,.int .i64 a8,.sl .any 66 (.pair (.int .i64) (.pair (.pair (.int .i64) (.pair (.int .i64) (.pair (.int .i64) (.pair (.int .i64) (.pair (.int .i64) (.pair (.int .i64) (.int .i64))))))) (.pair .bool (.pair (.sl 3 (.int .i64)) (.sl 3 (.int .i64)))))) a9,.sl .any 24 (.pair (.sl 71 (.pair (.int .i64) (.pair (.int .i64) (.pair (.sl 9 .str) (.sl 78 (.pair .str (.pair .bool (.sl 3 (.int .i64))))))))) (.int .i64)) a10,.sl .any 54 (.pair (.int .i64) (.pair (.int .i64) (.pair (.int .i64) (.pair (.int .i64) (.pair (.int .i64) (.pair (.int .i64) (.pair (.int .i64) (.pair (.int .i64) (.pair (.int .i64) (.pair (.int .i64) (.int .i64))))))))))) a11,.sl .any 52 (.pair (.int .i64) (.pair (.int .i64) (.pair (.int .i64) (.pair (.int .i64) (.pair (.int .i64) (.pair (.int .i64) (.int .i64))))))) a12,.sl .any 58 (.pair (.int .i64) .bool) a13]] => some ((g_Aw_eqWldWorld a0 a1 a2 a3 a4 a5 a6 a7 a8 a9 a10 a11 a12 a13),.val false [.bool (g_Vw_eqWldWorld_0 a0 a1 a2 a3 a4 a5 a6 a7 a8 a9 a10 a11 a12 a13)],[])
 | _ => none
theorem vw_eqWldWorld (a0:List (Int×(Int×((List ByteArray)×(List (ByteArray×(Bool×(List Int)))))))) (a1:Int) (a2:List (Int×((Int×(Int×(Int×(Int×(Int×(Int×Int))))))×(Bool×((List Int)×(List Int)))))) (a3:List ((List (Int×(Int×((List ByteArray)×(List (ByteArray×(Bool×(List Int))))))))×Int)) (a4:List (Int×(Int×(Int×(Int×(Int×(Int×(Int×(Int×(Int×(Int×Int))))))))))) (a5:List (Int×(Int×(Int×(Int×(Int×(Int×Int))))))) (a6:List (Int×Bool)) (a7:List (Int×(Int×((List ByteArray)×(List (ByteArray×(Bool×(List Int)))))))) (a8:Int) (a9:List (Int×((Int×(Int×(Int×(Int×(Int×(Int×Int))))))×(Bool×((List Int)×(List Int)))))) (a10:List ((List (Int×(Int×((List ByteArray)×(List (ByteArray×(Bool×(List Int))))))))×Int)) (a11:List (Int×(Int×(Int×(Int×(Int×(Int×(Int×(Int×(Int×(Int×Int))))))))))) (a12:List (Int×(Int×(Int×(Int×(Int×(Int×Int))))))) (a13:List (Int×Bool)):collapseH .std Ew_eqWldWorld Ow_eqWldWorld_0 (execFn Ew_eqWldWorld Try.f6 msw_eqWldWorld [.val true [.sl .any 71 (.pair (.int .i64) (.pair (.int .i64) (.pair (.sl 9 .str) (.sl 78 (.pair .str (.pair .bool (.sl 3 (.int .i64)))))))) a0,.int .i64 a1,.sl .any 66 (.pair (.int .i64) (.pair (.pair (.int .i64) (.pair (.int .i64) (.pair (.int .i64) (.pair (.int .i64) (.pair (.int .i64) (.pair (.int .i64) (.int .i64))))))) (.pair .bool (.pair (.sl 3 (.int .i64)) (.sl 3 (.int .i64)))))) a2,.sl .any 24 (.pair (.sl 71 (.pair (.int .i64) (.pair (.int .i64) (.pair (.sl 9 .str) (.sl 78 (.pair .str (.pair .bool (.sl 3 (.int .i64))))))))) (.int .i64)) a3,.sl .any 54 (.pair (.int .i64) (.pair (.int .i64) (.pair (.int .i64) (.pair (.int .i64) (.pair (.int .i64) (.pair (.int .i64) (.pair (.int .i64) (.pair (.int .i64) (.pair (.int .i64) (.pair (.int .i64) (.int .i64))))))))))) a4,.sl .any 52 (.pair (.int .i64) (.pair (.int .i64) (.pair (.int .i64) (.pair (.int .i64) (.pair (.int .i64) (.pair (.int .i64) (.int .i64))))))) a5,.sl .any 58 (.pair (.int .i64) .bool) a6],.val true [.sl .any 71 (.pair (.int .i64) (.pair (.int .i64) (.pair (.sl 9 .str) (.sl 78 (.pair .str (.pair .bool (.sl 3 (.int .i64)))))))) a7,.int .i64 a8,.sl .any 66 (.pair (.int .i64) (.pair (.pair (.int .i64) (.pair (.int .i64) (.pair (.int .i64) (.pair (.int .i64) (.pair (.int .i64) (.pair (.int .i64) (.int .i64))))))) (.pair .bool (.pair (.sl 3 (.int .i64)) (.sl 3 (.int .i64)))))) a9,.sl .any 24 (.pair (.sl 71 (.pair (.int .i64) (.pair (.int .i64) (.pair (.sl 9 .str) (.sl 78 (.pair .str (.pair .bool (.sl 3 (.int .i64))))))))) (.int .i64)) a10,.sl .any 54 (.pair (.int .i64) (.pair (.int .i64) (.pair (.int .i64) (.pair (.int .i64) (.pair (.int .i64) (.pair (.int .i64) (.pair (.int .i64) (.pair (.int .i64) (.pair (.int .i64) (.pair (.int .i64) (.int .i64))))))))))) a11,.sl .any 52 (.pair (.int .i64) (.pair (.int .i64) (.pair (.int .i64) (.pair (.int .i64) (.pair (.int .i64) (.pair (.int .i64) (.int .i64))))))) a12,.sl .any 58 (.pair (.int .i64) .bool) a13]]) = some ((g_Aw_eqWldWorld a0 a1 a2 a3 a4 a5 a6 a7 a8 a9 a10 a11 a12 a13),.val false [.bool (g_Vw_eqWldWorld_0 a0 a1 a2 a3 a4 a5 a6 a7 a8 a9 a10 a11 a12 a13)],[]) := by kernel_rfl
theorem sw_eqWldWorld:Sound Try.prog 6 msw_eqWldWorld Fw_eqWldWorld := by
 refine fn_gen goodw_eqWldWorld (by kernel_rfl) .std (fn := Try.f6) (c := (Try.f6.body.getD .skip)) (o := Ow_eqWldWorld_0) (k := 0) (by kernel_rfl) (by kernel_rfl) (by kernel_rfl) (by kernel_rfl) (by decide) kw_eqWldWorld_0 ?_
 intro ys r outs h
 unfold Fw_eqWldWorld at h
 split at h
 ·exact (vw_eqWldWorld _ _ _ _ _ _ _ _ _ _ _ _ _ _).trans h
 ·cases h
noncomputable def Ew_heldFroOutS:Env where
 tt := mkTI Try.prog
 fn := fun _ => none
 bxf := fun _ => none
 mv := []
 keep := fun b => match b with
  | 0 => [(0,false),(1,false),(5,false)]
  | _ => []
 keepB := fun b => match b with
  | 0 => []
  | _ => []
 keepX := fun b => match b with
  | 0 => [(1,false),(4,false)]
  | _ => []
 keepXB := fun b => match b with
  | 0 => []
  | _ => []
theorem goodFw_heldFroOutS:∀ f ms F,Ew_heldFroOutS.fn f = some (ms,F) → Sound Try.prog f ms F := fun f ms F h => by cases h
theorem goodBw_heldFroOutS:∀ f ms F,Ew_heldFroOutS.bxf f = some (ms,F) → SoundB Try.prog f ms F := fun f ms F h => by cases h
theorem goodw_heldFroOutS:Good Try.prog Ew_heldFroOutS := ⟨rfl,goodFw_heldFroOutS,goodBw_heldFroOutS⟩
noncomputable def Ow_heldFroOutS_0:Orc := fun _ _ => none
noncomputable def msw_heldFroOutS:List PM := [.rd,.own]
noncomputable def lsw_heldFroOutS:List (Nat×Code) := loopsAll 0 (Try.f23.body.getD .skip)
noncomputable def cw_heldFroOutS_0:Code := (loopOf 0 (Try.f23.body.getD .skip)).getD .skip
theorem lseqw_heldFroOutS:lsw_heldFroOutS = [(0,cw_heldFroOutS_0)] := by kernel_rfl
theorem mw_heldFroOutS_0:∀ p,p ∈ lsw_heldFroOutS → p.1 = 0 → p.2 = cw_heldFroOutS_0 := by
 intro p hp
 rw [lseqw_heldFroOutS] at hp
 simp only [List.mem_cons,List.not_mem_nil,or_false] at hp
 subst hp; simp
theorem kw_heldFroOutS_0:OrcOk Ew_heldFroOutS Ow_heldFroOutS_0 lsw_heldFroOutS 0 := orcOk_none
noncomputable def hw_heldFroOutS_0 (y0:List (Int×Bool)) (y1:Int) (y2:Int):List (Pl×LV) := [(.T 0,.t (.val false [.sl .any 58 (.pair (.int .i64) .bool) y0])),(.T 1,.t (.val false [.int .i64 y1])),(.T 5,.t (.val false [.int .i64 y2]))]
noncomputable def g_Sw_heldFroOutS_0 (y0:List (Int×Bool)):(Int×Int) → RT (Int×Int) ((Int×Int) ⊕ (Int))
 | (y1,y2) => .br (true) (.br (decide (y2 < (↑(List.length y0):Int))) (.br (decide ((0:Int) ≤ y2 ∧ y2 < (↑(List.length y0):Int))) (.br (true) (.br ((at_ (Ty.pair (Ty.int IntKind.i64) Ty.bool) y0 (Int.toNat y2)).1 != y1) (.out (.inl ((y1,(-1:Int))))) (.br (true) (.br (decide ((0:Int) ≤ y2 ∧ y2 < (↑(List.length y0):Int))) (.br (true) (.br (true) (.br (!(at_ (Ty.pair (Ty.int IntKind.i64) Ty.bool) y0 (Int.toNat y2)).2 == (Int.tmod (IntKind.wrap IntKind.i64 (y1 + (1:Int))) (3:Int) == (0:Int))) (.out (.inl ((IntKind.wrap IntKind.i64 (y1 + (1:Int)),(-1:Int))))) (.br (true) (.br (true) (.go ((IntKind.wrap IntKind.i64 (IntKind.wrap IntKind.i64 (y1 + (1:Int)) + (1:Int)),IntKind.wrap IntKind.i64 (y2 + (1:Int))))) .bad) .bad)) .bad) .bad) .bad) .bad)) .bad) .bad) (.out (.inr (y1)))) .bad
noncomputable def g_Lw_heldFroOutS_0 (y0:List (Int×Bool)) (x:Int×Int):Option ((Int×Int) ⊕ (Int)) := loopO (g_Sw_heldFroOutS_0 y0) x
noncomputable def xw_heldFroOutS_0 (y0:List (Int×Bool)):((Int×Int) ⊕ (Int)) → Ex×List (Pl×LV) := fun
 | .inl r => (.ret,[(.T 1,.t (.val false [.int .i64 r.1])),(.T 4,.t (.val false [.int .i64 r.2]))])
 | .inr (r) => (.exit 0,[(.T 1,.t (.val false [.int .i64 r])),(.T 4,.t (.val false [.undef]))])
noncomputable def Ow_heldFroOutS_1:Orc := fun b h => match b,h with
 | 0,[(.T 0,.t (.val false [.sl .any 58 (.pair (.int .i64) .bool) y0])),(.T 1,.t (.val false [.int .i64 y1])),(.T 5,.t (.val false [.int .i64 y2]))] => some (okO (g_Lw_heldFroOutS_0 y0 (y1,y2)),(.br (isL (valO (g_Lw_heldFroOutS_0 y0 (y1,y2)))) (.leaf .ret [(.T 1,.t (.val false [.int .i64 (getL (valO (g_Lw_heldFroOutS_0 y0 (y1,y2)))).1])),(.T 4,.t (.val false [.int .i64 (getL (valO (g_Lw_heldFroOutS_0 y0 (y1,y2)))).2]))]) (.leaf (.exit 0) [(.T 1,.t (.val false [.int .i64 (getR (valO (g_Lw_heldFroOutS_0 y0 (y1,y2))))])),(.T 4,.t (.val false [.undef]))])))
 | b,h => Ow_heldFroOutS_0 b h
theorem bw_heldFroOutS_0 (y0:List (Int×Bool)) (y1:Int) (y2:Int):Tr.bt Ew_heldFroOutS Ow_heldFroOutS_0 (exec Ew_heldFroOutS 0 cw_heldFroOutS_0 (St.of (hw_heldFroOutS_0 y0 y1 y2)) (leafRd Ew_heldFroOutS 0)) = (g_Sw_heldFroOutS_0 y0 (y1,y2)).bt (fun ((y1,y2):Int×Int) => (hw_heldFroOutS_0 y0 y1 y2)) (xw_heldFroOutS_0 y0) := by kernel_rfl
theorem kw_heldFroOutS_1:OrcOk Ew_heldFroOutS Ow_heldFroOutS_1 lsw_heldFroOutS 1 := orc_add kw_heldFroOutS_0 (fun n p hp h ex h' ho => by
 obtain ⟨b,c⟩ := p
 obtain ⟨xt,h1,h2⟩ := ho
 have h1:Ow_heldFroOutS_1 b h = some (true,xt) := h1
 unfold Ow_heldFroOutS_1 at h1
 split at h1
 ·injection h1 with h1
  injection h1 with e1 e2
  subst e2
  have hc:c = cw_heldFroOutS_0 := mw_heldFroOutS_0 _ hp rfl
  subst hc
  right
  rename_i y0 y1 y2
  have key := LT_step kw_heldFroOutS_0 hp (fun q hq => loopsAll_in _ _ _ _ hp hq) (fun ((y1,y2):Int×Int) => (hw_heldFroOutS_0 y0 y1 y2)) (xw_heldFroOutS_0 y0) (g_Sw_heldFroOutS_0 y0) (fun x => by first | exact bw_heldFroOutS_0 y0 x.1 x.2) n (x := (y1,y2)) (okO_some e1)
  have hx:∀ r,XT.sel (.br (isL r) (.leaf .ret [(.T 1,.t (.val false [.int .i64 (getL r).1])),(.T 4,.t (.val false [.int .i64 (getL r).2]))]) (.leaf (.exit 0) [(.T 1,.t (.val false [.int .i64 (getR r)])),(.T 4,.t (.val false [.undef]))])) = xw_heldFroOutS_0 y0 r := fun r => by first | rfl | (rcases r with r | r <;> rfl) | (rcases r with r | r | r <;> rfl) | (rcases r with r | r | r | r <;> rfl)
  have h3 := (hx (valO (g_Lw_heldFroOutS_0 y0 (y1,y2)))).symm.trans h2
  have e3 := congrArg Prod.fst h3
  have e4 := congrArg Prod.snd h3
  simp only at e3 e4
  rw [← e3,← e4]
  exact key
 ·exact .inl ⟨xt,h1,h2⟩)
noncomputable def g_Aw_heldFroOutS (a0:List (Int×Bool)) (a1:Int):Bool := okO (g_Lw_heldFroOutS_0 a0 (a1,(0:Int)))
noncomputable def g_Vw_heldFroOutS_0 (a0:List (Int×Bool)) (a1:Int):Int := bif isL (valO (g_Lw_heldFroOutS_0 a0 (a1,(0:Int)))) then (getL (valO (g_Lw_heldFroOutS_0 a0 (a1,(0:Int))))).2 else getR (valO (g_Lw_heldFroOutS_0 a0 (a1,(0:Int))))
noncomputable def Fw_heldFroOutS:FSem := fun ys => match ys with
 | [.val false [.sl .any 58 (.pair (.int .i64) .bool) a0],.val false [.int .i64 a1]] => some ((g_Aw_heldFroOutS a0 a1),.val false [.int .i64 (g_Vw_heldFroOutS_0 a0 a1)],[])
 | _ => none
theorem vw_heldFroOutS (a0:List (Int×Bool)) (a1:Int):collapseH .std Ew_heldFroOutS Ow_heldFroOutS_1 (execFn Ew_heldFroOutS Try.f23 msw_heldFroOutS [.val false [.sl .any 58 (.pair (.int .i64) .bool) a0],.val false [.int .i64 a1]]) = some ((g_Aw_heldFroOutS a0 a1),.val false [.int .i64 (g_Vw_heldFroOutS_0 a0 a1)],[]) := by kernel_rfl
theorem sw_heldFroOutS:Sound Try.prog 23 msw_heldFroOutS Fw_heldFroOutS := by
 refine fn_gen goodw_heldFroOutS (by kernel_rfl) .std (fn := Try.f23) (c := (Try.f23.body.getD .skip)) (o := Ow_heldFroOutS_1) (k := 1) (by kernel_rfl) (by kernel_rfl) (by kernel_rfl) (by kernel_rfl) (by decide) kw_heldFroOutS_1 ?_
 intro ys r outs h
 unfold Fw_heldFroOutS at h
 split at h
 ·exact (vw_heldFroOutS _ _).trans h
 ·cases h
noncomputable def Ew_heldIntS:Env where
 tt := mkTI Try.prog
 fn := fun _ => none
 bxf := fun _ => none
 mv := []
 keep := fun b => match b with
  | 0 => [(0,false),(1,false),(5,false)]
  | _ => []
 keepB := fun b => match b with
  | 0 => []
  | _ => []
 keepX := fun b => match b with
  | 0 => [(1,false),(4,false)]
  | _ => []
 keepXB := fun b => match b with
  | 0 => []
  | _ => []
theorem goodFw_heldIntS:∀ f ms F,Ew_heldIntS.fn f = some (ms,F) → Sound Try.prog f ms F := fun f ms F h => by cases h
theorem goodBw_heldIntS:∀ f ms F,Ew_heldIntS.bxf f = some (ms,F) → SoundB Try.prog f ms F := fun f ms F h => by cases h
theorem goodw_heldIntS:Good Try.prog Ew_heldIntS := ⟨rfl,goodFw_heldIntS,goodBw_heldIntS⟩
noncomputable def Ow_heldIntS_0:Orc := fun _ _ => none
noncomputable def msw_heldIntS:List PM := [.rd,.own]
noncomputable def lsw_heldIntS:List (Nat×Code) := loopsAll 0 (Try.f40.body.getD .skip)
noncomputable def cw_heldIntS_0:Code := (loopOf 0 (Try.f40.body.getD .skip)).getD .skip
theorem lseqw_heldIntS:lsw_heldIntS = [(0,cw_heldIntS_0)] := by kernel_rfl
theorem mw_heldIntS_0:∀ p,p ∈ lsw_heldIntS → p.1 = 0 → p.2 = cw_heldIntS_0 := by
 intro p hp
 rw [lseqw_heldIntS] at hp
 simp only [List.mem_cons,List.not_mem_nil,or_false] at hp
 subst hp; simp
theorem kw_heldIntS_0:OrcOk Ew_heldIntS Ow_heldIntS_0 lsw_heldIntS 0 := orcOk_none
noncomputable def hw_heldIntS_0 (y0:List Int) (y1:Int) (y2:Int):List (Pl×LV) := [(.T 0,.t (.val false [.sl .any 3 (.int .i64) y0])),(.T 1,.t (.val false [.int .i64 y1])),(.T 5,.t (.val false [.int .i64 y2]))]
noncomputable def g_Sw_heldIntS_0 (y0:List Int):(Int×Int) → RT (Int×Int) ((Int×Int) ⊕ (Int))
 | (y1,y2) => .br (true) (.br (decide (y2 < (↑(List.length y0):Int))) (.br (decide ((0:Int) ≤ y2 ∧ y2 < (↑(List.length y0):Int))) (.br (true) (.br (at_ (Ty.int IntKind.i64) y0 (Int.toNat y2) != y1) (.out (.inl ((y1,(-1:Int))))) (.br (true) (.br (true) (.go ((IntKind.wrap IntKind.i64 (y1 + (1:Int)),IntKind.wrap IntKind.i64 (y2 + (1:Int))))) .bad) .bad)) .bad) .bad) (.out (.inr (y1)))) .bad
noncomputable def g_Lw_heldIntS_0 (y0:List Int) (x:Int×Int):Option ((Int×Int) ⊕ (Int)) := loopO (g_Sw_heldIntS_0 y0) x
noncomputable def xw_heldIntS_0 (y0:List Int):((Int×Int) ⊕ (Int)) → Ex×List (Pl×LV) := fun
 | .inl r => (.ret,[(.T 1,.t (.val false [.int .i64 r.1])),(.T 4,.t (.val false [.int .i64 r.2]))])
 | .inr (r) => (.exit 0,[(.T 1,.t (.val false [.int .i64 r])),(.T 4,.t (.val false [.undef]))])
noncomputable def Ow_heldIntS_1:Orc := fun b h => match b,h with
 | 0,[(.T 0,.t (.val false [.sl .any 3 (.int .i64) y0])),(.T 1,.t (.val false [.int .i64 y1])),(.T 5,.t (.val false [.int .i64 y2]))] => some (okO (g_Lw_heldIntS_0 y0 (y1,y2)),(.br (isL (valO (g_Lw_heldIntS_0 y0 (y1,y2)))) (.leaf .ret [(.T 1,.t (.val false [.int .i64 (getL (valO (g_Lw_heldIntS_0 y0 (y1,y2)))).1])),(.T 4,.t (.val false [.int .i64 (getL (valO (g_Lw_heldIntS_0 y0 (y1,y2)))).2]))]) (.leaf (.exit 0) [(.T 1,.t (.val false [.int .i64 (getR (valO (g_Lw_heldIntS_0 y0 (y1,y2))))])),(.T 4,.t (.val false [.undef]))])))
 | b,h => Ow_heldIntS_0 b h
theorem bw_heldIntS_0 (y0:List Int) (y1:Int) (y2:Int):Tr.bt Ew_heldIntS Ow_heldIntS_0 (exec Ew_heldIntS 0 cw_heldIntS_0 (St.of (hw_heldIntS_0 y0 y1 y2)) (leafRd Ew_heldIntS 0)) = (g_Sw_heldIntS_0 y0 (y1,y2)).bt (fun ((y1,y2):Int×Int) => (hw_heldIntS_0 y0 y1 y2)) (xw_heldIntS_0 y0) := by kernel_rfl
theorem kw_heldIntS_1:OrcOk Ew_heldIntS Ow_heldIntS_1 lsw_heldIntS 1 := orc_add kw_heldIntS_0 (fun n p hp h ex h' ho => by
 obtain ⟨b,c⟩ := p
 obtain ⟨xt,h1,h2⟩ := ho
 have h1:Ow_heldIntS_1 b h = some (true,xt) := h1
 unfold Ow_heldIntS_1 at h1
 split at h1
 ·injection h1 with h1
  injection h1 with e1 e2
  subst e2
  have hc:c = cw_heldIntS_0 := mw_heldIntS_0 _ hp rfl
  subst hc
  right
  rename_i y0 y1 y2
  have key := LT_step kw_heldIntS_0 hp (fun q hq => loopsAll_in _ _ _ _ hp hq) (fun ((y1,y2):Int×Int) => (hw_heldIntS_0 y0 y1 y2)) (xw_heldIntS_0 y0) (g_Sw_heldIntS_0 y0) (fun x => by first | exact bw_heldIntS_0 y0 x.1 x.2) n (x := (y1,y2)) (okO_some e1)
  have hx:∀ r,XT.sel (.br (isL r) (.leaf .ret [(.T 1,.t (.val false [.int .i64 (getL r).1])),(.T 4,.t (.val false [.int .i64 (getL r).2]))]) (.leaf (.exit 0) [(.T 1,.t (.val false [.int .i64 (getR r)])),(.T 4,.t (.val false [.undef]))])) = xw_heldIntS_0 y0 r := fun r => by first | rfl | (rcases r with r | r <;> rfl) | (rcases r with r | r | r <;> rfl) | (rcases r with r | r | r | r <;> rfl)
  have h3 := (hx (valO (g_Lw_heldIntS_0 y0 (y1,y2)))).symm.trans h2
  have e3 := congrArg Prod.fst h3
  have e4 := congrArg Prod.snd h3
  simp only at e3 e4
  rw [← e3,← e4]
  exact key
 ·exact .inl ⟨xt,h1,h2⟩)
noncomputable def g_Aw_heldIntS (a0:List Int) (a1:Int):Bool := okO (g_Lw_heldIntS_0 a0 (a1,(0:Int)))
noncomputable def g_Vw_heldIntS_0 (a0:List Int) (a1:Int):Int := bif isL (valO (g_Lw_heldIntS_0 a0 (a1,(0:Int)))) then (getL (valO (g_Lw_heldIntS_0 a0 (a1,(0:Int))))).2 else getR (valO (g_Lw_heldIntS_0 a0 (a1,(0:Int))))
noncomputable def Fw_heldIntS:FSem := fun ys => match ys with
 | [.val false [.sl .any 3 (.int .i64) a0],.val false [.int .i64 a1]] => some ((g_Aw_heldIntS a0 a1),.val false [.int .i64 (g_Vw_heldIntS_0 a0 a1)],[])
 | _ => none
theorem vw_heldIntS (a0:List Int) (a1:Int):collapseH .std Ew_heldIntS Ow_heldIntS_1 (execFn Ew_heldIntS Try.f40 msw_heldIntS [.val false [.sl .any 3 (.int .i64) a0],.val false [.int .i64 a1]]) = some ((g_Aw_heldIntS a0 a1),.val false [.int .i64 (g_Vw_heldIntS_0 a0 a1)],[]) := by kernel_rfl
theorem sw_heldIntS:Sound Try.prog 40 msw_heldIntS Fw_heldIntS := by
 refine fn_gen goodw_heldIntS (by kernel_rfl) .std (fn := Try.f40) (c := (Try.f40.body.getD .skip)) (o := Ow_heldIntS_1) (k := 1) (by kernel_rfl) (by kernel_rfl) (by kernel_rfl) (by kernel_rfl) (by decide) kw_heldIntS_1 ?_
 intro ys r outs h
 unfold Fw_heldIntS at h
 split at h
 ·exact (vw_heldIntS _ _).trans h
 ·cases h
noncomputable def Ew_heldFroTxS:Env where
 tt := mkTI Try.prog
 fn := fun f => match f with
  | 40 => some (msw_heldIntS,FSem.wk msw_heldIntS Fw_heldIntS)
  | _ => none
 bxf := fun _ => none
 mv := []
 keep := fun b => match b with
  | 0 => [(0,false),(1,false),(5,false)]
  | _ => []
 keepB := fun b => match b with
  | 0 => []
  | _ => []
 keepX := fun b => match b with
  | 0 => [(1,false),(4,false)]
  | _ => []
 keepXB := fun b => match b with
  | 0 => []
  | _ => []
theorem goodFw_heldFroTxS:∀ f ms F,Ew_heldFroTxS.fn f = some (ms,F) → Sound Try.prog f ms F := fun f ms F h => by
 unfold Ew_heldFroTxS at h
 dsimp only at h
 split at h
 ·injection h with h; injection h with e1 e2; subst e1 e2; exact Sound.wk sw_heldIntS
 ·cases h
theorem goodBw_heldFroTxS:∀ f ms F,Ew_heldFroTxS.bxf f = some (ms,F) → SoundB Try.prog f ms F := fun f ms F h => by cases h
theorem goodw_heldFroTxS:Good Try.prog Ew_heldFroTxS := ⟨rfl,goodFw_heldFroTxS,goodBw_heldFroTxS⟩
noncomputable def Ow_heldFroTxS_0:Orc := fun _ _ => none
noncomputable def msw_heldFroTxS:List PM := [.rd,.own]
noncomputable def lsw_heldFroTxS:List (Nat×Code) := loopsAll 0 (Try.f33.body.getD .skip)
noncomputable def cw_heldFroTxS_0:Code := (loopOf 0 (Try.f33.body.getD .skip)).getD .skip
theorem lseqw_heldFroTxS:lsw_heldFroTxS = [(0,cw_heldFroTxS_0)] := by kernel_rfl
theorem mw_heldFroTxS_0:∀ p,p ∈ lsw_heldFroTxS → p.1 = 0 → p.2 = cw_heldFroTxS_0 := by
 intro p hp
 rw [lseqw_heldFroTxS] at hp
 simp only [List.mem_cons,List.not_mem_nil,or_false] at hp
 subst hp; simp
theorem kw_heldFroTxS_0:OrcOk Ew_heldFroTxS Ow_heldFroTxS_0 lsw_heldFroTxS 0 := orcOk_none
noncomputable def hw_heldFroTxS_0 (y0:List (Int×((Int×(Int×(Int×(Int×(Int×(Int×Int))))))×(Bool×((List Int)×(List Int)))))) (y1:Int) (y2:Int):List (Pl×LV) := [(.T 0,.t (.val false [.sl .any 66 (.pair (.int .i64) (.pair (.pair (.int .i64) (.pair (.int .i64) (.pair (.int .i64) (.pair (.int .i64) (.pair (.int .i64) (.pair (.int .i64) (.int .i64))))))) (.pair .bool (.pair (.sl 3 (.int .i64)) (.sl 3 (.int .i64)))))) y0])),(.T 1,.t (.val false [.int .i64 y1])),(.T 5,.t (.val false [.int .i64 y2]))]
noncomputable def g_Sw_heldFroTxS_0 (y0:List (Int×((Int×(Int×(Int×(Int×(Int×(Int×Int))))))×(Bool×((List Int)×(List Int)))))):(Int×Int) → RT (Int×Int) ((Int×Int) ⊕ (Int))
 | (y1,y2) => .br (true) (.br (decide (y2 < (↑(List.length y0):Int))) (.br (decide ((0:Int) ≤ y2 ∧ y2 < (↑(List.length y0):Int))) (.br (true) (.br ((at_ (Ty.pair (Ty.int IntKind.i64) (Ty.pair (Ty.pair (Ty.int IntKind.i64) (Ty.pair (Ty.int IntKind.i64) (Ty.pair (Ty.int IntKind.i64) (Ty.pair (Ty.int IntKind.i64) (Ty.pair (Ty.int IntKind.i64) (Ty.pair (Ty.int IntKind.i64) (Ty.int IntKind.i64))))))) (Ty.pair Ty.bool (Ty.pair (Ty.sl (nat_lit 3) (Ty.int IntKind.i64)) (Ty.sl (nat_lit 3) (Ty.int IntKind.i64)))))) y0 (Int.toNat y2)).1 != y1) (.out (.inl ((y1,(-1:Int))))) (.br (true) (.br (decide ((0:Int) ≤ y2 ∧ y2 < (↑(List.length y0):Int))) (.br (true) (.br ((at_ (Ty.pair (Ty.int IntKind.i64) (Ty.pair (Ty.pair (Ty.int IntKind.i64) (Ty.pair (Ty.int IntKind.i64) (Ty.pair (Ty.int IntKind.i64) (Ty.pair (Ty.int IntKind.i64) (Ty.pair (Ty.int IntKind.i64) (Ty.pair (Ty.int IntKind.i64) (Ty.int IntKind.i64))))))) (Ty.pair Ty.bool (Ty.pair (Ty.sl (nat_lit 3) (Ty.int IntKind.i64)) (Ty.sl (nat_lit 3) (Ty.int IntKind.i64)))))) y0 (Int.toNat y2)).2.1.1 != IntKind.wrap IntKind.i64 (y1 + (1:Int))) (.out (.inl ((IntKind.wrap IntKind.i64 (y1 + (1:Int)),(-1:Int))))) (.br (true) (.br (decide ((0:Int) ≤ y2 ∧ y2 < (↑(List.length y0):Int))) (.br (true) (.br ((at_ (Ty.pair (Ty.int IntKind.i64) (Ty.pair (Ty.pair (Ty.int IntKind.i64) (Ty.pair (Ty.int IntKind.i64) (Ty.pair (Ty.int IntKind.i64) (Ty.pair (Ty.int IntKind.i64) (Ty.pair (Ty.int IntKind.i64) (Ty.pair (Ty.int IntKind.i64) (Ty.int IntKind.i64))))))) (Ty.pair Ty.bool (Ty.pair (Ty.sl (nat_lit 3) (Ty.int IntKind.i64)) (Ty.sl (nat_lit 3) (Ty.int IntKind.i64)))))) y0 (Int.toNat y2)).2.1.2.1 != IntKind.wrap IntKind.i64 (IntKind.wrap IntKind.i64 (y1 + (1:Int)) + (1:Int))) (.out (.inl ((IntKind.wrap IntKind.i64 (IntKind.wrap IntKind.i64 (y1 + (1:Int)) + (1:Int)),(-1:Int))))) (.br (true) (.br (decide ((0:Int) ≤ y2 ∧ y2 < (↑(List.length y0):Int))) (.br (true) (.br ((at_ (Ty.pair (Ty.int IntKind.i64) (Ty.pair (Ty.pair (Ty.int IntKind.i64) (Ty.pair (Ty.int IntKind.i64) (Ty.pair (Ty.int IntKind.i64) (Ty.pair (Ty.int IntKind.i64) (Ty.pair (Ty.int IntKind.i64) (Ty.pair (Ty.int IntKind.i64) (Ty.int IntKind.i64))))))) (Ty.pair Ty.bool (Ty.pair (Ty.sl (nat_lit 3) (Ty.int IntKind.i64)) (Ty.sl (nat_lit 3) (Ty.int IntKind.i64)))))) y0 (Int.toNat y2)).2.1.2.2.1 != IntKind.wrap IntKind.i64 (IntKind.wrap IntKind.i64 (IntKind.wrap IntKind.i64 (y1 + (1:Int)) + (1:Int)) + (1:Int))) (.out (.inl ((IntKind.wrap IntKind.i64 (IntKind.wrap IntKind.i64 (IntKind.wrap IntKind.i64 (y1 + (1:Int)) + (1:Int)) + (1:Int)),(-1:Int))))) (.br (true) (.br (decide ((0:Int) ≤ y2 ∧ y2 < (↑(List.length y0):Int))) (.br (true) (.br ((at_ (Ty.pair (Ty.int IntKind.i64) (Ty.pair (Ty.pair (Ty.int IntKind.i64) (Ty.pair (Ty.int IntKind.i64) (Ty.pair (Ty.int IntKind.i64) (Ty.pair (Ty.int IntKind.i64) (Ty.pair (Ty.int IntKind.i64) (Ty.pair (Ty.int IntKind.i64) (Ty.int IntKind.i64))))))) (Ty.pair Ty.bool (Ty.pair (Ty.sl (nat_lit 3) (Ty.int IntKind.i64)) (Ty.sl (nat_lit 3) (Ty.int IntKind.i64)))))) y0 (Int.toNat y2)).2.1.2.2.2.1 != IntKind.wrap IntKind.i64 (IntKind.wrap IntKind.i64 (IntKind.wrap IntKind.i64 (IntKind.wrap IntKind.i64 (y1 + (1:Int)) + (1:Int)) + (1:Int)) + (1:Int))) (.out (.inl ((IntKind.wrap IntKind.i64 (IntKind.wrap IntKind.i64 (IntKind.wrap IntKind.i64 (IntKind.wrap IntKind.i64 (y1 + (1:Int)) + (1:Int)) + (1:Int)) + (1:Int)),(-1:Int))))) (.br (true) (.br (decide ((0:Int) ≤ y2 ∧ y2 < (↑(List.length y0):Int))) (.br (true) (.br ((at_ (Ty.pair (Ty.int IntKind.i64) (Ty.pair (Ty.pair (Ty.int IntKind.i64) (Ty.pair (Ty.int IntKind.i64) (Ty.pair (Ty.int IntKind.i64) (Ty.pair (Ty.int IntKind.i64) (Ty.pair (Ty.int IntKind.i64) (Ty.pair (Ty.int IntKind.i64) (Ty.int IntKind.i64))))))) (Ty.pair Ty.bool (Ty.pair (Ty.sl (nat_lit 3) (Ty.int IntKind.i64)) (Ty.sl (nat_lit 3) (Ty.int IntKind.i64)))))) y0 (Int.toNat y2)).2.1.2.2.2.2.1 != IntKind.wrap IntKind.i64 (IntKind.wrap IntKind.i64 (IntKind.wrap IntKind.i64 (IntKind.wrap IntKind.i64 (IntKind.wrap IntKind.i64 (y1 + (1:Int)) + (1:Int)) + (1:Int)) + (1:Int)) + (1:Int))) (.out (.inl ((IntKind.wrap IntKind.i64 (IntKind.wrap IntKind.i64 (IntKind.wrap IntKind.i64 (IntKind.wrap IntKind.i64 (IntKind.wrap IntKind.i64 (y1 + (1:Int)) + (1:Int)) + (1:Int)) + (1:Int)) + (1:Int)),(-1:Int))))) (.br (true) (.br (decide ((0:Int) ≤ y2 ∧ y2 < (↑(List.length y0):Int))) (.br (true) (.br ((at_ (Ty.pair (Ty.int IntKind.i64) (Ty.pair (Ty.pair (Ty.int IntKind.i64) (Ty.pair (Ty.int IntKind.i64) (Ty.pair (Ty.int IntKind.i64) (Ty.pair (Ty.int IntKind.i64) (Ty.pair (Ty.int IntKind.i64) (Ty.pair (Ty.int IntKind.i64) (Ty.int IntKind.i64))))))) (Ty.pair Ty.bool (Ty.pair (Ty.sl (nat_lit 3) (Ty.int IntKind.i64)) (Ty.sl (nat_lit 3) (Ty.int IntKind.i64)))))) y0 (Int.toNat y2)).2.1.2.2.2.2.2.1 != IntKind.wrap IntKind.i64 (IntKind.wrap IntKind.i64 (IntKind.wrap IntKind.i64 (IntKind.wrap IntKind.i64 (IntKind.wrap IntKind.i64 (IntKind.wrap IntKind.i64 (y1 + (1:Int)) + (1:Int)) + (1:Int)) + (1:Int)) + (1:Int)) + (1:Int))) (.out (.inl ((IntKind.wrap IntKind.i64 (IntKind.wrap IntKind.i64 (IntKind.wrap IntKind.i64 (IntKind.wrap IntKind.i64 (IntKind.wrap IntKind.i64 (IntKind.wrap IntKind.i64 (y1 + (1:Int)) + (1:Int)) + (1:Int)) + (1:Int)) + (1:Int)) + (1:Int)),(-1:Int))))) (.br (true) (.br (decide ((0:Int) ≤ y2 ∧ y2 < (↑(List.length y0):Int))) (.br (true) (.br ((at_ (Ty.pair (Ty.int IntKind.i64) (Ty.pair (Ty.pair (Ty.int IntKind.i64) (Ty.pair (Ty.int IntKind.i64) (Ty.pair (Ty.int IntKind.i64) (Ty.pair (Ty.int IntKind.i64) (Ty.pair (Ty.int IntKind.i64) (Ty.pair (Ty.int IntKind.i64) (Ty.int IntKind.i64))))))) (Ty.pair Ty.bool (Ty.pair (Ty.sl (nat_lit 3) (Ty.int IntKind.i64)) (Ty.sl (nat_lit 3) (Ty.int IntKind.i64)))))) y0 (Int.toNat y2)).2.1.2.2.2.2.2.2 != IntKind.wrap IntKind.i64 (IntKind.wrap IntKind.i64 (IntKind.wrap IntKind.i64 (IntKind.wrap IntKind.i64 (IntKind.wrap IntKind.i64 (IntKind.wrap IntKind.i64 (IntKind.wrap IntKind.i64 (y1 + (1:Int)) + (1:Int)) + (1:Int)) + (1:Int)) + (1:Int)) + (1:Int)) + (1:Int))) (.out (.inl ((IntKind.wrap IntKind.i64 (IntKind.wrap IntKind.i64 (IntKind.wrap IntKind.i64 (IntKind.wrap IntKind.i64 (IntKind.wrap IntKind.i64 (IntKind.wrap IntKind.i64 (IntKind.wrap IntKind.i64 (y1 + (1:Int)) + (1:Int)) + (1:Int)) + (1:Int)) + (1:Int)) + (1:Int)) + (1:Int)),(-1:Int))))) (.br (true) (.br (decide ((0:Int) ≤ y2 ∧ y2 < (↑(List.length y0):Int))) (.br (true) (.br (true) (.br (!(at_ (Ty.pair (Ty.int IntKind.i64) (Ty.pair (Ty.pair (Ty.int IntKind.i64) (Ty.pair (Ty.int IntKind.i64) (Ty.pair (Ty.int IntKind.i64) (Ty.pair (Ty.int IntKind.i64) (Ty.pair (Ty.int IntKind.i64) (Ty.pair (Ty.int IntKind.i64) (Ty.int IntKind.i64))))))) (Ty.pair Ty.bool (Ty.pair (Ty.sl (nat_lit 3) (Ty.int IntKind.i64)) (Ty.sl (nat_lit 3) (Ty.int IntKind.i64)))))) y0 (Int.toNat y2)).2.2.1 == (Int.tmod (IntKind.wrap IntKind.i64 (IntKind.wrap IntKind.i64 (IntKind.wrap IntKind.i64 (IntKind.wrap IntKind.i64 (IntKind.wrap IntKind.i64 (IntKind.wrap IntKind.i64 (IntKind.wrap IntKind.i64 (IntKind.wrap IntKind.i64 (y1 + (1:Int)) + (1:Int)) + (1:Int)) + (1:Int)) + (1:Int)) + (1:Int)) + (1:Int)) + (1:Int))) (3:Int) == (0:Int))) (.out (.inl ((IntKind.wrap IntKind.i64 (IntKind.wrap IntKind.i64 (IntKind.wrap IntKind.i64 (IntKind.wrap IntKind.i64 (IntKind.wrap IntKind.i64 (IntKind.wrap IntKind.i64 (IntKind.wrap IntKind.i64 (IntKind.wrap IntKind.i64 (y1 + (1:Int)) + (1:Int)) + (1:Int)) + (1:Int)) + (1:Int)) + (1:Int)) + (1:Int)) + (1:Int)),(-1:Int))))) (.br (true) (.br (decide ((0:Int) ≤ y2 ∧ y2 < (↑(List.length y0):Int))) (.br (g_Aw_heldIntS (at_ (Ty.pair (Ty.int IntKind.i64) (Ty.pair (Ty.pair (Ty.int IntKind.i64) (Ty.pair (Ty.int IntKind.i64) (Ty.pair (Ty.int IntKind.i64) (Ty.pair (Ty.int IntKind.i64) (Ty.pair (Ty.int IntKind.i64) (Ty.pair (Ty.int IntKind.i64) (Ty.int IntKind.i64))))))) (Ty.pair Ty.bool (Ty.pair (Ty.sl (nat_lit 3) (Ty.int IntKind.i64)) (Ty.sl (nat_lit 3) (Ty.int IntKind.i64)))))) y0 (Int.toNat y2)).2.2.2.1 (IntKind.wrap IntKind.i64 (IntKind.wrap IntKind.i64 (IntKind.wrap IntKind.i64 (IntKind.wrap IntKind.i64 (IntKind.wrap IntKind.i64 (IntKind.wrap IntKind.i64 (IntKind.wrap IntKind.i64 (IntKind.wrap IntKind.i64 (IntKind.wrap IntKind.i64 (y1 + (1:Int)) + (1:Int)) + (1:Int)) + (1:Int)) + (1:Int)) + (1:Int)) + (1:Int)) + (1:Int)) + (1:Int)))) (.br (true) (.br (decide (g_Vw_heldIntS_0 (at_ (Ty.pair (Ty.int IntKind.i64) (Ty.pair (Ty.pair (Ty.int IntKind.i64) (Ty.pair (Ty.int IntKind.i64) (Ty.pair (Ty.int IntKind.i64) (Ty.pair (Ty.int IntKind.i64) (Ty.pair (Ty.int IntKind.i64) (Ty.pair (Ty.int IntKind.i64) (Ty.int IntKind.i64))))))) (Ty.pair Ty.bool (Ty.pair (Ty.sl (nat_lit 3) (Ty.int IntKind.i64)) (Ty.sl (nat_lit 3) (Ty.int IntKind.i64)))))) y0 (Int.toNat y2)).2.2.2.1 (IntKind.wrap IntKind.i64 (IntKind.wrap IntKind.i64 (IntKind.wrap IntKind.i64 (IntKind.wrap IntKind.i64 (IntKind.wrap IntKind.i64 (IntKind.wrap IntKind.i64 (IntKind.wrap IntKind.i64 (IntKind.wrap IntKind.i64 (IntKind.wrap IntKind.i64 (y1 + (1:Int)) + (1:Int)) + (1:Int)) + (1:Int)) + (1:Int)) + (1:Int)) + (1:Int)) + (1:Int)) + (1:Int))) < (0:Int))) (.out (.inl ((g_Vw_heldIntS_0 (at_ (Ty.pair (Ty.int IntKind.i64) (Ty.pair (Ty.pair (Ty.int IntKind.i64) (Ty.pair (Ty.int IntKind.i64) (Ty.pair (Ty.int IntKind.i64) (Ty.pair (Ty.int IntKind.i64) (Ty.pair (Ty.int IntKind.i64) (Ty.pair (Ty.int IntKind.i64) (Ty.int IntKind.i64))))))) (Ty.pair Ty.bool (Ty.pair (Ty.sl (nat_lit 3) (Ty.int IntKind.i64)) (Ty.sl (nat_lit 3) (Ty.int IntKind.i64)))))) y0 (Int.toNat y2)).2.2.2.1 (IntKind.wrap IntKind.i64 (IntKind.wrap IntKind.i64 (IntKind.wrap IntKind.i64 (IntKind.wrap IntKind.i64 (IntKind.wrap IntKind.i64 (IntKind.wrap IntKind.i64 (IntKind.wrap IntKind.i64 (IntKind.wrap IntKind.i64 (IntKind.wrap IntKind.i64 (y1 + (1:Int)) + (1:Int)) + (1:Int)) + (1:Int)) + (1:Int)) + (1:Int)) + (1:Int)) + (1:Int)) + (1:Int))),(-1:Int))))) (.br (decide ((0:Int) ≤ y2 ∧ y2 < (↑(List.length y0):Int))) (.br (g_Aw_heldIntS (at_ (Ty.pair (Ty.int IntKind.i64) (Ty.pair (Ty.pair (Ty.int IntKind.i64) (Ty.pair (Ty.int IntKind.i64) (Ty.pair (Ty.int IntKind.i64) (Ty.pair (Ty.int IntKind.i64) (Ty.pair (Ty.int IntKind.i64) (Ty.pair (Ty.int IntKind.i64) (Ty.int IntKind.i64))))))) (Ty.pair Ty.bool (Ty.pair (Ty.sl (nat_lit 3) (Ty.int IntKind.i64)) (Ty.sl (nat_lit 3) (Ty.int IntKind.i64)))))) y0 (Int.toNat y2)).2.2.2.2 (g_Vw_heldIntS_0 (at_ (Ty.pair (Ty.int IntKind.i64) (Ty.pair (Ty.pair (Ty.int IntKind.i64) (Ty.pair (Ty.int IntKind.i64) (Ty.pair (Ty.int IntKind.i64) (Ty.pair (Ty.int IntKind.i64) (Ty.pair (Ty.int IntKind.i64) (Ty.pair (Ty.int IntKind.i64) (Ty.int IntKind.i64))))))) (Ty.pair Ty.bool (Ty.pair (Ty.sl (nat_lit 3) (Ty.int IntKind.i64)) (Ty.sl (nat_lit 3) (Ty.int IntKind.i64)))))) y0 (Int.toNat y2)).2.2.2.1 (IntKind.wrap IntKind.i64 (IntKind.wrap IntKind.i64 (IntKind.wrap IntKind.i64 (IntKind.wrap IntKind.i64 (IntKind.wrap IntKind.i64 (IntKind.wrap IntKind.i64 (IntKind.wrap IntKind.i64 (IntKind.wrap IntKind.i64 (IntKind.wrap IntKind.i64 (y1 + (1:Int)) + (1:Int)) + (1:Int)) + (1:Int)) + (1:Int)) + (1:Int)) + (1:Int)) + (1:Int)) + (1:Int))))) (.br (true) (.br (decide (g_Vw_heldIntS_0 (at_ (Ty.pair (Ty.int IntKind.i64) (Ty.pair (Ty.pair (Ty.int IntKind.i64) (Ty.pair (Ty.int IntKind.i64) (Ty.pair (Ty.int IntKind.i64) (Ty.pair (Ty.int IntKind.i64) (Ty.pair (Ty.int IntKind.i64) (Ty.pair (Ty.int IntKind.i64) (Ty.int IntKind.i64))))))) (Ty.pair Ty.bool (Ty.pair (Ty.sl (nat_lit 3) (Ty.int IntKind.i64)) (Ty.sl (nat_lit 3) (Ty.int IntKind.i64)))))) y0 (Int.toNat y2)).2.2.2.2 (g_Vw_heldIntS_0 (at_ (Ty.pair (Ty.int IntKind.i64) (Ty.pair (Ty.pair (Ty.int IntKind.i64) (Ty.pair (Ty.int IntKind.i64) (Ty.pair (Ty.int IntKind.i64) (Ty.pair (Ty.int IntKind.i64) (Ty.pair (Ty.int IntKind.i64) (Ty.pair (Ty.int IntKind.i64) (Ty.int IntKind.i64))))))) (Ty.pair Ty.bool (Ty.pair (Ty.sl (nat_lit 3) (Ty.int IntKind.i64)) (Ty.sl (nat_lit 3) (Ty.int IntKind.i64)))))) y0 (Int.toNat y2)).2.2.2.1 (IntKind.wrap IntKind.i64 (IntKind.wrap IntKind.i64 (IntKind.wrap IntKind.i64 (IntKind.wrap IntKind.i64 (IntKind.wrap IntKind.i64 (IntKind.wrap IntKind.i64 (IntKind.wrap IntKind.i64 (IntKind.wrap IntKind.i64 (IntKind.wrap IntKind.i64 (y1 + (1:Int)) + (1:Int)) + (1:Int)) + (1:Int)) + (1:Int)) + (1:Int)) + (1:Int)) + (1:Int)) + (1:Int)))) < (0:Int))) (.out (.inl ((g_Vw_heldIntS_0 (at_ (Ty.pair (Ty.int IntKind.i64) (Ty.pair (Ty.pair (Ty.int IntKind.i64) (Ty.pair (Ty.int IntKind.i64) (Ty.pair (Ty.int IntKind.i64) (Ty.pair (Ty.int IntKind.i64) (Ty.pair (Ty.int IntKind.i64) (Ty.pair (Ty.int IntKind.i64) (Ty.int IntKind.i64))))))) (Ty.pair Ty.bool (Ty.pair (Ty.sl (nat_lit 3) (Ty.int IntKind.i64)) (Ty.sl (nat_lit 3) (Ty.int IntKind.i64)))))) y0 (Int.toNat y2)).2.2.2.2 (g_Vw_heldIntS_0 (at_ (Ty.pair (Ty.int IntKind.i64) (Ty.pair (Ty.pair (Ty.int IntKind.i64) (Ty.pair (Ty.int IntKind.i64) (Ty.pair (Ty.int IntKind.i64) (Ty.pair (Ty.int IntKind.i64) (Ty.pair (Ty.int IntKind.i64) (Ty.pair (Ty.int IntKind.i64) (Ty.int IntKind.i64))))))) (Ty.pair Ty.bool (Ty.pair (Ty.sl (nat_lit 3) (Ty.int IntKind.i64)) (Ty.sl (nat_lit 3) (Ty.int IntKind.i64)))))) y0 (Int.toNat y2)).2.2.2.1 (IntKind.wrap IntKind.i64 (IntKind.wrap IntKind.i64 (IntKind.wrap IntKind.i64 (IntKind.wrap IntKind.i64 (IntKind.wrap IntKind.i64 (IntKind.wrap IntKind.i64 (IntKind.wrap IntKind.i64 (IntKind.wrap IntKind.i64 (IntKind.wrap IntKind.i64 (y1 + (1:Int)) + (1:Int)) + (1:Int)) + (1:Int)) + (1:Int)) + (1:Int)) + (1:Int)) + (1:Int)) + (1:Int)))),(-1:Int))))) (.br (true) (.go ((g_Vw_heldIntS_0 (at_ (Ty.pair (Ty.int IntKind.i64) (Ty.pair (Ty.pair (Ty.int IntKind.i64) (Ty.pair (Ty.int IntKind.i64) (Ty.pair (Ty.int IntKind.i64) (Ty.pair (Ty.int IntKind.i64) (Ty.pair (Ty.int IntKind.i64) (Ty.pair (Ty.int IntKind.i64) (Ty.int IntKind.i64))))))) (Ty.pair Ty.bool (Ty.pair (Ty.sl (nat_lit 3) (Ty.int IntKind.i64)) (Ty.sl (nat_lit 3) (Ty.int IntKind.i64)))))) y0 (Int.toNat y2)).2.2.2.2 (g_Vw_heldIntS_0 (at_ (Ty.pair (Ty.int IntKind.i64) (Ty.pair (Ty.pair (Ty.int IntKind.i64) (Ty.pair (Ty.int IntKind.i64) (Ty.pair (Ty.int IntKind.i64) (Ty.pair (Ty.int IntKind.i64) (Ty.pair (Ty.int IntKind.i64) (Ty.pair (Ty.int IntKind.i64) (Ty.int IntKind.i64))))))) (Ty.pair Ty.bool (Ty.pair (Ty.sl (nat_lit 3) (Ty.int IntKind.i64)) (Ty.sl (nat_lit 3) (Ty.int IntKind.i64)))))) y0 (Int.toNat y2)).2.2.2.1 (IntKind.wrap IntKind.i64 (IntKind.wrap IntKind.i64 (IntKind.wrap IntKind.i64 (IntKind.wrap IntKind.i64 (IntKind.wrap IntKind.i64 (IntKind.wrap IntKind.i64 (IntKind.wrap IntKind.i64 (IntKind.wrap IntKind.i64 (IntKind.wrap IntKind.i64 (y1 + (1:Int)) + (1:Int)) + (1:Int)) + (1:Int)) + (1:Int)) + (1:Int)) + (1:Int)) + (1:Int)) + (1:Int)))),IntKind.wrap IntKind.i64 (y2 + (1:Int))))) .bad)) .bad) .bad) .bad)) .bad) .bad) .bad) .bad)) .bad) .bad) .bad) .bad)) .bad) .bad) .bad)) .bad) .bad) .bad)) .bad) .bad) .bad)) .bad) .bad) .bad)) .bad) .bad) .bad)) .bad) .bad) .bad)) .bad) .bad) .bad)) .bad) .bad) (.out (.inr (y1)))) .bad
noncomputable def g_Lw_heldFroTxS_0 (y0:List (Int×((Int×(Int×(Int×(Int×(Int×(Int×Int))))))×(Bool×((List Int)×(List Int)))))) (x:Int×Int):Option ((Int×Int) ⊕ (Int)) := loopO (g_Sw_heldFroTxS_0 y0) x
noncomputable def xw_heldFroTxS_0 (y0:List (Int×((Int×(Int×(Int×(Int×(Int×(Int×Int))))))×(Bool×((List Int)×(List Int)))))):((Int×Int) ⊕ (Int)) → Ex×List (Pl×LV) := fun
 | .inl r => (.ret,[(.T 1,.t (.val false [.int .i64 r.1])),(.T 4,.t (.val false [.int .i64 r.2]))])
 | .inr (r) => (.exit 0,[(.T 1,.t (.val false [.int .i64 r])),(.T 4,.t (.val false [.undef]))])
noncomputable def Ow_heldFroTxS_1:Orc := fun b h => match b,h with
 | 0,[(.T 0,.t (.val false [.sl .any 66 (.pair (.int .i64) (.pair (.pair (.int .i64) (.pair (.int .i64) (.pair (.int .i64) (.pair (.int .i64) (.pair (.int .i64) (.pair (.int .i64) (.int .i64))))))) (.pair .bool (.pair (.sl 3 (.int .i64)) (.sl 3 (.int .i64)))))) y0])),(.T 1,.t (.val false [.int .i64 y1])),(.T 5,.t (.val false [.int .i64 y2]))] => some (okO (g_Lw_heldFroTxS_0 y0 (y1,y2)),(.br (isL (valO (g_Lw_heldFroTxS_0 y0 (y1,y2)))) (.leaf .ret [(.T 1,.t (.val false [.int .i64 (getL (valO (g_Lw_heldFroTxS_0 y0 (y1,y2)))).1])),(.T 4,.t (.val false [.int .i64 (getL (valO (g_Lw_heldFroTxS_0 y0 (y1,y2)))).2]))]) (.leaf (.exit 0) [(.T 1,.t (.val false [.int .i64 (getR (valO (g_Lw_heldFroTxS_0 y0 (y1,y2))))])),(.T 4,.t (.val false [.undef]))])))
 | b,h => Ow_heldFroTxS_0 b h
theorem bw_heldFroTxS_0 (y0:List (Int×((Int×(Int×(Int×(Int×(Int×(Int×Int))))))×(Bool×((List Int)×(List Int)))))) (y1:Int) (y2:Int):Tr.bt Ew_heldFroTxS Ow_heldFroTxS_0 (exec Ew_heldFroTxS 0 cw_heldFroTxS_0 (St.of (hw_heldFroTxS_0 y0 y1 y2)) (leafRd Ew_heldFroTxS 0)) = (g_Sw_heldFroTxS_0 y0 (y1,y2)).bt (fun ((y1,y2):Int×Int) => (hw_heldFroTxS_0 y0 y1 y2)) (xw_heldFroTxS_0 y0) := by kernel_rfl
theorem kw_heldFroTxS_1:OrcOk Ew_heldFroTxS Ow_heldFroTxS_1 lsw_heldFroTxS 1 := orc_add kw_heldFroTxS_0 (fun n p hp h ex h' ho => by
 obtain ⟨b,c⟩ := p
 obtain ⟨xt,h1,h2⟩ := ho
 have h1:Ow_heldFroTxS_1 b h = some (true,xt) := h1
 unfold Ow_heldFroTxS_1 at h1
 split at h1
 ·injection h1 with h1
  injection h1 with e1 e2
  subst e2
  have hc:c = cw_heldFroTxS_0 := mw_heldFroTxS_0 _ hp rfl
  subst hc
  right
  rename_i y0 y1 y2
  have key := LT_step kw_heldFroTxS_0 hp (fun q hq => loopsAll_in _ _ _ _ hp hq) (fun ((y1,y2):Int×Int) => (hw_heldFroTxS_0 y0 y1 y2)) (xw_heldFroTxS_0 y0) (g_Sw_heldFroTxS_0 y0) (fun x => by first | exact bw_heldFroTxS_0 y0 x.1 x.2) n (x := (y1,y2)) (okO_some e1)
  have hx:∀ r,XT.sel (.br (isL r) (.leaf .ret [(.T 1,.t (.val false [.int .i64 (getL r).1])),(.T 4,.t (.val false [.int .i64 (getL r).2]))]) (.leaf (.exit 0) [(.T 1,.t (.val false [.int .i64 (getR r)])),(.T 4,.t (.val false [.undef]))])) = xw_heldFroTxS_0 y0 r := fun r => by first | rfl | (rcases r with r | r <;> rfl) | (rcases r with r | r | r <;> rfl) | (rcases r with r | r | r | r <;> rfl)
  have h3 := (hx (valO (g_Lw_heldFroTxS_0 y0 (y1,y2)))).symm.trans h2
  have e3 := congrArg Prod.fst h3
  have e4 := congrArg Prod.snd h3
  simp only at e3 e4
  rw [← e3,← e4]
  exact key
 ·exact .inl ⟨xt,h1,h2⟩)
noncomputable def g_Aw_heldFroTxS (a0:List (Int×((Int×(Int×(Int×(Int×(Int×(Int×Int))))))×(Bool×((List Int)×(List Int)))))) (a1:Int):Bool := okO (g_Lw_heldFroTxS_0 a0 (a1,(0:Int)))
noncomputable def g_Vw_heldFroTxS_0 (a0:List (Int×((Int×(Int×(Int×(Int×(Int×(Int×Int))))))×(Bool×((List Int)×(List Int)))))) (a1:Int):Int := bif isL (valO (g_Lw_heldFroTxS_0 a0 (a1,(0:Int)))) then (getL (valO (g_Lw_heldFroTxS_0 a0 (a1,(0:Int))))).2 else getR (valO (g_Lw_heldFroTxS_0 a0 (a1,(0:Int))))
noncomputable def Fw_heldFroTxS:FSem := fun ys => match ys with
 | [.val false [.sl .any 66 (.pair (.int .i64) (.pair (.pair (.int .i64) (.pair (.int .i64) (.pair (.int .i64) (.pair (.int .i64) (.pair (.int .i64) (.pair (.int .i64) (.int .i64))))))) (.pair .bool (.pair (.sl 3 (.int .i64)) (.sl 3 (.int .i64)))))) a0],.val false [.int .i64 a1]] => some ((g_Aw_heldFroTxS a0 a1),.val false [.int .i64 (g_Vw_heldFroTxS_0 a0 a1)],[])
 | _ => none
theorem vw_heldFroTxS (a0:List (Int×((Int×(Int×(Int×(Int×(Int×(Int×Int))))))×(Bool×((List Int)×(List Int)))))) (a1:Int):collapseH .std Ew_heldFroTxS Ow_heldFroTxS_1 (execFn Ew_heldFroTxS Try.f33 msw_heldFroTxS [.val false [.sl .any 66 (.pair (.int .i64) (.pair (.pair (.int .i64) (.pair (.int .i64) (.pair (.int .i64) (.pair (.int .i64) (.pair (.int .i64) (.pair (.int .i64) (.int .i64))))))) (.pair .bool (.pair (.sl 3 (.int .i64)) (.sl 3 (.int .i64)))))) a0],.val false [.int .i64 a1]]) = some ((g_Aw_heldFroTxS a0 a1),.val false [.int .i64 (g_Vw_heldFroTxS_0 a0 a1)],[]) := by kernel_rfl
theorem sw_heldFroTxS:Sound Try.prog 33 msw_heldFroTxS Fw_heldFroTxS := by
 refine fn_gen goodw_heldFroTxS (by kernel_rfl) .std (fn := Try.f33) (c := (Try.f33.body.getD .skip)) (o := Ow_heldFroTxS_1) (k := 1) (by kernel_rfl) (by kernel_rfl) (by kernel_rfl) (by kernel_rfl) (by decide) kw_heldFroTxS_1 ?_
 intro ys r outs h
 unfold Fw_heldFroTxS at h
 split at h
 ·exact (vw_heldFroTxS _ _).trans h
 ·cases h
noncomputable def Ew_markText:Env where
 tt := mkTI Try.prog
 fn := fun _ => none
 bxf := fun _ => none
 mv := []
 keep := fun b => match b with
  | 0 => [(0,false),(3,false)]
  | _ => []
 keepB := fun b => match b with
  | 0 => []
  | _ => []
 keepX := fun b => match b with
  | 0 => [(3,false)]
  | _ => []
 keepXB := fun b => match b with
  | 0 => []
  | _ => []
theorem goodFw_markText:∀ f ms F,Ew_markText.fn f = some (ms,F) → Sound Try.prog f ms F := fun f ms F h => by cases h
theorem goodBw_markText:∀ f ms F,Ew_markText.bxf f = some (ms,F) → SoundB Try.prog f ms F := fun f ms F h => by cases h
theorem goodw_markText:Good Try.prog Ew_markText := ⟨rfl,goodFw_markText,goodBw_markText⟩
noncomputable def Ow_markText_0:Orc := fun _ _ => none
noncomputable def msw_markText:List PM := [.own]
noncomputable def lsw_markText:List (Nat×Code) := loopsAll 0 (Try.f45.body.getD .skip)
noncomputable def cw_markText_0:Code := (loopOf 0 (Try.f45.body.getD .skip)).getD .skip
theorem lseqw_markText:lsw_markText = [(0,cw_markText_0)] := by kernel_rfl
theorem mw_markText_0:∀ p,p ∈ lsw_markText → p.1 = 0 → p.2 = cw_markText_0 := by
 intro p hp
 rw [lseqw_markText] at hp
 simp only [List.mem_cons,List.not_mem_nil,or_false] at hp
 subst hp; simp
theorem kw_markText_0:OrcOk Ew_markText Ow_markText_0 lsw_markText 0 := orcOk_none
noncomputable def hw_markText_0 (y0:Int) (y1:ByteArray):List (Pl×LV) := [(.T 0,.t (.val false [.int .i64 y0])),(.T 3,.t (.val false [.str y1]))]
noncomputable def g_Sw_markText_0:(Int×ByteArray) → RT (Int×ByteArray) ((ByteArray))
 | (y0,y1) => .br (true) (.br (decide (y0 > (0:Int))) (.br (true) (.br (true) (.br (decide (ByteArray.size { data := List.toArray (List.map (fun n => UInt8.ofNat (Int.toNat n)) [IntKind.wrap IntKind.u8 (IntKind.wrap IntKind.i64 ((48:Int) + Int.tmod y0 (10:Int)))]) } + ByteArray.size y1 ≤ nat_lit 9223372036854775807)) (.br (true) (.go ((IntKind.wrap IntKind.i64 (Int.tdiv y0 (10:Int)),{ data := List.toArray (List.map (fun n => UInt8.ofNat (Int.toNat n)) [IntKind.wrap IntKind.u8 (IntKind.wrap IntKind.i64 ((48:Int) + Int.tmod y0 (10:Int)))]) } ++ y1))) .bad) .bad) .bad) .bad) (.out (y1))) .bad
noncomputable def g_Lw_markText_0 (x:Int×ByteArray):Option ((ByteArray)) := loopO (g_Sw_markText_0) x
noncomputable def xw_markText_0:((ByteArray)) → Ex×List (Pl×LV) := fun r => (.exit 0,[(.T 3,.t (.val false [.str r]))])
noncomputable def Ow_markText_1:Orc := fun b h => match b,h with
 | 0,[(.T 0,.t (.val false [.int .i64 y0])),(.T 3,.t (.val false [.str y1]))] => some (okO (g_Lw_markText_0 (y0,y1)),(.leaf (.exit 0) [(.T 3,.t (.val false [.str (valO (g_Lw_markText_0 (y0,y1)))]))]))
 | b,h => Ow_markText_0 b h
theorem bw_markText_0 (y0:Int) (y1:ByteArray):Tr.bt Ew_markText Ow_markText_0 (exec Ew_markText 0 cw_markText_0 (St.of (hw_markText_0 y0 y1)) (leafRd Ew_markText 0)) = (g_Sw_markText_0 (y0,y1)).bt (fun ((y0,y1):Int×ByteArray) => (hw_markText_0 y0 y1)) (xw_markText_0) := by kernel_rfl
theorem kw_markText_1:OrcOk Ew_markText Ow_markText_1 lsw_markText 1 := orc_add kw_markText_0 (fun n p hp h ex h' ho => by
 obtain ⟨b,c⟩ := p
 obtain ⟨xt,h1,h2⟩ := ho
 have h1:Ow_markText_1 b h = some (true,xt) := h1
 unfold Ow_markText_1 at h1
 split at h1
 ·injection h1 with h1
  injection h1 with e1 e2
  subst e2
  have hc:c = cw_markText_0 := mw_markText_0 _ hp rfl
  subst hc
  right
  rename_i y0 y1
  have key := LT_step kw_markText_0 hp (fun q hq => loopsAll_in _ _ _ _ hp hq) (fun ((y0,y1):Int×ByteArray) => (hw_markText_0 y0 y1)) (xw_markText_0) (g_Sw_markText_0) (fun x => by first | exact bw_markText_0 x.1 x.2) n (x := (y0,y1)) (okO_some e1)
  have hx:∀ r,XT.sel (.leaf (.exit 0) [(.T 3,.t (.val false [.str r]))]) = xw_markText_0 r := fun r => by first | rfl | (rcases r with r | r <;> rfl) | (rcases r with r | r | r <;> rfl) | (rcases r with r | r | r | r <;> rfl)
  have h3 := (hx (valO (g_Lw_markText_0 (y0,y1)))).symm.trans h2
  have e3 := congrArg Prod.fst h3
  have e4 := congrArg Prod.snd h3
  simp only at e3 e4
  rw [← e3,← e4]
  exact key
 ·exact .inl ⟨xt,h1,h2⟩)
noncomputable def g_Aw_markText (a0:Int):Bool := decide (a0 ≤ (0:Int)) || okO (g_Lw_markText_0 (a0,lit []))&&decide (nat_lit 1 + ByteArray.size (valO (g_Lw_markText_0 (a0,lit []))) ≤ nat_lit 9223372036854775807)
noncomputable def g_Vw_markText_0 (a0:Int):ByteArray := bif decide (a0 ≤ (0:Int)) then lit [(109:Nat),(48:Nat)] else lit [(109:Nat)] ++ valO (g_Lw_markText_0 (a0,lit []))
noncomputable def Fw_markText:FSem := fun ys => match ys with
 | [.val false [.int .i64 a0]] => some ((g_Aw_markText a0),.val false [.str (g_Vw_markText_0 a0)],[])
 | _ => none
theorem vw_markText (a0:Int):collapseH .std Ew_markText Ow_markText_1 (execFn Ew_markText Try.f45 msw_markText [.val false [.int .i64 a0]]) = some ((g_Aw_markText a0),.val false [.str (g_Vw_markText_0 a0)],[]) := by kernel_rfl
theorem sw_markText:Sound Try.prog 45 msw_markText Fw_markText := by
 refine fn_gen goodw_markText (by kernel_rfl) .std (fn := Try.f45) (c := (Try.f45.body.getD .skip)) (o := Ow_markText_1) (k := 1) (by kernel_rfl) (by kernel_rfl) (by kernel_rfl) (by kernel_rfl) (by decide) kw_markText_1 ?_
 intro ys r outs h
 unfold Fw_markText at h
 split at h
 ·exact (vw_markText _).trans h
 ·cases h
noncomputable def Ew_heldStoWriteS:Env where
 tt := mkTI Try.prog
 fn := fun f => match f with
  | 40 => some (msw_heldIntS,FSem.wk msw_heldIntS Fw_heldIntS)
  | 45 => some (msw_markText,FSem.wk msw_markText Fw_markText)
  | _ => none
 bxf := fun _ => none
 mv := []
 keep := fun b => match b with
  | 0 => [(0,false),(1,false),(5,false)]
  | _ => []
 keepB := fun b => match b with
  | 0 => []
  | _ => []
 keepX := fun b => match b with
  | 0 => [(1,false),(4,false)]
  | _ => []
 keepXB := fun b => match b with
  | 0 => []
  | _ => []
theorem goodFw_heldStoWriteS:∀ f ms F,Ew_heldStoWriteS.fn f = some (ms,F) → Sound Try.prog f ms F := fun f ms F h => by
 unfold Ew_heldStoWriteS at h
 dsimp only at h
 split at h
 ·injection h with h; injection h with e1 e2; subst e1 e2; exact Sound.wk sw_heldIntS
 ·injection h with h; injection h with e1 e2; subst e1 e2; exact Sound.wk sw_markText
 ·cases h
theorem goodBw_heldStoWriteS:∀ f ms F,Ew_heldStoWriteS.bxf f = some (ms,F) → SoundB Try.prog f ms F := fun f ms F h => by cases h
theorem goodw_heldStoWriteS:Good Try.prog Ew_heldStoWriteS := ⟨rfl,goodFw_heldStoWriteS,goodBw_heldStoWriteS⟩
noncomputable def Ow_heldStoWriteS_0:Orc := fun _ _ => none
noncomputable def msw_heldStoWriteS:List PM := [.rd,.own]
noncomputable def lsw_heldStoWriteS:List (Nat×Code) := loopsAll 0 (Try.f42.body.getD .skip)
noncomputable def cw_heldStoWriteS_0:Code := (loopOf 0 (Try.f42.body.getD .skip)).getD .skip
theorem lseqw_heldStoWriteS:lsw_heldStoWriteS = [(0,cw_heldStoWriteS_0)] := by kernel_rfl
theorem mw_heldStoWriteS_0:∀ p,p ∈ lsw_heldStoWriteS → p.1 = 0 → p.2 = cw_heldStoWriteS_0 := by
 intro p hp
 rw [lseqw_heldStoWriteS] at hp
 simp only [List.mem_cons,List.not_mem_nil,or_false] at hp
 subst hp; simp
theorem kw_heldStoWriteS_0:OrcOk Ew_heldStoWriteS Ow_heldStoWriteS_0 lsw_heldStoWriteS 0 := orcOk_none
noncomputable def hw_heldStoWriteS_0 (y0:List (ByteArray×(Bool×(List Int)))) (y1:Int) (y2:Int):List (Pl×LV) := [(.T 0,.t (.val false [.sl .any 78 (.pair .str (.pair .bool (.sl 3 (.int .i64)))) y0])),(.T 1,.t (.val false [.int .i64 y1])),(.T 5,.t (.val false [.int .i64 y2]))]
noncomputable def g_Sw_heldStoWriteS_0 (y0:List (ByteArray×(Bool×(List Int)))):(Int×Int) → RT (Int×Int) ((Int×Int) ⊕ (Int))
 | (y1,y2) => .br (true) (.br (decide (y2 < (↑(List.length y0):Int))) (.br (decide ((0:Int) ≤ y2 ∧ y2 < (↑(List.length y0):Int))) (.br (g_Aw_markText y1) (.br (true) (.br (!ByteArray.toList (at_ (Ty.pair Ty.str (Ty.pair Ty.bool (Ty.sl (nat_lit 3) (Ty.int IntKind.i64)))) y0 (Int.toNat y2)).1 == ByteArray.toList (g_Vw_markText_0 y1)) (.out (.inl ((y1,(-1:Int))))) (.br (true) (.br (decide ((0:Int) ≤ y2 ∧ y2 < (↑(List.length y0):Int))) (.br (true) (.br (true) (.br (!(at_ (Ty.pair Ty.str (Ty.pair Ty.bool (Ty.sl (nat_lit 3) (Ty.int IntKind.i64)))) y0 (Int.toNat y2)).2.1 == (Int.tmod (IntKind.wrap IntKind.i64 (y1 + (1:Int))) (3:Int) == (0:Int))) (.out (.inl ((IntKind.wrap IntKind.i64 (y1 + (1:Int)),(-1:Int))))) (.br (true) (.br (decide ((0:Int) ≤ y2 ∧ y2 < (↑(List.length y0):Int))) (.br (g_Aw_heldIntS (at_ (Ty.pair Ty.str (Ty.pair Ty.bool (Ty.sl (nat_lit 3) (Ty.int IntKind.i64)))) y0 (Int.toNat y2)).2.2 (IntKind.wrap IntKind.i64 (IntKind.wrap IntKind.i64 (y1 + (1:Int)) + (1:Int)))) (.br (true) (.br (decide (g_Vw_heldIntS_0 (at_ (Ty.pair Ty.str (Ty.pair Ty.bool (Ty.sl (nat_lit 3) (Ty.int IntKind.i64)))) y0 (Int.toNat y2)).2.2 (IntKind.wrap IntKind.i64 (IntKind.wrap IntKind.i64 (y1 + (1:Int)) + (1:Int))) < (0:Int))) (.out (.inl ((g_Vw_heldIntS_0 (at_ (Ty.pair Ty.str (Ty.pair Ty.bool (Ty.sl (nat_lit 3) (Ty.int IntKind.i64)))) y0 (Int.toNat y2)).2.2 (IntKind.wrap IntKind.i64 (IntKind.wrap IntKind.i64 (y1 + (1:Int)) + (1:Int))),(-1:Int))))) (.br (true) (.go ((g_Vw_heldIntS_0 (at_ (Ty.pair Ty.str (Ty.pair Ty.bool (Ty.sl (nat_lit 3) (Ty.int IntKind.i64)))) y0 (Int.toNat y2)).2.2 (IntKind.wrap IntKind.i64 (IntKind.wrap IntKind.i64 (y1 + (1:Int)) + (1:Int))),IntKind.wrap IntKind.i64 (y2 + (1:Int))))) .bad)) .bad) .bad) .bad) .bad)) .bad) .bad) .bad) .bad)) .bad) .bad) .bad) (.out (.inr (y1)))) .bad
noncomputable def g_Lw_heldStoWriteS_0 (y0:List (ByteArray×(Bool×(List Int)))) (x:Int×Int):Option ((Int×Int) ⊕ (Int)) := loopO (g_Sw_heldStoWriteS_0 y0) x
noncomputable def xw_heldStoWriteS_0 (y0:List (ByteArray×(Bool×(List Int)))):((Int×Int) ⊕ (Int)) → Ex×List (Pl×LV) := fun
 | .inl r => (.ret,[(.T 1,.t (.val false [.int .i64 r.1])),(.T 4,.t (.val false [.int .i64 r.2]))])
 | .inr (r) => (.exit 0,[(.T 1,.t (.val false [.int .i64 r])),(.T 4,.t (.val false [.undef]))])
noncomputable def Ow_heldStoWriteS_1:Orc := fun b h => match b,h with
 | 0,[(.T 0,.t (.val false [.sl .any 78 (.pair .str (.pair .bool (.sl 3 (.int .i64)))) y0])),(.T 1,.t (.val false [.int .i64 y1])),(.T 5,.t (.val false [.int .i64 y2]))] => some (okO (g_Lw_heldStoWriteS_0 y0 (y1,y2)),(.br (isL (valO (g_Lw_heldStoWriteS_0 y0 (y1,y2)))) (.leaf .ret [(.T 1,.t (.val false [.int .i64 (getL (valO (g_Lw_heldStoWriteS_0 y0 (y1,y2)))).1])),(.T 4,.t (.val false [.int .i64 (getL (valO (g_Lw_heldStoWriteS_0 y0 (y1,y2)))).2]))]) (.leaf (.exit 0) [(.T 1,.t (.val false [.int .i64 (getR (valO (g_Lw_heldStoWriteS_0 y0 (y1,y2))))])),(.T 4,.t (.val false [.undef]))])))
 | b,h => Ow_heldStoWriteS_0 b h
theorem bw_heldStoWriteS_0 (y0:List (ByteArray×(Bool×(List Int)))) (y1:Int) (y2:Int):Tr.bt Ew_heldStoWriteS Ow_heldStoWriteS_0 (exec Ew_heldStoWriteS 0 cw_heldStoWriteS_0 (St.of (hw_heldStoWriteS_0 y0 y1 y2)) (leafRd Ew_heldStoWriteS 0)) = (g_Sw_heldStoWriteS_0 y0 (y1,y2)).bt (fun ((y1,y2):Int×Int) => (hw_heldStoWriteS_0 y0 y1 y2)) (xw_heldStoWriteS_0 y0) := by kernel_rfl
theorem kw_heldStoWriteS_1:OrcOk Ew_heldStoWriteS Ow_heldStoWriteS_1 lsw_heldStoWriteS 1 := orc_add kw_heldStoWriteS_0 (fun n p hp h ex h' ho => by
 obtain ⟨b,c⟩ := p
 obtain ⟨xt,h1,h2⟩ := ho
 have h1:Ow_heldStoWriteS_1 b h = some (true,xt) := h1
 unfold Ow_heldStoWriteS_1 at h1
 split at h1
 ·injection h1 with h1
  injection h1 with e1 e2
  subst e2
  have hc:c = cw_heldStoWriteS_0 := mw_heldStoWriteS_0 _ hp rfl
  subst hc
  right
  rename_i y0 y1 y2
  have key := LT_step kw_heldStoWriteS_0 hp (fun q hq => loopsAll_in _ _ _ _ hp hq) (fun ((y1,y2):Int×Int) => (hw_heldStoWriteS_0 y0 y1 y2)) (xw_heldStoWriteS_0 y0) (g_Sw_heldStoWriteS_0 y0) (fun x => by first | exact bw_heldStoWriteS_0 y0 x.1 x.2) n (x := (y1,y2)) (okO_some e1)
  have hx:∀ r,XT.sel (.br (isL r) (.leaf .ret [(.T 1,.t (.val false [.int .i64 (getL r).1])),(.T 4,.t (.val false [.int .i64 (getL r).2]))]) (.leaf (.exit 0) [(.T 1,.t (.val false [.int .i64 (getR r)])),(.T 4,.t (.val false [.undef]))])) = xw_heldStoWriteS_0 y0 r := fun r => by first | rfl | (rcases r with r | r <;> rfl) | (rcases r with r | r | r <;> rfl) | (rcases r with r | r | r | r <;> rfl)
  have h3 := (hx (valO (g_Lw_heldStoWriteS_0 y0 (y1,y2)))).symm.trans h2
  have e3 := congrArg Prod.fst h3
  have e4 := congrArg Prod.snd h3
  simp only at e3 e4
  rw [← e3,← e4]
  exact key
 ·exact .inl ⟨xt,h1,h2⟩)
noncomputable def g_Aw_heldStoWriteS (a0:List (ByteArray×(Bool×(List Int)))) (a1:Int):Bool := okO (g_Lw_heldStoWriteS_0 a0 (a1,(0:Int)))
noncomputable def g_Vw_heldStoWriteS_0 (a0:List (ByteArray×(Bool×(List Int)))) (a1:Int):Int := bif isL (valO (g_Lw_heldStoWriteS_0 a0 (a1,(0:Int)))) then (getL (valO (g_Lw_heldStoWriteS_0 a0 (a1,(0:Int))))).2 else getR (valO (g_Lw_heldStoWriteS_0 a0 (a1,(0:Int))))
noncomputable def Fw_heldStoWriteS:FSem := fun ys => match ys with
 | [.val false [.sl .any 78 (.pair .str (.pair .bool (.sl 3 (.int .i64)))) a0],.val false [.int .i64 a1]] => some ((g_Aw_heldStoWriteS a0 a1),.val false [.int .i64 (g_Vw_heldStoWriteS_0 a0 a1)],[])
 | _ => none
theorem vw_heldStoWriteS (a0:List (ByteArray×(Bool×(List Int)))) (a1:Int):collapseH .std Ew_heldStoWriteS Ow_heldStoWriteS_1 (execFn Ew_heldStoWriteS Try.f42 msw_heldStoWriteS [.val false [.sl .any 78 (.pair .str (.pair .bool (.sl 3 (.int .i64)))) a0],.val false [.int .i64 a1]]) = some ((g_Aw_heldStoWriteS a0 a1),.val false [.int .i64 (g_Vw_heldStoWriteS_0 a0 a1)],[]) := by kernel_rfl
theorem sw_heldStoWriteS:Sound Try.prog 42 msw_heldStoWriteS Fw_heldStoWriteS := by
 refine fn_gen goodw_heldStoWriteS (by kernel_rfl) .std (fn := Try.f42) (c := (Try.f42.body.getD .skip)) (o := Ow_heldStoWriteS_1) (k := 1) (by kernel_rfl) (by kernel_rfl) (by kernel_rfl) (by kernel_rfl) (by decide) kw_heldStoWriteS_1 ?_
 intro ys r outs h
 unfold Fw_heldStoWriteS at h
 split at h
 ·exact (vw_heldStoWriteS _ _).trans h
 ·cases h
noncomputable def Ew_heldStringS:Env where
 tt := mkTI Try.prog
 fn := fun f => match f with
  | 45 => some (msw_markText,FSem.wk msw_markText Fw_markText)
  | _ => none
 bxf := fun _ => none
 mv := []
 keep := fun b => match b with
  | 0 => [(0,false),(1,false),(5,false)]
  | _ => []
 keepB := fun b => match b with
  | 0 => []
  | _ => []
 keepX := fun b => match b with
  | 0 => [(1,false),(4,false)]
  | _ => []
 keepXB := fun b => match b with
  | 0 => []
  | _ => []
theorem goodFw_heldStringS:∀ f ms F,Ew_heldStringS.fn f = some (ms,F) → Sound Try.prog f ms F := fun f ms F h => by
 unfold Ew_heldStringS at h
 dsimp only at h
 split at h
 ·injection h with h; injection h with e1 e2; subst e1 e2; exact Sound.wk sw_markText
 ·cases h
theorem goodBw_heldStringS:∀ f ms F,Ew_heldStringS.bxf f = some (ms,F) → SoundB Try.prog f ms F := fun f ms F h => by cases h
theorem goodw_heldStringS:Good Try.prog Ew_heldStringS := ⟨rfl,goodFw_heldStringS,goodBw_heldStringS⟩
noncomputable def Ow_heldStringS_0:Orc := fun _ _ => none
noncomputable def msw_heldStringS:List PM := [.rd,.own]
noncomputable def lsw_heldStringS:List (Nat×Code) := loopsAll 0 (Try.f41.body.getD .skip)
noncomputable def cw_heldStringS_0:Code := (loopOf 0 (Try.f41.body.getD .skip)).getD .skip
theorem lseqw_heldStringS:lsw_heldStringS = [(0,cw_heldStringS_0)] := by kernel_rfl
theorem mw_heldStringS_0:∀ p,p ∈ lsw_heldStringS → p.1 = 0 → p.2 = cw_heldStringS_0 := by
 intro p hp
 rw [lseqw_heldStringS] at hp
 simp only [List.mem_cons,List.not_mem_nil,or_false] at hp
 subst hp; simp
theorem kw_heldStringS_0:OrcOk Ew_heldStringS Ow_heldStringS_0 lsw_heldStringS 0 := orcOk_none
noncomputable def hw_heldStringS_0 (y0:List ByteArray) (y1:Int) (y2:Int):List (Pl×LV) := [(.T 0,.t (.val false [.sl .any 9 .str y0])),(.T 1,.t (.val false [.int .i64 y1])),(.T 5,.t (.val false [.int .i64 y2]))]
noncomputable def g_Sw_heldStringS_0 (y0:List ByteArray):(Int×Int) → RT (Int×Int) ((Int×Int) ⊕ (Int))
 | (y1,y2) => .br (true) (.br (decide (y2 < (↑(List.length y0):Int))) (.br (decide ((0:Int) ≤ y2 ∧ y2 < (↑(List.length y0):Int))) (.br (g_Aw_markText y1) (.br (true) (.br (!ByteArray.toList (at_ Ty.str y0 (Int.toNat y2)) == ByteArray.toList (g_Vw_markText_0 y1)) (.out (.inl ((y1,(-1:Int))))) (.br (true) (.br (true) (.go ((IntKind.wrap IntKind.i64 (y1 + (1:Int)),IntKind.wrap IntKind.i64 (y2 + (1:Int))))) .bad) .bad)) .bad) .bad) .bad) (.out (.inr (y1)))) .bad
noncomputable def g_Lw_heldStringS_0 (y0:List ByteArray) (x:Int×Int):Option ((Int×Int) ⊕ (Int)) := loopO (g_Sw_heldStringS_0 y0) x
noncomputable def xw_heldStringS_0 (y0:List ByteArray):((Int×Int) ⊕ (Int)) → Ex×List (Pl×LV) := fun
 | .inl r => (.ret,[(.T 1,.t (.val false [.int .i64 r.1])),(.T 4,.t (.val false [.int .i64 r.2]))])
 | .inr (r) => (.exit 0,[(.T 1,.t (.val false [.int .i64 r])),(.T 4,.t (.val false [.undef]))])
noncomputable def Ow_heldStringS_1:Orc := fun b h => match b,h with
 | 0,[(.T 0,.t (.val false [.sl .any 9 .str y0])),(.T 1,.t (.val false [.int .i64 y1])),(.T 5,.t (.val false [.int .i64 y2]))] => some (okO (g_Lw_heldStringS_0 y0 (y1,y2)),(.br (isL (valO (g_Lw_heldStringS_0 y0 (y1,y2)))) (.leaf .ret [(.T 1,.t (.val false [.int .i64 (getL (valO (g_Lw_heldStringS_0 y0 (y1,y2)))).1])),(.T 4,.t (.val false [.int .i64 (getL (valO (g_Lw_heldStringS_0 y0 (y1,y2)))).2]))]) (.leaf (.exit 0) [(.T 1,.t (.val false [.int .i64 (getR (valO (g_Lw_heldStringS_0 y0 (y1,y2))))])),(.T 4,.t (.val false [.undef]))])))
 | b,h => Ow_heldStringS_0 b h
theorem bw_heldStringS_0 (y0:List ByteArray) (y1:Int) (y2:Int):Tr.bt Ew_heldStringS Ow_heldStringS_0 (exec Ew_heldStringS 0 cw_heldStringS_0 (St.of (hw_heldStringS_0 y0 y1 y2)) (leafRd Ew_heldStringS 0)) = (g_Sw_heldStringS_0 y0 (y1,y2)).bt (fun ((y1,y2):Int×Int) => (hw_heldStringS_0 y0 y1 y2)) (xw_heldStringS_0 y0) := by kernel_rfl
theorem kw_heldStringS_1:OrcOk Ew_heldStringS Ow_heldStringS_1 lsw_heldStringS 1 := orc_add kw_heldStringS_0 (fun n p hp h ex h' ho => by
 obtain ⟨b,c⟩ := p
 obtain ⟨xt,h1,h2⟩ := ho
 have h1:Ow_heldStringS_1 b h = some (true,xt) := h1
 unfold Ow_heldStringS_1 at h1
 split at h1
 ·injection h1 with h1
  injection h1 with e1 e2
  subst e2
  have hc:c = cw_heldStringS_0 := mw_heldStringS_0 _ hp rfl
  subst hc
  right
  rename_i y0 y1 y2
  have key := LT_step kw_heldStringS_0 hp (fun q hq => loopsAll_in _ _ _ _ hp hq) (fun ((y1,y2):Int×Int) => (hw_heldStringS_0 y0 y1 y2)) (xw_heldStringS_0 y0) (g_Sw_heldStringS_0 y0) (fun x => by first | exact bw_heldStringS_0 y0 x.1 x.2) n (x := (y1,y2)) (okO_some e1)
  have hx:∀ r,XT.sel (.br (isL r) (.leaf .ret [(.T 1,.t (.val false [.int .i64 (getL r).1])),(.T 4,.t (.val false [.int .i64 (getL r).2]))]) (.leaf (.exit 0) [(.T 1,.t (.val false [.int .i64 (getR r)])),(.T 4,.t (.val false [.undef]))])) = xw_heldStringS_0 y0 r := fun r => by first | rfl | (rcases r with r | r <;> rfl) | (rcases r with r | r | r <;> rfl) | (rcases r with r | r | r | r <;> rfl)
  have h3 := (hx (valO (g_Lw_heldStringS_0 y0 (y1,y2)))).symm.trans h2
  have e3 := congrArg Prod.fst h3
  have e4 := congrArg Prod.snd h3
  simp only at e3 e4
  rw [← e3,← e4]
  exact key
 ·exact .inl ⟨xt,h1,h2⟩)
noncomputable def g_Aw_heldStringS (a0:List ByteArray) (a1:Int):Bool := okO (g_Lw_heldStringS_0 a0 (a1,(0:Int)))
noncomputable def g_Vw_heldStringS_0 (a0:List ByteArray) (a1:Int):Int := bif isL (valO (g_Lw_heldStringS_0 a0 (a1,(0:Int)))) then (getL (valO (g_Lw_heldStringS_0 a0 (a1,(0:Int))))).2 else getR (valO (g_Lw_heldStringS_0 a0 (a1,(0:Int))))
noncomputable def Fw_heldStringS:FSem := fun ys => match ys with
 | [.val false [.sl .any 9 .str a0],.val false [.int .i64 a1]] => some ((g_Aw_heldStringS a0 a1),.val false [.int .i64 (g_Vw_heldStringS_0 a0 a1)],[])
 | _ => none
theorem vw_heldStringS (a0:List ByteArray) (a1:Int):collapseH .std Ew_heldStringS Ow_heldStringS_1 (execFn Ew_heldStringS Try.f41 msw_heldStringS [.val false [.sl .any 9 .str a0],.val false [.int .i64 a1]]) = some ((g_Aw_heldStringS a0 a1),.val false [.int .i64 (g_Vw_heldStringS_0 a0 a1)],[]) := by kernel_rfl
theorem sw_heldStringS:Sound Try.prog 41 msw_heldStringS Fw_heldStringS := by
 refine fn_gen goodw_heldStringS (by kernel_rfl) .std (fn := Try.f41) (c := (Try.f41.body.getD .skip)) (o := Ow_heldStringS_1) (k := 1) (by kernel_rfl) (by kernel_rfl) (by kernel_rfl) (by kernel_rfl) (by decide) kw_heldStringS_1 ?_
 intro ys r outs h
 unfold Fw_heldStringS at h
 split at h
 ·exact (vw_heldStringS _ _).trans h
 ·cases h
noncomputable def Ew_heldLogNoteS:Env where
 tt := mkTI Try.prog
 fn := fun f => match f with
  | 41 => some (msw_heldStringS,FSem.wk msw_heldStringS Fw_heldStringS)
  | 42 => some (msw_heldStoWriteS,FSem.wk msw_heldStoWriteS Fw_heldStoWriteS)
  | _ => none
 bxf := fun _ => none
 mv := []
 keep := fun b => match b with
  | 0 => [(0,false),(1,false),(5,false)]
  | _ => []
 keepB := fun b => match b with
  | 0 => []
  | _ => []
 keepX := fun b => match b with
  | 0 => [(1,false),(4,false)]
  | _ => []
 keepXB := fun b => match b with
  | 0 => []
  | _ => []
theorem goodFw_heldLogNoteS:∀ f ms F,Ew_heldLogNoteS.fn f = some (ms,F) → Sound Try.prog f ms F := fun f ms F h => by
 unfold Ew_heldLogNoteS at h
 dsimp only at h
 split at h
 ·injection h with h; injection h with e1 e2; subst e1 e2; exact Sound.wk sw_heldStringS
 ·injection h with h; injection h with e1 e2; subst e1 e2; exact Sound.wk sw_heldStoWriteS
 ·cases h
theorem goodBw_heldLogNoteS:∀ f ms F,Ew_heldLogNoteS.bxf f = some (ms,F) → SoundB Try.prog f ms F := fun f ms F h => by cases h
theorem goodw_heldLogNoteS:Good Try.prog Ew_heldLogNoteS := ⟨rfl,goodFw_heldLogNoteS,goodBw_heldLogNoteS⟩
noncomputable def Ow_heldLogNoteS_0:Orc := fun _ _ => none
noncomputable def msw_heldLogNoteS:List PM := [.rd,.own]
noncomputable def lsw_heldLogNoteS:List (Nat×Code) := loopsAll 0 (Try.f34.body.getD .skip)
noncomputable def cw_heldLogNoteS_0:Code := (loopOf 0 (Try.f34.body.getD .skip)).getD .skip
theorem lseqw_heldLogNoteS:lsw_heldLogNoteS = [(0,cw_heldLogNoteS_0)] := by kernel_rfl
theorem mw_heldLogNoteS_0:∀ p,p ∈ lsw_heldLogNoteS → p.1 = 0 → p.2 = cw_heldLogNoteS_0 := by
 intro p hp
 rw [lseqw_heldLogNoteS] at hp
 simp only [List.mem_cons,List.not_mem_nil,or_false] at hp
 subst hp; simp
theorem kw_heldLogNoteS_0:OrcOk Ew_heldLogNoteS Ow_heldLogNoteS_0 lsw_heldLogNoteS 0 := orcOk_none
noncomputable def hw_heldLogNoteS_0 (y0:List (Int×(Int×((List ByteArray)×(List (ByteArray×(Bool×(List Int)))))))) (y1:Int) (y2:Int):List (Pl×LV) := [(.T 0,.t (.val false [.sl .any 71 (.pair (.int .i64) (.pair (.int .i64) (.pair (.sl 9 .str) (.sl 78 (.pair .str (.pair .bool (.sl 3 (.int .i64)))))))) y0])),(.T 1,.t (.val false [.int .i64 y1])),(.T 5,.t (.val false [.int .i64 y2]))]
noncomputable def g_Sw_heldLogNoteS_0 (y0:List (Int×(Int×((List ByteArray)×(List (ByteArray×(Bool×(List Int)))))))):(Int×Int) → RT (Int×Int) ((Int×Int) ⊕ (Int))
 | (y1,y2) => .br (true) (.br (decide (y2 < (↑(List.length y0):Int))) (.br (decide ((0:Int) ≤ y2 ∧ y2 < (↑(List.length y0):Int))) (.br (true) (.br ((at_ (Ty.pair (Ty.int IntKind.i64) (Ty.pair (Ty.int IntKind.i64) (Ty.pair (Ty.sl (nat_lit 9) Ty.str) (Ty.sl (nat_lit 78) (Ty.pair Ty.str (Ty.pair Ty.bool (Ty.sl (nat_lit 3) (Ty.int IntKind.i64)))))))) y0 (Int.toNat y2)).1 != y1) (.out (.inl ((y1,(-1:Int))))) (.br (true) (.br (decide ((0:Int) ≤ y2 ∧ y2 < (↑(List.length y0):Int))) (.br (true) (.br ((at_ (Ty.pair (Ty.int IntKind.i64) (Ty.pair (Ty.int IntKind.i64) (Ty.pair (Ty.sl (nat_lit 9) Ty.str) (Ty.sl (nat_lit 78) (Ty.pair Ty.str (Ty.pair Ty.bool (Ty.sl (nat_lit 3) (Ty.int IntKind.i64)))))))) y0 (Int.toNat y2)).2.1 != IntKind.wrap IntKind.i64 (y1 + (1:Int))) (.out (.inl ((IntKind.wrap IntKind.i64 (y1 + (1:Int)),(-1:Int))))) (.br (true) (.br (decide ((0:Int) ≤ y2 ∧ y2 < (↑(List.length y0):Int))) (.br (g_Aw_heldStringS (at_ (Ty.pair (Ty.int IntKind.i64) (Ty.pair (Ty.int IntKind.i64) (Ty.pair (Ty.sl (nat_lit 9) Ty.str) (Ty.sl (nat_lit 78) (Ty.pair Ty.str (Ty.pair Ty.bool (Ty.sl (nat_lit 3) (Ty.int IntKind.i64)))))))) y0 (Int.toNat y2)).2.2.1 (IntKind.wrap IntKind.i64 (IntKind.wrap IntKind.i64 (y1 + (1:Int)) + (1:Int)))) (.br (true) (.br (decide (g_Vw_heldStringS_0 (at_ (Ty.pair (Ty.int IntKind.i64) (Ty.pair (Ty.int IntKind.i64) (Ty.pair (Ty.sl (nat_lit 9) Ty.str) (Ty.sl (nat_lit 78) (Ty.pair Ty.str (Ty.pair Ty.bool (Ty.sl (nat_lit 3) (Ty.int IntKind.i64)))))))) y0 (Int.toNat y2)).2.2.1 (IntKind.wrap IntKind.i64 (IntKind.wrap IntKind.i64 (y1 + (1:Int)) + (1:Int))) < (0:Int))) (.out (.inl ((g_Vw_heldStringS_0 (at_ (Ty.pair (Ty.int IntKind.i64) (Ty.pair (Ty.int IntKind.i64) (Ty.pair (Ty.sl (nat_lit 9) Ty.str) (Ty.sl (nat_lit 78) (Ty.pair Ty.str (Ty.pair Ty.bool (Ty.sl (nat_lit 3) (Ty.int IntKind.i64)))))))) y0 (Int.toNat y2)).2.2.1 (IntKind.wrap IntKind.i64 (IntKind.wrap IntKind.i64 (y1 + (1:Int)) + (1:Int))),(-1:Int))))) (.br (decide ((0:Int) ≤ y2 ∧ y2 < (↑(List.length y0):Int))) (.br (g_Aw_heldStoWriteS (at_ (Ty.pair (Ty.int IntKind.i64) (Ty.pair (Ty.int IntKind.i64) (Ty.pair (Ty.sl (nat_lit 9) Ty.str) (Ty.sl (nat_lit 78) (Ty.pair Ty.str (Ty.pair Ty.bool (Ty.sl (nat_lit 3) (Ty.int IntKind.i64)))))))) y0 (Int.toNat y2)).2.2.2 (g_Vw_heldStringS_0 (at_ (Ty.pair (Ty.int IntKind.i64) (Ty.pair (Ty.int IntKind.i64) (Ty.pair (Ty.sl (nat_lit 9) Ty.str) (Ty.sl (nat_lit 78) (Ty.pair Ty.str (Ty.pair Ty.bool (Ty.sl (nat_lit 3) (Ty.int IntKind.i64)))))))) y0 (Int.toNat y2)).2.2.1 (IntKind.wrap IntKind.i64 (IntKind.wrap IntKind.i64 (y1 + (1:Int)) + (1:Int))))) (.br (true) (.br (decide (g_Vw_heldStoWriteS_0 (at_ (Ty.pair (Ty.int IntKind.i64) (Ty.pair (Ty.int IntKind.i64) (Ty.pair (Ty.sl (nat_lit 9) Ty.str) (Ty.sl (nat_lit 78) (Ty.pair Ty.str (Ty.pair Ty.bool (Ty.sl (nat_lit 3) (Ty.int IntKind.i64)))))))) y0 (Int.toNat y2)).2.2.2 (g_Vw_heldStringS_0 (at_ (Ty.pair (Ty.int IntKind.i64) (Ty.pair (Ty.int IntKind.i64) (Ty.pair (Ty.sl (nat_lit 9) Ty.str) (Ty.sl (nat_lit 78) (Ty.pair Ty.str (Ty.pair Ty.bool (Ty.sl (nat_lit 3) (Ty.int IntKind.i64)))))))) y0 (Int.toNat y2)).2.2.1 (IntKind.wrap IntKind.i64 (IntKind.wrap IntKind.i64 (y1 + (1:Int)) + (1:Int)))) < (0:Int))) (.out (.inl ((g_Vw_heldStoWriteS_0 (at_ (Ty.pair (Ty.int IntKind.i64) (Ty.pair (Ty.int IntKind.i64) (Ty.pair (Ty.sl (nat_lit 9) Ty.str) (Ty.sl (nat_lit 78) (Ty.pair Ty.str (Ty.pair Ty.bool (Ty.sl (nat_lit 3) (Ty.int IntKind.i64)))))))) y0 (Int.toNat y2)).2.2.2 (g_Vw_heldStringS_0 (at_ (Ty.pair (Ty.int IntKind.i64) (Ty.pair (Ty.int IntKind.i64) (Ty.pair (Ty.sl (nat_lit 9) Ty.str) (Ty.sl (nat_lit 78) (Ty.pair Ty.str (Ty.pair Ty.bool (Ty.sl (nat_lit 3) (Ty.int IntKind.i64)))))))) y0 (Int.toNat y2)).2.2.1 (IntKind.wrap IntKind.i64 (IntKind.wrap IntKind.i64 (y1 + (1:Int)) + (1:Int)))),(-1:Int))))) (.br (true) (.go ((g_Vw_heldStoWriteS_0 (at_ (Ty.pair (Ty.int IntKind.i64) (Ty.pair (Ty.int IntKind.i64) (Ty.pair (Ty.sl (nat_lit 9) Ty.str) (Ty.sl (nat_lit 78) (Ty.pair Ty.str (Ty.pair Ty.bool (Ty.sl (nat_lit 3) (Ty.int IntKind.i64)))))))) y0 (Int.toNat y2)).2.2.2 (g_Vw_heldStringS_0 (at_ (Ty.pair (Ty.int IntKind.i64) (Ty.pair (Ty.int IntKind.i64) (Ty.pair (Ty.sl (nat_lit 9) Ty.str) (Ty.sl (nat_lit 78) (Ty.pair Ty.str (Ty.pair Ty.bool (Ty.sl (nat_lit 3) (Ty.int IntKind.i64)))))))) y0 (Int.toNat y2)).2.2.1 (IntKind.wrap IntKind.i64 (IntKind.wrap IntKind.i64 (y1 + (1:Int)) + (1:Int)))),IntKind.wrap IntKind.i64 (y2 + (1:Int))))) .bad)) .bad) .bad) .bad)) .bad) .bad) .bad) .bad)) .bad) .bad) .bad)) .bad) .bad) (.out (.inr (y1)))) .bad
noncomputable def g_Lw_heldLogNoteS_0 (y0:List (Int×(Int×((List ByteArray)×(List (ByteArray×(Bool×(List Int)))))))) (x:Int×Int):Option ((Int×Int) ⊕ (Int)) := loopO (g_Sw_heldLogNoteS_0 y0) x
noncomputable def xw_heldLogNoteS_0 (y0:List (Int×(Int×((List ByteArray)×(List (ByteArray×(Bool×(List Int)))))))):((Int×Int) ⊕ (Int)) → Ex×List (Pl×LV) := fun
 | .inl r => (.ret,[(.T 1,.t (.val false [.int .i64 r.1])),(.T 4,.t (.val false [.int .i64 r.2]))])
 | .inr (r) => (.exit 0,[(.T 1,.t (.val false [.int .i64 r])),(.T 4,.t (.val false [.undef]))])
noncomputable def Ow_heldLogNoteS_1:Orc := fun b h => match b,h with
 | 0,[(.T 0,.t (.val false [.sl .any 71 (.pair (.int .i64) (.pair (.int .i64) (.pair (.sl 9 .str) (.sl 78 (.pair .str (.pair .bool (.sl 3 (.int .i64)))))))) y0])),(.T 1,.t (.val false [.int .i64 y1])),(.T 5,.t (.val false [.int .i64 y2]))] => some (okO (g_Lw_heldLogNoteS_0 y0 (y1,y2)),(.br (isL (valO (g_Lw_heldLogNoteS_0 y0 (y1,y2)))) (.leaf .ret [(.T 1,.t (.val false [.int .i64 (getL (valO (g_Lw_heldLogNoteS_0 y0 (y1,y2)))).1])),(.T 4,.t (.val false [.int .i64 (getL (valO (g_Lw_heldLogNoteS_0 y0 (y1,y2)))).2]))]) (.leaf (.exit 0) [(.T 1,.t (.val false [.int .i64 (getR (valO (g_Lw_heldLogNoteS_0 y0 (y1,y2))))])),(.T 4,.t (.val false [.undef]))])))
 | b,h => Ow_heldLogNoteS_0 b h
theorem bw_heldLogNoteS_0 (y0:List (Int×(Int×((List ByteArray)×(List (ByteArray×(Bool×(List Int)))))))) (y1:Int) (y2:Int):Tr.bt Ew_heldLogNoteS Ow_heldLogNoteS_0 (exec Ew_heldLogNoteS 0 cw_heldLogNoteS_0 (St.of (hw_heldLogNoteS_0 y0 y1 y2)) (leafRd Ew_heldLogNoteS 0)) = (g_Sw_heldLogNoteS_0 y0 (y1,y2)).bt (fun ((y1,y2):Int×Int) => (hw_heldLogNoteS_0 y0 y1 y2)) (xw_heldLogNoteS_0 y0) := by kernel_rfl
theorem kw_heldLogNoteS_1:OrcOk Ew_heldLogNoteS Ow_heldLogNoteS_1 lsw_heldLogNoteS 1 := orc_add kw_heldLogNoteS_0 (fun n p hp h ex h' ho => by
 obtain ⟨b,c⟩ := p
 obtain ⟨xt,h1,h2⟩ := ho
 have h1:Ow_heldLogNoteS_1 b h = some (true,xt) := h1
 unfold Ow_heldLogNoteS_1 at h1
 split at h1
 ·injection h1 with h1
  injection h1 with e1 e2
  subst e2
  have hc:c = cw_heldLogNoteS_0 := mw_heldLogNoteS_0 _ hp rfl
  subst hc
  right
  rename_i y0 y1 y2
  have key := LT_step kw_heldLogNoteS_0 hp (fun q hq => loopsAll_in _ _ _ _ hp hq) (fun ((y1,y2):Int×Int) => (hw_heldLogNoteS_0 y0 y1 y2)) (xw_heldLogNoteS_0 y0) (g_Sw_heldLogNoteS_0 y0) (fun x => by first | exact bw_heldLogNoteS_0 y0 x.1 x.2) n (x := (y1,y2)) (okO_some e1)
  have hx:∀ r,XT.sel (.br (isL r) (.leaf .ret [(.T 1,.t (.val false [.int .i64 (getL r).1])),(.T 4,.t (.val false [.int .i64 (getL r).2]))]) (.leaf (.exit 0) [(.T 1,.t (.val false [.int .i64 (getR r)])),(.T 4,.t (.val false [.undef]))])) = xw_heldLogNoteS_0 y0 r := fun r => by first | rfl | (rcases r with r | r <;> rfl) | (rcases r with r | r | r <;> rfl) | (rcases r with r | r | r | r <;> rfl)
  have h3 := (hx (valO (g_Lw_heldLogNoteS_0 y0 (y1,y2)))).symm.trans h2
  have e3 := congrArg Prod.fst h3
  have e4 := congrArg Prod.snd h3
  simp only at e3 e4
  rw [← e3,← e4]
  exact key
 ·exact .inl ⟨xt,h1,h2⟩)
noncomputable def g_Aw_heldLogNoteS (a0:List (Int×(Int×((List ByteArray)×(List (ByteArray×(Bool×(List Int)))))))) (a1:Int):Bool := okO (g_Lw_heldLogNoteS_0 a0 (a1,(0:Int)))
noncomputable def g_Vw_heldLogNoteS_0 (a0:List (Int×(Int×((List ByteArray)×(List (ByteArray×(Bool×(List Int)))))))) (a1:Int):Int := bif isL (valO (g_Lw_heldLogNoteS_0 a0 (a1,(0:Int)))) then (getL (valO (g_Lw_heldLogNoteS_0 a0 (a1,(0:Int))))).2 else getR (valO (g_Lw_heldLogNoteS_0 a0 (a1,(0:Int))))
noncomputable def Fw_heldLogNoteS:FSem := fun ys => match ys with
 | [.val false [.sl .any 71 (.pair (.int .i64) (.pair (.int .i64) (.pair (.sl 9 .str) (.sl 78 (.pair .str (.pair .bool (.sl 3 (.int .i64)))))))) a0],.val false [.int .i64 a1]] => some ((g_Aw_heldLogNoteS a0 a1),.val false [.int .i64 (g_Vw_heldLogNoteS_0 a0 a1)],[])
 | _ => none
theorem vw_heldLogNoteS (a0:List (Int×(Int×((List ByteArray)×(List (ByteArray×(Bool×(List Int)))))))) (a1:Int):collapseH .std Ew_heldLogNoteS Ow_heldLogNoteS_1 (execFn Ew_heldLogNoteS Try.f34 msw_heldLogNoteS [.val false [.sl .any 71 (.pair (.int .i64) (.pair (.int .i64) (.pair (.sl 9 .str) (.sl 78 (.pair .str (.pair .bool (.sl 3 (.int .i64)))))))) a0],.val false [.int .i64 a1]]) = some ((g_Aw_heldLogNoteS a0 a1),.val false [.int .i64 (g_Vw_heldLogNoteS_0 a0 a1)],[]) := by kernel_rfl
theorem sw_heldLogNoteS:Sound Try.prog 34 msw_heldLogNoteS Fw_heldLogNoteS := by
 refine fn_gen goodw_heldLogNoteS (by kernel_rfl) .std (fn := Try.f34) (c := (Try.f34.body.getD .skip)) (o := Ow_heldLogNoteS_1) (k := 1) (by kernel_rfl) (by kernel_rfl) (by kernel_rfl) (by kernel_rfl) (by decide) kw_heldLogNoteS_1 ?_
 intro ys r outs h
 unfold Fw_heldLogNoteS at h
 split at h
 ·exact (vw_heldLogNoteS _ _).trans h
 ·cases h
noncomputable def Ew_heldLogDisk:Env where
 tt := mkTI Try.prog
 fn := fun f => match f with
  | 34 => some (msw_heldLogNoteS,FSem.wk msw_heldLogNoteS Fw_heldLogNoteS)
  | _ => none
 bxf := fun _ => none
 mv := []
 keep := fun _ => []
 keepB := fun _ => []
 keepX := fun _ => []
 keepXB := fun _ => []
theorem goodFw_heldLogDisk:∀ f ms F,Ew_heldLogDisk.fn f = some (ms,F) → Sound Try.prog f ms F := fun f ms F h => by
 unfold Ew_heldLogDisk at h
 dsimp only at h
 split at h
 ·injection h with h; injection h with e1 e2; subst e1 e2; exact Sound.wk sw_heldLogNoteS
 ·cases h
theorem goodBw_heldLogDisk:∀ f ms F,Ew_heldLogDisk.bxf f = some (ms,F) → SoundB Try.prog f ms F := fun f ms F h => by cases h
theorem goodw_heldLogDisk:Good Try.prog Ew_heldLogDisk := ⟨rfl,goodFw_heldLogDisk,goodBw_heldLogDisk⟩
noncomputable def Ow_heldLogDisk_0:Orc := fun _ _ => none
noncomputable def msw_heldLogDisk:List PM := [.rd,.own]
noncomputable def lsw_heldLogDisk:List (Nat×Code) := loopsAll 0 (Try.f32.body.getD .skip)
theorem kw_heldLogDisk_0:OrcOk Ew_heldLogDisk Ow_heldLogDisk_0 lsw_heldLogDisk 0 := orcOk_none
noncomputable def g_Aw_heldLogDisk (a0:List (Int×(Int×((List ByteArray)×(List (ByteArray×(Bool×(List Int)))))))) (a1:Int) (a2:Int):Bool := g_Aw_heldLogNoteS a0 a2&&true
noncomputable def g_Vw_heldLogDisk_0 (a0:List (Int×(Int×((List ByteArray)×(List (ByteArray×(Bool×(List Int)))))))) (a1:Int) (a2:Int):Int := bif decide (g_Vw_heldLogNoteS_0 a0 a2 < (0:Int)) then (-1:Int) else g_Vw_heldLogNoteS_0 a0 a2
noncomputable def Fw_heldLogDisk:FSem := fun ys => match ys with
 | [.val true [.sl .any 71 (.pair (.int .i64) (.pair (.int .i64) (.pair (.sl 9 .str) (.sl 78 (.pair .str (.pair .bool (.sl 3 (.int .i64)))))))) a0,.int .i64 a1],.val false [.int .i64 a2]] => some ((g_Aw_heldLogDisk a0 a1 a2),.val false [.int .i64 (g_Vw_heldLogDisk_0 a0 a1 a2)],[])
 | _ => none
theorem vw_heldLogDisk (a0:List (Int×(Int×((List ByteArray)×(List (ByteArray×(Bool×(List Int)))))))) (a1:Int) (a2:Int):collapseH .std Ew_heldLogDisk Ow_heldLogDisk_0 (execFn Ew_heldLogDisk Try.f32 msw_heldLogDisk [.val true [.sl .any 71 (.pair (.int .i64) (.pair (.int .i64) (.pair (.sl 9 .str) (.sl 78 (.pair .str (.pair .bool (.sl 3 (.int .i64)))))))) a0,.int .i64 a1],.val false [.int .i64 a2]]) = some ((g_Aw_heldLogDisk a0 a1 a2),.val false [.int .i64 (g_Vw_heldLogDisk_0 a0 a1 a2)],[]) := by kernel_rfl
theorem sw_heldLogDisk:Sound Try.prog 32 msw_heldLogDisk Fw_heldLogDisk := by
 refine fn_gen goodw_heldLogDisk (by kernel_rfl) .std (fn := Try.f32) (c := (Try.f32.body.getD .skip)) (o := Ow_heldLogDisk_0) (k := 0) (by kernel_rfl) (by kernel_rfl) (by kernel_rfl) (by kernel_rfl) (by decide) kw_heldLogDisk_0 ?_
 intro ys r outs h
 unfold Fw_heldLogDisk at h
 split at h
 ·exact (vw_heldLogDisk _ _ _).trans h
 ·cases h
noncomputable def Ew_heldFroState:Env where
 tt := mkTI Try.prog
 fn := fun f => match f with
  | 32 => some (msw_heldLogDisk,FSem.wk msw_heldLogDisk Fw_heldLogDisk)
  | 33 => some (msw_heldFroTxS,FSem.wk msw_heldFroTxS Fw_heldFroTxS)
  | _ => none
 bxf := fun _ => none
 mv := []
 keep := fun _ => []
 keepB := fun _ => []
 keepX := fun _ => []
 keepXB := fun _ => []
theorem goodFw_heldFroState:∀ f ms F,Ew_heldFroState.fn f = some (ms,F) → Sound Try.prog f ms F := fun f ms F h => by
 unfold Ew_heldFroState at h
 dsimp only at h
 split at h
 ·injection h with h; injection h with e1 e2; subst e1 e2; exact Sound.wk sw_heldLogDisk
 ·injection h with h; injection h with e1 e2; subst e1 e2; exact Sound.wk sw_heldFroTxS
 ·cases h
theorem goodBw_heldFroState:∀ f ms F,Ew_heldFroState.bxf f = some (ms,F) → SoundB Try.prog f ms F := fun f ms F h => by cases h
theorem goodw_heldFroState:Good Try.prog Ew_heldFroState := ⟨rfl,goodFw_heldFroState,goodBw_heldFroState⟩
noncomputable def Ow_heldFroState_0:Orc := fun _ _ => none
noncomputable def msw_heldFroState:List PM := [.rd,.own]
noncomputable def lsw_heldFroState:List (Nat×Code) := loopsAll 0 (Try.f19.body.getD .skip)
theorem kw_heldFroState_0:OrcOk Ew_heldFroState Ow_heldFroState_0 lsw_heldFroState 0 := orcOk_none
noncomputable def g_Aw_heldFroState (a0:List (Int×(Int×((List ByteArray)×(List (ByteArray×(Bool×(List Int)))))))) (a1:Int) (a2:List (Int×((Int×(Int×(Int×(Int×(Int×(Int×Int))))))×(Bool×((List Int)×(List Int)))))) (a3:Int):Bool := g_Aw_heldLogDisk a0 a1 a3&&(decide (g_Vw_heldLogDisk_0 a0 a1 a3 < (0:Int)) || g_Aw_heldFroTxS a2 (g_Vw_heldLogDisk_0 a0 a1 a3)&&true)
noncomputable def g_Vw_heldFroState_0 (a0:List (Int×(Int×((List ByteArray)×(List (ByteArray×(Bool×(List Int)))))))) (a1:Int) (a2:List (Int×((Int×(Int×(Int×(Int×(Int×(Int×Int))))))×(Bool×((List Int)×(List Int)))))) (a3:Int):Int := bif decide (g_Vw_heldLogDisk_0 a0 a1 a3 < (0:Int)) then (-1:Int) else bif decide (g_Vw_heldFroTxS_0 a2 (g_Vw_heldLogDisk_0 a0 a1 a3) < (0:Int)) then (-1:Int) else g_Vw_heldFroTxS_0 a2 (g_Vw_heldLogDisk_0 a0 a1 a3)
noncomputable def Fw_heldFroState:FSem := fun ys => match ys with
 | [.val true [.sl .any 71 (.pair (.int .i64) (.pair (.int .i64) (.pair (.sl 9 .str) (.sl 78 (.pair .str (.pair .bool (.sl 3 (.int .i64)))))))) a0,.int .i64 a1,.sl .any 66 (.pair (.int .i64) (.pair (.pair (.int .i64) (.pair (.int .i64) (.pair (.int .i64) (.pair (.int .i64) (.pair (.int .i64) (.pair (.int .i64) (.int .i64))))))) (.pair .bool (.pair (.sl 3 (.int .i64)) (.sl 3 (.int .i64)))))) a2],.val false [.int .i64 a3]] => some ((g_Aw_heldFroState a0 a1 a2 a3),.val false [.int .i64 (g_Vw_heldFroState_0 a0 a1 a2 a3)],[])
 | _ => none
theorem vw_heldFroState (a0:List (Int×(Int×((List ByteArray)×(List (ByteArray×(Bool×(List Int)))))))) (a1:Int) (a2:List (Int×((Int×(Int×(Int×(Int×(Int×(Int×Int))))))×(Bool×((List Int)×(List Int)))))) (a3:Int):collapseH .std Ew_heldFroState Ow_heldFroState_0 (execFn Ew_heldFroState Try.f19 msw_heldFroState [.val true [.sl .any 71 (.pair (.int .i64) (.pair (.int .i64) (.pair (.sl 9 .str) (.sl 78 (.pair .str (.pair .bool (.sl 3 (.int .i64)))))))) a0,.int .i64 a1,.sl .any 66 (.pair (.int .i64) (.pair (.pair (.int .i64) (.pair (.int .i64) (.pair (.int .i64) (.pair (.int .i64) (.pair (.int .i64) (.pair (.int .i64) (.int .i64))))))) (.pair .bool (.pair (.sl 3 (.int .i64)) (.sl 3 (.int .i64)))))) a2],.val false [.int .i64 a3]]) = some ((g_Aw_heldFroState a0 a1 a2 a3),.val false [.int .i64 (g_Vw_heldFroState_0 a0 a1 a2 a3)],[]) := by kernel_rfl
theorem sw_heldFroState:Sound Try.prog 19 msw_heldFroState Fw_heldFroState := by
 refine fn_gen goodw_heldFroState (by kernel_rfl) .std (fn := Try.f19) (c := (Try.f19.body.getD .skip)) (o := Ow_heldFroState_0) (k := 0) (by kernel_rfl) (by kernel_rfl) (by kernel_rfl) (by kernel_rfl) (by decide) kw_heldFroState_0 ?_
 intro ys r outs h
 unfold Fw_heldFroState at h
 split at h
 ·exact (vw_heldFroState _ _ _ _).trans h
 ·cases h
noncomputable def Ew_heldLogDiskS:Env where
 tt := mkTI Try.prog
 fn := fun f => match f with
  | 34 => some (msw_heldLogNoteS,FSem.wk msw_heldLogNoteS Fw_heldLogNoteS)
  | _ => none
 bxf := fun _ => none
 mv := []
 keep := fun b => match b with
  | 0 => [(0,false),(1,false),(5,false)]
  | _ => []
 keepB := fun b => match b with
  | 0 => []
  | _ => []
 keepX := fun b => match b with
  | 0 => [(1,false),(4,false)]
  | _ => []
 keepXB := fun b => match b with
  | 0 => []
  | _ => []
theorem goodFw_heldLogDiskS:∀ f ms F,Ew_heldLogDiskS.fn f = some (ms,F) → Sound Try.prog f ms F := fun f ms F h => by
 unfold Ew_heldLogDiskS at h
 dsimp only at h
 split at h
 ·injection h with h; injection h with e1 e2; subst e1 e2; exact Sound.wk sw_heldLogNoteS
 ·cases h
theorem goodBw_heldLogDiskS:∀ f ms F,Ew_heldLogDiskS.bxf f = some (ms,F) → SoundB Try.prog f ms F := fun f ms F h => by cases h
theorem goodw_heldLogDiskS:Good Try.prog Ew_heldLogDiskS := ⟨rfl,goodFw_heldLogDiskS,goodBw_heldLogDiskS⟩
noncomputable def Ow_heldLogDiskS_0:Orc := fun _ _ => none
noncomputable def msw_heldLogDiskS:List PM := [.rd,.own]
noncomputable def lsw_heldLogDiskS:List (Nat×Code) := loopsAll 0 (Try.f20.body.getD .skip)
noncomputable def cw_heldLogDiskS_0:Code := (loopOf 0 (Try.f20.body.getD .skip)).getD .skip
theorem lseqw_heldLogDiskS:lsw_heldLogDiskS = [(0,cw_heldLogDiskS_0)] := by kernel_rfl
theorem mw_heldLogDiskS_0:∀ p,p ∈ lsw_heldLogDiskS → p.1 = 0 → p.2 = cw_heldLogDiskS_0 := by
 intro p hp
 rw [lseqw_heldLogDiskS] at hp
 simp only [List.mem_cons,List.not_mem_nil,or_false] at hp
 subst hp; simp
theorem kw_heldLogDiskS_0:OrcOk Ew_heldLogDiskS Ow_heldLogDiskS_0 lsw_heldLogDiskS 0 := orcOk_none
noncomputable def hw_heldLogDiskS_0 (y0:List ((List (Int×(Int×((List ByteArray)×(List (ByteArray×(Bool×(List Int))))))))×Int)) (y1:Int) (y2:Int):List (Pl×LV) := [(.T 0,.t (.val false [.sl .any 24 (.pair (.sl 71 (.pair (.int .i64) (.pair (.int .i64) (.pair (.sl 9 .str) (.sl 78 (.pair .str (.pair .bool (.sl 3 (.int .i64))))))))) (.int .i64)) y0])),(.T 1,.t (.val false [.int .i64 y1])),(.T 5,.t (.val false [.int .i64 y2]))]
noncomputable def g_Sw_heldLogDiskS_0 (y0:List ((List (Int×(Int×((List ByteArray)×(List (ByteArray×(Bool×(List Int))))))))×Int)):(Int×Int) → RT (Int×Int) ((Int×Int) ⊕ (Int))
 | (y1,y2) => .br (true) (.br (decide (y2 < (↑(List.length y0):Int))) (.br (decide ((0:Int) ≤ y2 ∧ y2 < (↑(List.length y0):Int))) (.br (g_Aw_heldLogNoteS (at_ (Ty.pair (Ty.sl (nat_lit 71) (Ty.pair (Ty.int IntKind.i64) (Ty.pair (Ty.int IntKind.i64) (Ty.pair (Ty.sl (nat_lit 9) Ty.str) (Ty.sl (nat_lit 78) (Ty.pair Ty.str (Ty.pair Ty.bool (Ty.sl (nat_lit 3) (Ty.int IntKind.i64))))))))) (Ty.int IntKind.i64)) y0 (Int.toNat y2)).1 y1) (.br (true) (.br (decide (g_Vw_heldLogNoteS_0 (at_ (Ty.pair (Ty.sl (nat_lit 71) (Ty.pair (Ty.int IntKind.i64) (Ty.pair (Ty.int IntKind.i64) (Ty.pair (Ty.sl (nat_lit 9) Ty.str) (Ty.sl (nat_lit 78) (Ty.pair Ty.str (Ty.pair Ty.bool (Ty.sl (nat_lit 3) (Ty.int IntKind.i64))))))))) (Ty.int IntKind.i64)) y0 (Int.toNat y2)).1 y1 < (0:Int))) (.out (.inl ((g_Vw_heldLogNoteS_0 (at_ (Ty.pair (Ty.sl (nat_lit 71) (Ty.pair (Ty.int IntKind.i64) (Ty.pair (Ty.int IntKind.i64) (Ty.pair (Ty.sl (nat_lit 9) Ty.str) (Ty.sl (nat_lit 78) (Ty.pair Ty.str (Ty.pair Ty.bool (Ty.sl (nat_lit 3) (Ty.int IntKind.i64))))))))) (Ty.int IntKind.i64)) y0 (Int.toNat y2)).1 y1,(-1:Int))))) (.br (decide ((0:Int) ≤ y2 ∧ y2 < (↑(List.length y0):Int))) (.br (true) (.br ((at_ (Ty.pair (Ty.sl (nat_lit 71) (Ty.pair (Ty.int IntKind.i64) (Ty.pair (Ty.int IntKind.i64) (Ty.pair (Ty.sl (nat_lit 9) Ty.str) (Ty.sl (nat_lit 78) (Ty.pair Ty.str (Ty.pair Ty.bool (Ty.sl (nat_lit 3) (Ty.int IntKind.i64))))))))) (Ty.int IntKind.i64)) y0 (Int.toNat y2)).2 != g_Vw_heldLogNoteS_0 (at_ (Ty.pair (Ty.sl (nat_lit 71) (Ty.pair (Ty.int IntKind.i64) (Ty.pair (Ty.int IntKind.i64) (Ty.pair (Ty.sl (nat_lit 9) Ty.str) (Ty.sl (nat_lit 78) (Ty.pair Ty.str (Ty.pair Ty.bool (Ty.sl (nat_lit 3) (Ty.int IntKind.i64))))))))) (Ty.int IntKind.i64)) y0 (Int.toNat y2)).1 y1) (.out (.inl ((g_Vw_heldLogNoteS_0 (at_ (Ty.pair (Ty.sl (nat_lit 71) (Ty.pair (Ty.int IntKind.i64) (Ty.pair (Ty.int IntKind.i64) (Ty.pair (Ty.sl (nat_lit 9) Ty.str) (Ty.sl (nat_lit 78) (Ty.pair Ty.str (Ty.pair Ty.bool (Ty.sl (nat_lit 3) (Ty.int IntKind.i64))))))))) (Ty.int IntKind.i64)) y0 (Int.toNat y2)).1 y1,(-1:Int))))) (.br (true) (.br (true) (.go ((IntKind.wrap IntKind.i64 (g_Vw_heldLogNoteS_0 (at_ (Ty.pair (Ty.sl (nat_lit 71) (Ty.pair (Ty.int IntKind.i64) (Ty.pair (Ty.int IntKind.i64) (Ty.pair (Ty.sl (nat_lit 9) Ty.str) (Ty.sl (nat_lit 78) (Ty.pair Ty.str (Ty.pair Ty.bool (Ty.sl (nat_lit 3) (Ty.int IntKind.i64))))))))) (Ty.int IntKind.i64)) y0 (Int.toNat y2)).1 y1 + (1:Int)),IntKind.wrap IntKind.i64 (y2 + (1:Int))))) .bad) .bad)) .bad) .bad)) .bad) .bad) .bad) (.out (.inr (y1)))) .bad
noncomputable def g_Lw_heldLogDiskS_0 (y0:List ((List (Int×(Int×((List ByteArray)×(List (ByteArray×(Bool×(List Int))))))))×Int)) (x:Int×Int):Option ((Int×Int) ⊕ (Int)) := loopO (g_Sw_heldLogDiskS_0 y0) x
noncomputable def xw_heldLogDiskS_0 (y0:List ((List (Int×(Int×((List ByteArray)×(List (ByteArray×(Bool×(List Int))))))))×Int)):((Int×Int) ⊕ (Int)) → Ex×List (Pl×LV) := fun
 | .inl r => (.ret,[(.T 1,.t (.val false [.int .i64 r.1])),(.T 4,.t (.val false [.int .i64 r.2]))])
 | .inr (r) => (.exit 0,[(.T 1,.t (.val false [.int .i64 r])),(.T 4,.t (.val false [.undef]))])
noncomputable def Ow_heldLogDiskS_1:Orc := fun b h => match b,h with
 | 0,[(.T 0,.t (.val false [.sl .any 24 (.pair (.sl 71 (.pair (.int .i64) (.pair (.int .i64) (.pair (.sl 9 .str) (.sl 78 (.pair .str (.pair .bool (.sl 3 (.int .i64))))))))) (.int .i64)) y0])),(.T 1,.t (.val false [.int .i64 y1])),(.T 5,.t (.val false [.int .i64 y2]))] => some (okO (g_Lw_heldLogDiskS_0 y0 (y1,y2)),(.br (isL (valO (g_Lw_heldLogDiskS_0 y0 (y1,y2)))) (.leaf .ret [(.T 1,.t (.val false [.int .i64 (getL (valO (g_Lw_heldLogDiskS_0 y0 (y1,y2)))).1])),(.T 4,.t (.val false [.int .i64 (getL (valO (g_Lw_heldLogDiskS_0 y0 (y1,y2)))).2]))]) (.leaf (.exit 0) [(.T 1,.t (.val false [.int .i64 (getR (valO (g_Lw_heldLogDiskS_0 y0 (y1,y2))))])),(.T 4,.t (.val false [.undef]))])))
 | b,h => Ow_heldLogDiskS_0 b h
theorem bw_heldLogDiskS_0 (y0:List ((List (Int×(Int×((List ByteArray)×(List (ByteArray×(Bool×(List Int))))))))×Int)) (y1:Int) (y2:Int):Tr.bt Ew_heldLogDiskS Ow_heldLogDiskS_0 (exec Ew_heldLogDiskS 0 cw_heldLogDiskS_0 (St.of (hw_heldLogDiskS_0 y0 y1 y2)) (leafRd Ew_heldLogDiskS 0)) = (g_Sw_heldLogDiskS_0 y0 (y1,y2)).bt (fun ((y1,y2):Int×Int) => (hw_heldLogDiskS_0 y0 y1 y2)) (xw_heldLogDiskS_0 y0) := by kernel_rfl
theorem kw_heldLogDiskS_1:OrcOk Ew_heldLogDiskS Ow_heldLogDiskS_1 lsw_heldLogDiskS 1 := orc_add kw_heldLogDiskS_0 (fun n p hp h ex h' ho => by
 obtain ⟨b,c⟩ := p
 obtain ⟨xt,h1,h2⟩ := ho
 have h1:Ow_heldLogDiskS_1 b h = some (true,xt) := h1
 unfold Ow_heldLogDiskS_1 at h1
 split at h1
 ·injection h1 with h1
  injection h1 with e1 e2
  subst e2
  have hc:c = cw_heldLogDiskS_0 := mw_heldLogDiskS_0 _ hp rfl
  subst hc
  right
  rename_i y0 y1 y2
  have key := LT_step kw_heldLogDiskS_0 hp (fun q hq => loopsAll_in _ _ _ _ hp hq) (fun ((y1,y2):Int×Int) => (hw_heldLogDiskS_0 y0 y1 y2)) (xw_heldLogDiskS_0 y0) (g_Sw_heldLogDiskS_0 y0) (fun x => by first | exact bw_heldLogDiskS_0 y0 x.1 x.2) n (x := (y1,y2)) (okO_some e1)
  have hx:∀ r,XT.sel (.br (isL r) (.leaf .ret [(.T 1,.t (.val false [.int .i64 (getL r).1])),(.T 4,.t (.val false [.int .i64 (getL r).2]))]) (.leaf (.exit 0) [(.T 1,.t (.val false [.int .i64 (getR r)])),(.T 4,.t (.val false [.undef]))])) = xw_heldLogDiskS_0 y0 r := fun r => by first | rfl | (rcases r with r | r <;> rfl) | (rcases r with r | r | r <;> rfl) | (rcases r with r | r | r | r <;> rfl)
  have h3 := (hx (valO (g_Lw_heldLogDiskS_0 y0 (y1,y2)))).symm.trans h2
  have e3 := congrArg Prod.fst h3
  have e4 := congrArg Prod.snd h3
  simp only at e3 e4
  rw [← e3,← e4]
  exact key
 ·exact .inl ⟨xt,h1,h2⟩)
noncomputable def g_Aw_heldLogDiskS (a0:List ((List (Int×(Int×((List ByteArray)×(List (ByteArray×(Bool×(List Int))))))))×Int)) (a1:Int):Bool := okO (g_Lw_heldLogDiskS_0 a0 (a1,(0:Int)))
noncomputable def g_Vw_heldLogDiskS_0 (a0:List ((List (Int×(Int×((List ByteArray)×(List (ByteArray×(Bool×(List Int))))))))×Int)) (a1:Int):Int := bif isL (valO (g_Lw_heldLogDiskS_0 a0 (a1,(0:Int)))) then (getL (valO (g_Lw_heldLogDiskS_0 a0 (a1,(0:Int))))).2 else getR (valO (g_Lw_heldLogDiskS_0 a0 (a1,(0:Int))))
noncomputable def Fw_heldLogDiskS:FSem := fun ys => match ys with
 | [.val false [.sl .any 24 (.pair (.sl 71 (.pair (.int .i64) (.pair (.int .i64) (.pair (.sl 9 .str) (.sl 78 (.pair .str (.pair .bool (.sl 3 (.int .i64))))))))) (.int .i64)) a0],.val false [.int .i64 a1]] => some ((g_Aw_heldLogDiskS a0 a1),.val false [.int .i64 (g_Vw_heldLogDiskS_0 a0 a1)],[])
 | _ => none
theorem vw_heldLogDiskS (a0:List ((List (Int×(Int×((List ByteArray)×(List (ByteArray×(Bool×(List Int))))))))×Int)) (a1:Int):collapseH .std Ew_heldLogDiskS Ow_heldLogDiskS_1 (execFn Ew_heldLogDiskS Try.f20 msw_heldLogDiskS [.val false [.sl .any 24 (.pair (.sl 71 (.pair (.int .i64) (.pair (.int .i64) (.pair (.sl 9 .str) (.sl 78 (.pair .str (.pair .bool (.sl 3 (.int .i64))))))))) (.int .i64)) a0],.val false [.int .i64 a1]]) = some ((g_Aw_heldLogDiskS a0 a1),.val false [.int .i64 (g_Vw_heldLogDiskS_0 a0 a1)],[]) := by kernel_rfl
theorem sw_heldLogDiskS:Sound Try.prog 20 msw_heldLogDiskS Fw_heldLogDiskS := by
 refine fn_gen goodw_heldLogDiskS (by kernel_rfl) .std (fn := Try.f20) (c := (Try.f20.body.getD .skip)) (o := Ow_heldLogDiskS_1) (k := 1) (by kernel_rfl) (by kernel_rfl) (by kernel_rfl) (by kernel_rfl) (by decide) kw_heldLogDiskS_1 ?_
 intro ys r outs h
 unfold Fw_heldLogDiskS at h
 split at h
 ·exact (vw_heldLogDiskS _ _).trans h
 ·cases h
noncomputable def Ew_heldMsgMsgS:Env where
 tt := mkTI Try.prog
 fn := fun _ => none
 bxf := fun _ => none
 mv := []
 keep := fun b => match b with
  | 0 => [(0,false),(1,false),(5,false)]
  | _ => []
 keepB := fun b => match b with
  | 0 => []
  | _ => []
 keepX := fun b => match b with
  | 0 => [(1,false),(4,false)]
  | _ => []
 keepXB := fun b => match b with
  | 0 => []
  | _ => []
theorem goodFw_heldMsgMsgS:∀ f ms F,Ew_heldMsgMsgS.fn f = some (ms,F) → Sound Try.prog f ms F := fun f ms F h => by cases h
theorem goodBw_heldMsgMsgS:∀ f ms F,Ew_heldMsgMsgS.bxf f = some (ms,F) → SoundB Try.prog f ms F := fun f ms F h => by cases h
theorem goodw_heldMsgMsgS:Good Try.prog Ew_heldMsgMsgS := ⟨rfl,goodFw_heldMsgMsgS,goodBw_heldMsgMsgS⟩
noncomputable def Ow_heldMsgMsgS_0:Orc := fun _ _ => none
noncomputable def msw_heldMsgMsgS:List PM := [.rd,.own]
noncomputable def lsw_heldMsgMsgS:List (Nat×Code) := loopsAll 0 (Try.f21.body.getD .skip)
noncomputable def cw_heldMsgMsgS_0:Code := (loopOf 0 (Try.f21.body.getD .skip)).getD .skip
theorem lseqw_heldMsgMsgS:lsw_heldMsgMsgS = [(0,cw_heldMsgMsgS_0)] := by kernel_rfl
theorem mw_heldMsgMsgS_0:∀ p,p ∈ lsw_heldMsgMsgS → p.1 = 0 → p.2 = cw_heldMsgMsgS_0 := by
 intro p hp
 rw [lseqw_heldMsgMsgS] at hp
 simp only [List.mem_cons,List.not_mem_nil,or_false] at hp
 subst hp; simp
theorem kw_heldMsgMsgS_0:OrcOk Ew_heldMsgMsgS Ow_heldMsgMsgS_0 lsw_heldMsgMsgS 0 := orcOk_none
noncomputable def hw_heldMsgMsgS_0 (y0:List (Int×(Int×(Int×(Int×(Int×(Int×(Int×(Int×(Int×(Int×Int))))))))))) (y1:Int) (y2:Int):List (Pl×LV) := [(.T 0,.t (.val false [.sl .any 54 (.pair (.int .i64) (.pair (.int .i64) (.pair (.int .i64) (.pair (.int .i64) (.pair (.int .i64) (.pair (.int .i64) (.pair (.int .i64) (.pair (.int .i64) (.pair (.int .i64) (.pair (.int .i64) (.int .i64))))))))))) y0])),(.T 1,.t (.val false [.int .i64 y1])),(.T 5,.t (.val false [.int .i64 y2]))]
noncomputable def g_Sw_heldMsgMsgS_0 (y0:List (Int×(Int×(Int×(Int×(Int×(Int×(Int×(Int×(Int×(Int×Int))))))))))):(Int×Int) → RT (Int×Int) ((Int×Int) ⊕ (Int))
 | (y1,y2) => .br (true) (.br (decide (y2 < (↑(List.length y0):Int))) (.br (decide ((0:Int) ≤ y2 ∧ y2 < (↑(List.length y0):Int))) (.br (true) (.br ((at_ (Ty.pair (Ty.int IntKind.i64) (Ty.pair (Ty.int IntKind.i64) (Ty.pair (Ty.int IntKind.i64) (Ty.pair (Ty.int IntKind.i64) (Ty.pair (Ty.int IntKind.i64) (Ty.pair (Ty.int IntKind.i64) (Ty.pair (Ty.int IntKind.i64) (Ty.pair (Ty.int IntKind.i64) (Ty.pair (Ty.int IntKind.i64) (Ty.pair (Ty.int IntKind.i64) (Ty.int IntKind.i64))))))))))) y0 (Int.toNat y2)).1 != y1) (.out (.inl ((y1,(-1:Int))))) (.br (true) (.br (decide ((0:Int) ≤ y2 ∧ y2 < (↑(List.length y0):Int))) (.br (true) (.br ((at_ (Ty.pair (Ty.int IntKind.i64) (Ty.pair (Ty.int IntKind.i64) (Ty.pair (Ty.int IntKind.i64) (Ty.pair (Ty.int IntKind.i64) (Ty.pair (Ty.int IntKind.i64) (Ty.pair (Ty.int IntKind.i64) (Ty.pair (Ty.int IntKind.i64) (Ty.pair (Ty.int IntKind.i64) (Ty.pair (Ty.int IntKind.i64) (Ty.pair (Ty.int IntKind.i64) (Ty.int IntKind.i64))))))))))) y0 (Int.toNat y2)).2.1 != IntKind.wrap IntKind.i64 (y1 + (1:Int))) (.out (.inl ((IntKind.wrap IntKind.i64 (y1 + (1:Int)),(-1:Int))))) (.br (true) (.br (decide ((0:Int) ≤ y2 ∧ y2 < (↑(List.length y0):Int))) (.br (true) (.br ((at_ (Ty.pair (Ty.int IntKind.i64) (Ty.pair (Ty.int IntKind.i64) (Ty.pair (Ty.int IntKind.i64) (Ty.pair (Ty.int IntKind.i64) (Ty.pair (Ty.int IntKind.i64) (Ty.pair (Ty.int IntKind.i64) (Ty.pair (Ty.int IntKind.i64) (Ty.pair (Ty.int IntKind.i64) (Ty.pair (Ty.int IntKind.i64) (Ty.pair (Ty.int IntKind.i64) (Ty.int IntKind.i64))))))))))) y0 (Int.toNat y2)).2.2.1 != IntKind.wrap IntKind.i64 (IntKind.wrap IntKind.i64 (y1 + (1:Int)) + (1:Int))) (.out (.inl ((IntKind.wrap IntKind.i64 (IntKind.wrap IntKind.i64 (y1 + (1:Int)) + (1:Int)),(-1:Int))))) (.br (true) (.br (decide ((0:Int) ≤ y2 ∧ y2 < (↑(List.length y0):Int))) (.br (true) (.br ((at_ (Ty.pair (Ty.int IntKind.i64) (Ty.pair (Ty.int IntKind.i64) (Ty.pair (Ty.int IntKind.i64) (Ty.pair (Ty.int IntKind.i64) (Ty.pair (Ty.int IntKind.i64) (Ty.pair (Ty.int IntKind.i64) (Ty.pair (Ty.int IntKind.i64) (Ty.pair (Ty.int IntKind.i64) (Ty.pair (Ty.int IntKind.i64) (Ty.pair (Ty.int IntKind.i64) (Ty.int IntKind.i64))))))))))) y0 (Int.toNat y2)).2.2.2.1 != IntKind.wrap IntKind.i64 (IntKind.wrap IntKind.i64 (IntKind.wrap IntKind.i64 (y1 + (1:Int)) + (1:Int)) + (1:Int))) (.out (.inl ((IntKind.wrap IntKind.i64 (IntKind.wrap IntKind.i64 (IntKind.wrap IntKind.i64 (y1 + (1:Int)) + (1:Int)) + (1:Int)),(-1:Int))))) (.br (true) (.br (decide ((0:Int) ≤ y2 ∧ y2 < (↑(List.length y0):Int))) (.br (true) (.br ((at_ (Ty.pair (Ty.int IntKind.i64) (Ty.pair (Ty.int IntKind.i64) (Ty.pair (Ty.int IntKind.i64) (Ty.pair (Ty.int IntKind.i64) (Ty.pair (Ty.int IntKind.i64) (Ty.pair (Ty.int IntKind.i64) (Ty.pair (Ty.int IntKind.i64) (Ty.pair (Ty.int IntKind.i64) (Ty.pair (Ty.int IntKind.i64) (Ty.pair (Ty.int IntKind.i64) (Ty.int IntKind.i64))))))))))) y0 (Int.toNat y2)).2.2.2.2.1 != IntKind.wrap IntKind.i64 (IntKind.wrap IntKind.i64 (IntKind.wrap IntKind.i64 (IntKind.wrap IntKind.i64 (y1 + (1:Int)) + (1:Int)) + (1:Int)) + (1:Int))) (.out (.inl ((IntKind.wrap IntKind.i64 (IntKind.wrap IntKind.i64 (IntKind.wrap IntKind.i64 (IntKind.wrap IntKind.i64 (y1 + (1:Int)) + (1:Int)) + (1:Int)) + (1:Int)),(-1:Int))))) (.br (true) (.br (decide ((0:Int) ≤ y2 ∧ y2 < (↑(List.length y0):Int))) (.br (true) (.br ((at_ (Ty.pair (Ty.int IntKind.i64) (Ty.pair (Ty.int IntKind.i64) (Ty.pair (Ty.int IntKind.i64) (Ty.pair (Ty.int IntKind.i64) (Ty.pair (Ty.int IntKind.i64) (Ty.pair (Ty.int IntKind.i64) (Ty.pair (Ty.int IntKind.i64) (Ty.pair (Ty.int IntKind.i64) (Ty.pair (Ty.int IntKind.i64) (Ty.pair (Ty.int IntKind.i64) (Ty.int IntKind.i64))))))))))) y0 (Int.toNat y2)).2.2.2.2.2.1 != IntKind.wrap IntKind.i64 (IntKind.wrap IntKind.i64 (IntKind.wrap IntKind.i64 (IntKind.wrap IntKind.i64 (IntKind.wrap IntKind.i64 (y1 + (1:Int)) + (1:Int)) + (1:Int)) + (1:Int)) + (1:Int))) (.out (.inl ((IntKind.wrap IntKind.i64 (IntKind.wrap IntKind.i64 (IntKind.wrap IntKind.i64 (IntKind.wrap IntKind.i64 (IntKind.wrap IntKind.i64 (y1 + (1:Int)) + (1:Int)) + (1:Int)) + (1:Int)) + (1:Int)),(-1:Int))))) (.br (true) (.br (decide ((0:Int) ≤ y2 ∧ y2 < (↑(List.length y0):Int))) (.br (true) (.br ((at_ (Ty.pair (Ty.int IntKind.i64) (Ty.pair (Ty.int IntKind.i64) (Ty.pair (Ty.int IntKind.i64) (Ty.pair (Ty.int IntKind.i64) (Ty.pair (Ty.int IntKind.i64) (Ty.pair (Ty.int IntKind.i64) (Ty.pair (Ty.int IntKind.i64) (Ty.pair (Ty.int IntKind.i64) (Ty.pair (Ty.int IntKind.i64) (Ty.pair (Ty.int IntKind.i64) (Ty.int IntKind.i64))))))))))) y0 (Int.toNat y2)).2.2.2.2.2.2.1 != IntKind.wrap IntKind.i64 (IntKind.wrap IntKind.i64 (IntKind.wrap IntKind.i64 (IntKind.wrap IntKind.i64 (IntKind.wrap IntKind.i64 (IntKind.wrap IntKind.i64 (y1 + (1:Int)) + (1:Int)) + (1:Int)) + (1:Int)) + (1:Int)) + (1:Int))) (.out (.inl ((IntKind.wrap IntKind.i64 (IntKind.wrap IntKind.i64 (IntKind.wrap IntKind.i64 (IntKind.wrap IntKind.i64 (IntKind.wrap IntKind.i64 (IntKind.wrap IntKind.i64 (y1 + (1:Int)) + (1:Int)) + (1:Int)) + (1:Int)) + (1:Int)) + (1:Int)),(-1:Int))))) (.br (true) (.br (decide ((0:Int) ≤ y2 ∧ y2 < (↑(List.length y0):Int))) (.br (true) (.br ((at_ (Ty.pair (Ty.int IntKind.i64) (Ty.pair (Ty.int IntKind.i64) (Ty.pair (Ty.int IntKind.i64) (Ty.pair (Ty.int IntKind.i64) (Ty.pair (Ty.int IntKind.i64) (Ty.pair (Ty.int IntKind.i64) (Ty.pair (Ty.int IntKind.i64) (Ty.pair (Ty.int IntKind.i64) (Ty.pair (Ty.int IntKind.i64) (Ty.pair (Ty.int IntKind.i64) (Ty.int IntKind.i64))))))))))) y0 (Int.toNat y2)).2.2.2.2.2.2.2.1 != IntKind.wrap IntKind.i64 (IntKind.wrap IntKind.i64 (IntKind.wrap IntKind.i64 (IntKind.wrap IntKind.i64 (IntKind.wrap IntKind.i64 (IntKind.wrap IntKind.i64 (IntKind.wrap IntKind.i64 (y1 + (1:Int)) + (1:Int)) + (1:Int)) + (1:Int)) + (1:Int)) + (1:Int)) + (1:Int))) (.out (.inl ((IntKind.wrap IntKind.i64 (IntKind.wrap IntKind.i64 (IntKind.wrap IntKind.i64 (IntKind.wrap IntKind.i64 (IntKind.wrap IntKind.i64 (IntKind.wrap IntKind.i64 (IntKind.wrap IntKind.i64 (y1 + (1:Int)) + (1:Int)) + (1:Int)) + (1:Int)) + (1:Int)) + (1:Int)) + (1:Int)),(-1:Int))))) (.br (true) (.br (decide ((0:Int) ≤ y2 ∧ y2 < (↑(List.length y0):Int))) (.br (true) (.br ((at_ (Ty.pair (Ty.int IntKind.i64) (Ty.pair (Ty.int IntKind.i64) (Ty.pair (Ty.int IntKind.i64) (Ty.pair (Ty.int IntKind.i64) (Ty.pair (Ty.int IntKind.i64) (Ty.pair (Ty.int IntKind.i64) (Ty.pair (Ty.int IntKind.i64) (Ty.pair (Ty.int IntKind.i64) (Ty.pair (Ty.int IntKind.i64) (Ty.pair (Ty.int IntKind.i64) (Ty.int IntKind.i64))))))))))) y0 (Int.toNat y2)).2.2.2.2.2.2.2.2.1 != IntKind.wrap IntKind.i64 (IntKind.wrap IntKind.i64 (IntKind.wrap IntKind.i64 (IntKind.wrap IntKind.i64 (IntKind.wrap IntKind.i64 (IntKind.wrap IntKind.i64 (IntKind.wrap IntKind.i64 (IntKind.wrap IntKind.i64 (y1 + (1:Int)) + (1:Int)) + (1:Int)) + (1:Int)) + (1:Int)) + (1:Int)) + (1:Int)) + (1:Int))) (.out (.inl ((IntKind.wrap IntKind.i64 (IntKind.wrap IntKind.i64 (IntKind.wrap IntKind.i64 (IntKind.wrap IntKind.i64 (IntKind.wrap IntKind.i64 (IntKind.wrap IntKind.i64 (IntKind.wrap IntKind.i64 (IntKind.wrap IntKind.i64 (y1 + (1:Int)) + (1:Int)) + (1:Int)) + (1:Int)) + (1:Int)) + (1:Int)) + (1:Int)) + (1:Int)),(-1:Int))))) (.br (true) (.br (decide ((0:Int) ≤ y2 ∧ y2 < (↑(List.length y0):Int))) (.br (true) (.br ((at_ (Ty.pair (Ty.int IntKind.i64) (Ty.pair (Ty.int IntKind.i64) (Ty.pair (Ty.int IntKind.i64) (Ty.pair (Ty.int IntKind.i64) (Ty.pair (Ty.int IntKind.i64) (Ty.pair (Ty.int IntKind.i64) (Ty.pair (Ty.int IntKind.i64) (Ty.pair (Ty.int IntKind.i64) (Ty.pair (Ty.int IntKind.i64) (Ty.pair (Ty.int IntKind.i64) (Ty.int IntKind.i64))))))))))) y0 (Int.toNat y2)).2.2.2.2.2.2.2.2.2.1 != IntKind.wrap IntKind.i64 (IntKind.wrap IntKind.i64 (IntKind.wrap IntKind.i64 (IntKind.wrap IntKind.i64 (IntKind.wrap IntKind.i64 (IntKind.wrap IntKind.i64 (IntKind.wrap IntKind.i64 (IntKind.wrap IntKind.i64 (IntKind.wrap IntKind.i64 (y1 + (1:Int)) + (1:Int)) + (1:Int)) + (1:Int)) + (1:Int)) + (1:Int)) + (1:Int)) + (1:Int)) + (1:Int))) (.out (.inl ((IntKind.wrap IntKind.i64 (IntKind.wrap IntKind.i64 (IntKind.wrap IntKind.i64 (IntKind.wrap IntKind.i64 (IntKind.wrap IntKind.i64 (IntKind.wrap IntKind.i64 (IntKind.wrap IntKind.i64 (IntKind.wrap IntKind.i64 (IntKind.wrap IntKind.i64 (y1 + (1:Int)) + (1:Int)) + (1:Int)) + (1:Int)) + (1:Int)) + (1:Int)) + (1:Int)) + (1:Int)) + (1:Int)),(-1:Int))))) (.br (true) (.br (decide ((0:Int) ≤ y2 ∧ y2 < (↑(List.length y0):Int))) (.br (true) (.br ((at_ (Ty.pair (Ty.int IntKind.i64) (Ty.pair (Ty.int IntKind.i64) (Ty.pair (Ty.int IntKind.i64) (Ty.pair (Ty.int IntKind.i64) (Ty.pair (Ty.int IntKind.i64) (Ty.pair (Ty.int IntKind.i64) (Ty.pair (Ty.int IntKind.i64) (Ty.pair (Ty.int IntKind.i64) (Ty.pair (Ty.int IntKind.i64) (Ty.pair (Ty.int IntKind.i64) (Ty.int IntKind.i64))))))))))) y0 (Int.toNat y2)).2.2.2.2.2.2.2.2.2.2 != IntKind.wrap IntKind.i64 (IntKind.wrap IntKind.i64 (IntKind.wrap IntKind.i64 (IntKind.wrap IntKind.i64 (IntKind.wrap IntKind.i64 (IntKind.wrap IntKind.i64 (IntKind.wrap IntKind.i64 (IntKind.wrap IntKind.i64 (IntKind.wrap IntKind.i64 (IntKind.wrap IntKind.i64 (y1 + (1:Int)) + (1:Int)) + (1:Int)) + (1:Int)) + (1:Int)) + (1:Int)) + (1:Int)) + (1:Int)) + (1:Int)) + (1:Int))) (.out (.inl ((IntKind.wrap IntKind.i64 (IntKind.wrap IntKind.i64 (IntKind.wrap IntKind.i64 (IntKind.wrap IntKind.i64 (IntKind.wrap IntKind.i64 (IntKind.wrap IntKind.i64 (IntKind.wrap IntKind.i64 (IntKind.wrap IntKind.i64 (IntKind.wrap IntKind.i64 (IntKind.wrap IntKind.i64 (y1 + (1:Int)) + (1:Int)) + (1:Int)) + (1:Int)) + (1:Int)) + (1:Int)) + (1:Int)) + (1:Int)) + (1:Int)) + (1:Int)),(-1:Int))))) (.br (true) (.br (true) (.go ((IntKind.wrap IntKind.i64 (IntKind.wrap IntKind.i64 (IntKind.wrap IntKind.i64 (IntKind.wrap IntKind.i64 (IntKind.wrap IntKind.i64 (IntKind.wrap IntKind.i64 (IntKind.wrap IntKind.i64 (IntKind.wrap IntKind.i64 (IntKind.wrap IntKind.i64 (IntKind.wrap IntKind.i64 (IntKind.wrap IntKind.i64 (y1 + (1:Int)) + (1:Int)) + (1:Int)) + (1:Int)) + (1:Int)) + (1:Int)) + (1:Int)) + (1:Int)) + (1:Int)) + (1:Int)) + (1:Int)),IntKind.wrap IntKind.i64 (y2 + (1:Int))))) .bad) .bad)) .bad) .bad) .bad)) .bad) .bad) .bad)) .bad) .bad) .bad)) .bad) .bad) .bad)) .bad) .bad) .bad)) .bad) .bad) .bad)) .bad) .bad) .bad)) .bad) .bad) .bad)) .bad) .bad) .bad)) .bad) .bad) .bad)) .bad) .bad) (.out (.inr (y1)))) .bad
noncomputable def g_Lw_heldMsgMsgS_0 (y0:List (Int×(Int×(Int×(Int×(Int×(Int×(Int×(Int×(Int×(Int×Int))))))))))) (x:Int×Int):Option ((Int×Int) ⊕ (Int)) := loopO (g_Sw_heldMsgMsgS_0 y0) x
noncomputable def xw_heldMsgMsgS_0 (y0:List (Int×(Int×(Int×(Int×(Int×(Int×(Int×(Int×(Int×(Int×Int))))))))))):((Int×Int) ⊕ (Int)) → Ex×List (Pl×LV) := fun
 | .inl r => (.ret,[(.T 1,.t (.val false [.int .i64 r.1])),(.T 4,.t (.val false [.int .i64 r.2]))])
 | .inr (r) => (.exit 0,[(.T 1,.t (.val false [.int .i64 r])),(.T 4,.t (.val false [.undef]))])
noncomputable def Ow_heldMsgMsgS_1:Orc := fun b h => match b,h with
 | 0,[(.T 0,.t (.val false [.sl .any 54 (.pair (.int .i64) (.pair (.int .i64) (.pair (.int .i64) (.pair (.int .i64) (.pair (.int .i64) (.pair (.int .i64) (.pair (.int .i64) (.pair (.int .i64) (.pair (.int .i64) (.pair (.int .i64) (.int .i64))))))))))) y0])),(.T 1,.t (.val false [.int .i64 y1])),(.T 5,.t (.val false [.int .i64 y2]))] => some (okO (g_Lw_heldMsgMsgS_0 y0 (y1,y2)),(.br (isL (valO (g_Lw_heldMsgMsgS_0 y0 (y1,y2)))) (.leaf .ret [(.T 1,.t (.val false [.int .i64 (getL (valO (g_Lw_heldMsgMsgS_0 y0 (y1,y2)))).1])),(.T 4,.t (.val false [.int .i64 (getL (valO (g_Lw_heldMsgMsgS_0 y0 (y1,y2)))).2]))]) (.leaf (.exit 0) [(.T 1,.t (.val false [.int .i64 (getR (valO (g_Lw_heldMsgMsgS_0 y0 (y1,y2))))])),(.T 4,.t (.val false [.undef]))])))
 | b,h => Ow_heldMsgMsgS_0 b h
theorem bw_heldMsgMsgS_0 (y0:List (Int×(Int×(Int×(Int×(Int×(Int×(Int×(Int×(Int×(Int×Int))))))))))) (y1:Int) (y2:Int):Tr.bt Ew_heldMsgMsgS Ow_heldMsgMsgS_0 (exec Ew_heldMsgMsgS 0 cw_heldMsgMsgS_0 (St.of (hw_heldMsgMsgS_0 y0 y1 y2)) (leafRd Ew_heldMsgMsgS 0)) = (g_Sw_heldMsgMsgS_0 y0 (y1,y2)).bt (fun ((y1,y2):Int×Int) => (hw_heldMsgMsgS_0 y0 y1 y2)) (xw_heldMsgMsgS_0 y0) := by kernel_rfl
theorem kw_heldMsgMsgS_1:OrcOk Ew_heldMsgMsgS Ow_heldMsgMsgS_1 lsw_heldMsgMsgS 1 := orc_add kw_heldMsgMsgS_0 (fun n p hp h ex h' ho => by
 obtain ⟨b,c⟩ := p
 obtain ⟨xt,h1,h2⟩ := ho
 have h1:Ow_heldMsgMsgS_1 b h = some (true,xt) := h1
 unfold Ow_heldMsgMsgS_1 at h1
 split at h1
 ·injection h1 with h1
  injection h1 with e1 e2
  subst e2
  have hc:c = cw_heldMsgMsgS_0 := mw_heldMsgMsgS_0 _ hp rfl
  subst hc
  right
  rename_i y0 y1 y2
  have key := LT_step kw_heldMsgMsgS_0 hp (fun q hq => loopsAll_in _ _ _ _ hp hq) (fun ((y1,y2):Int×Int) => (hw_heldMsgMsgS_0 y0 y1 y2)) (xw_heldMsgMsgS_0 y0) (g_Sw_heldMsgMsgS_0 y0) (fun x => by first | exact bw_heldMsgMsgS_0 y0 x.1 x.2) n (x := (y1,y2)) (okO_some e1)
  have hx:∀ r,XT.sel (.br (isL r) (.leaf .ret [(.T 1,.t (.val false [.int .i64 (getL r).1])),(.T 4,.t (.val false [.int .i64 (getL r).2]))]) (.leaf (.exit 0) [(.T 1,.t (.val false [.int .i64 (getR r)])),(.T 4,.t (.val false [.undef]))])) = xw_heldMsgMsgS_0 y0 r := fun r => by first | rfl | (rcases r with r | r <;> rfl) | (rcases r with r | r | r <;> rfl) | (rcases r with r | r | r | r <;> rfl)
  have h3 := (hx (valO (g_Lw_heldMsgMsgS_0 y0 (y1,y2)))).symm.trans h2
  have e3 := congrArg Prod.fst h3
  have e4 := congrArg Prod.snd h3
  simp only at e3 e4
  rw [← e3,← e4]
  exact key
 ·exact .inl ⟨xt,h1,h2⟩)
noncomputable def g_Aw_heldMsgMsgS (a0:List (Int×(Int×(Int×(Int×(Int×(Int×(Int×(Int×(Int×(Int×Int))))))))))) (a1:Int):Bool := okO (g_Lw_heldMsgMsgS_0 a0 (a1,(0:Int)))
noncomputable def g_Vw_heldMsgMsgS_0 (a0:List (Int×(Int×(Int×(Int×(Int×(Int×(Int×(Int×(Int×(Int×Int))))))))))) (a1:Int):Int := bif isL (valO (g_Lw_heldMsgMsgS_0 a0 (a1,(0:Int)))) then (getL (valO (g_Lw_heldMsgMsgS_0 a0 (a1,(0:Int))))).2 else getR (valO (g_Lw_heldMsgMsgS_0 a0 (a1,(0:Int))))
noncomputable def Fw_heldMsgMsgS:FSem := fun ys => match ys with
 | [.val false [.sl .any 54 (.pair (.int .i64) (.pair (.int .i64) (.pair (.int .i64) (.pair (.int .i64) (.pair (.int .i64) (.pair (.int .i64) (.pair (.int .i64) (.pair (.int .i64) (.pair (.int .i64) (.pair (.int .i64) (.int .i64))))))))))) a0],.val false [.int .i64 a1]] => some ((g_Aw_heldMsgMsgS a0 a1),.val false [.int .i64 (g_Vw_heldMsgMsgS_0 a0 a1)],[])
 | _ => none
theorem vw_heldMsgMsgS (a0:List (Int×(Int×(Int×(Int×(Int×(Int×(Int×(Int×(Int×(Int×Int))))))))))) (a1:Int):collapseH .std Ew_heldMsgMsgS Ow_heldMsgMsgS_1 (execFn Ew_heldMsgMsgS Try.f21 msw_heldMsgMsgS [.val false [.sl .any 54 (.pair (.int .i64) (.pair (.int .i64) (.pair (.int .i64) (.pair (.int .i64) (.pair (.int .i64) (.pair (.int .i64) (.pair (.int .i64) (.pair (.int .i64) (.pair (.int .i64) (.pair (.int .i64) (.int .i64))))))))))) a0],.val false [.int .i64 a1]]) = some ((g_Aw_heldMsgMsgS a0 a1),.val false [.int .i64 (g_Vw_heldMsgMsgS_0 a0 a1)],[]) := by kernel_rfl
theorem sw_heldMsgMsgS:Sound Try.prog 21 msw_heldMsgMsgS Fw_heldMsgMsgS := by
 refine fn_gen goodw_heldMsgMsgS (by kernel_rfl) .std (fn := Try.f21) (c := (Try.f21.body.getD .skip)) (o := Ow_heldMsgMsgS_1) (k := 1) (by kernel_rfl) (by kernel_rfl) (by kernel_rfl) (by kernel_rfl) (by decide) kw_heldMsgMsgS_1 ?_
 intro ys r outs h
 unfold Fw_heldMsgMsgS at h
 split at h
 ·exact (vw_heldMsgMsgS _ _).trans h
 ·cases h
noncomputable def Ew_heldOpOpS:Env where
 tt := mkTI Try.prog
 fn := fun _ => none
 bxf := fun _ => none
 mv := []
 keep := fun b => match b with
  | 0 => [(0,false),(1,false),(5,false)]
  | _ => []
 keepB := fun b => match b with
  | 0 => []
  | _ => []
 keepX := fun b => match b with
  | 0 => [(1,false),(4,false)]
  | _ => []
 keepXB := fun b => match b with
  | 0 => []
  | _ => []
theorem goodFw_heldOpOpS:∀ f ms F,Ew_heldOpOpS.fn f = some (ms,F) → Sound Try.prog f ms F := fun f ms F h => by cases h
theorem goodBw_heldOpOpS:∀ f ms F,Ew_heldOpOpS.bxf f = some (ms,F) → SoundB Try.prog f ms F := fun f ms F h => by cases h
theorem goodw_heldOpOpS:Good Try.prog Ew_heldOpOpS := ⟨rfl,goodFw_heldOpOpS,goodBw_heldOpOpS⟩
noncomputable def Ow_heldOpOpS_0:Orc := fun _ _ => none
noncomputable def msw_heldOpOpS:List PM := [.rd,.own]
noncomputable def lsw_heldOpOpS:List (Nat×Code) := loopsAll 0 (Try.f22.body.getD .skip)
noncomputable def cw_heldOpOpS_0:Code := (loopOf 0 (Try.f22.body.getD .skip)).getD .skip
theorem lseqw_heldOpOpS:lsw_heldOpOpS = [(0,cw_heldOpOpS_0)] := by kernel_rfl
theorem mw_heldOpOpS_0:∀ p,p ∈ lsw_heldOpOpS → p.1 = 0 → p.2 = cw_heldOpOpS_0 := by
 intro p hp
 rw [lseqw_heldOpOpS] at hp
 simp only [List.mem_cons,List.not_mem_nil,or_false] at hp
 subst hp; simp
theorem kw_heldOpOpS_0:OrcOk Ew_heldOpOpS Ow_heldOpOpS_0 lsw_heldOpOpS 0 := orcOk_none
noncomputable def hw_heldOpOpS_0 (y0:List (Int×(Int×(Int×(Int×(Int×(Int×Int))))))) (y1:Int) (y2:Int):List (Pl×LV) := [(.T 0,.t (.val false [.sl .any 52 (.pair (.int .i64) (.pair (.int .i64) (.pair (.int .i64) (.pair (.int .i64) (.pair (.int .i64) (.pair (.int .i64) (.int .i64))))))) y0])),(.T 1,.t (.val false [.int .i64 y1])),(.T 5,.t (.val false [.int .i64 y2]))]
noncomputable def g_Sw_heldOpOpS_0 (y0:List (Int×(Int×(Int×(Int×(Int×(Int×Int))))))):(Int×Int) → RT (Int×Int) ((Int×Int) ⊕ (Int))
 | (y1,y2) => .br (true) (.br (decide (y2 < (↑(List.length y0):Int))) (.br (decide ((0:Int) ≤ y2 ∧ y2 < (↑(List.length y0):Int))) (.br (true) (.br ((at_ (Ty.pair (Ty.int IntKind.i64) (Ty.pair (Ty.int IntKind.i64) (Ty.pair (Ty.int IntKind.i64) (Ty.pair (Ty.int IntKind.i64) (Ty.pair (Ty.int IntKind.i64) (Ty.pair (Ty.int IntKind.i64) (Ty.int IntKind.i64))))))) y0 (Int.toNat y2)).1 != y1) (.out (.inl ((y1,(-1:Int))))) (.br (true) (.br (decide ((0:Int) ≤ y2 ∧ y2 < (↑(List.length y0):Int))) (.br (true) (.br ((at_ (Ty.pair (Ty.int IntKind.i64) (Ty.pair (Ty.int IntKind.i64) (Ty.pair (Ty.int IntKind.i64) (Ty.pair (Ty.int IntKind.i64) (Ty.pair (Ty.int IntKind.i64) (Ty.pair (Ty.int IntKind.i64) (Ty.int IntKind.i64))))))) y0 (Int.toNat y2)).2.1 != IntKind.wrap IntKind.i64 (y1 + (1:Int))) (.out (.inl ((IntKind.wrap IntKind.i64 (y1 + (1:Int)),(-1:Int))))) (.br (true) (.br (decide ((0:Int) ≤ y2 ∧ y2 < (↑(List.length y0):Int))) (.br (true) (.br ((at_ (Ty.pair (Ty.int IntKind.i64) (Ty.pair (Ty.int IntKind.i64) (Ty.pair (Ty.int IntKind.i64) (Ty.pair (Ty.int IntKind.i64) (Ty.pair (Ty.int IntKind.i64) (Ty.pair (Ty.int IntKind.i64) (Ty.int IntKind.i64))))))) y0 (Int.toNat y2)).2.2.1 != IntKind.wrap IntKind.i64 (IntKind.wrap IntKind.i64 (y1 + (1:Int)) + (1:Int))) (.out (.inl ((IntKind.wrap IntKind.i64 (IntKind.wrap IntKind.i64 (y1 + (1:Int)) + (1:Int)),(-1:Int))))) (.br (true) (.br (decide ((0:Int) ≤ y2 ∧ y2 < (↑(List.length y0):Int))) (.br (true) (.br ((at_ (Ty.pair (Ty.int IntKind.i64) (Ty.pair (Ty.int IntKind.i64) (Ty.pair (Ty.int IntKind.i64) (Ty.pair (Ty.int IntKind.i64) (Ty.pair (Ty.int IntKind.i64) (Ty.pair (Ty.int IntKind.i64) (Ty.int IntKind.i64))))))) y0 (Int.toNat y2)).2.2.2.1 != IntKind.wrap IntKind.i64 (IntKind.wrap IntKind.i64 (IntKind.wrap IntKind.i64 (y1 + (1:Int)) + (1:Int)) + (1:Int))) (.out (.inl ((IntKind.wrap IntKind.i64 (IntKind.wrap IntKind.i64 (IntKind.wrap IntKind.i64 (y1 + (1:Int)) + (1:Int)) + (1:Int)),(-1:Int))))) (.br (true) (.br (decide ((0:Int) ≤ y2 ∧ y2 < (↑(List.length y0):Int))) (.br (true) (.br ((at_ (Ty.pair (Ty.int IntKind.i64) (Ty.pair (Ty.int IntKind.i64) (Ty.pair (Ty.int IntKind.i64) (Ty.pair (Ty.int IntKind.i64) (Ty.pair (Ty.int IntKind.i64) (Ty.pair (Ty.int IntKind.i64) (Ty.int IntKind.i64))))))) y0 (Int.toNat y2)).2.2.2.2.1 != IntKind.wrap IntKind.i64 (IntKind.wrap IntKind.i64 (IntKind.wrap IntKind.i64 (IntKind.wrap IntKind.i64 (y1 + (1:Int)) + (1:Int)) + (1:Int)) + (1:Int))) (.out (.inl ((IntKind.wrap IntKind.i64 (IntKind.wrap IntKind.i64 (IntKind.wrap IntKind.i64 (IntKind.wrap IntKind.i64 (y1 + (1:Int)) + (1:Int)) + (1:Int)) + (1:Int)),(-1:Int))))) (.br (true) (.br (decide ((0:Int) ≤ y2 ∧ y2 < (↑(List.length y0):Int))) (.br (true) (.br ((at_ (Ty.pair (Ty.int IntKind.i64) (Ty.pair (Ty.int IntKind.i64) (Ty.pair (Ty.int IntKind.i64) (Ty.pair (Ty.int IntKind.i64) (Ty.pair (Ty.int IntKind.i64) (Ty.pair (Ty.int IntKind.i64) (Ty.int IntKind.i64))))))) y0 (Int.toNat y2)).2.2.2.2.2.1 != IntKind.wrap IntKind.i64 (IntKind.wrap IntKind.i64 (IntKind.wrap IntKind.i64 (IntKind.wrap IntKind.i64 (IntKind.wrap IntKind.i64 (y1 + (1:Int)) + (1:Int)) + (1:Int)) + (1:Int)) + (1:Int))) (.out (.inl ((IntKind.wrap IntKind.i64 (IntKind.wrap IntKind.i64 (IntKind.wrap IntKind.i64 (IntKind.wrap IntKind.i64 (IntKind.wrap IntKind.i64 (y1 + (1:Int)) + (1:Int)) + (1:Int)) + (1:Int)) + (1:Int)),(-1:Int))))) (.br (true) (.br (decide ((0:Int) ≤ y2 ∧ y2 < (↑(List.length y0):Int))) (.br (true) (.br ((at_ (Ty.pair (Ty.int IntKind.i64) (Ty.pair (Ty.int IntKind.i64) (Ty.pair (Ty.int IntKind.i64) (Ty.pair (Ty.int IntKind.i64) (Ty.pair (Ty.int IntKind.i64) (Ty.pair (Ty.int IntKind.i64) (Ty.int IntKind.i64))))))) y0 (Int.toNat y2)).2.2.2.2.2.2 != IntKind.wrap IntKind.i64 (IntKind.wrap IntKind.i64 (IntKind.wrap IntKind.i64 (IntKind.wrap IntKind.i64 (IntKind.wrap IntKind.i64 (IntKind.wrap IntKind.i64 (y1 + (1:Int)) + (1:Int)) + (1:Int)) + (1:Int)) + (1:Int)) + (1:Int))) (.out (.inl ((IntKind.wrap IntKind.i64 (IntKind.wrap IntKind.i64 (IntKind.wrap IntKind.i64 (IntKind.wrap IntKind.i64 (IntKind.wrap IntKind.i64 (IntKind.wrap IntKind.i64 (y1 + (1:Int)) + (1:Int)) + (1:Int)) + (1:Int)) + (1:Int)) + (1:Int)),(-1:Int))))) (.br (true) (.br (true) (.go ((IntKind.wrap IntKind.i64 (IntKind.wrap IntKind.i64 (IntKind.wrap IntKind.i64 (IntKind.wrap IntKind.i64 (IntKind.wrap IntKind.i64 (IntKind.wrap IntKind.i64 (IntKind.wrap IntKind.i64 (y1 + (1:Int)) + (1:Int)) + (1:Int)) + (1:Int)) + (1:Int)) + (1:Int)) + (1:Int)),IntKind.wrap IntKind.i64 (y2 + (1:Int))))) .bad) .bad)) .bad) .bad) .bad)) .bad) .bad) .bad)) .bad) .bad) .bad)) .bad) .bad) .bad)) .bad) .bad) .bad)) .bad) .bad) .bad)) .bad) .bad) (.out (.inr (y1)))) .bad
noncomputable def g_Lw_heldOpOpS_0 (y0:List (Int×(Int×(Int×(Int×(Int×(Int×Int))))))) (x:Int×Int):Option ((Int×Int) ⊕ (Int)) := loopO (g_Sw_heldOpOpS_0 y0) x
noncomputable def xw_heldOpOpS_0 (y0:List (Int×(Int×(Int×(Int×(Int×(Int×Int))))))):((Int×Int) ⊕ (Int)) → Ex×List (Pl×LV) := fun
 | .inl r => (.ret,[(.T 1,.t (.val false [.int .i64 r.1])),(.T 4,.t (.val false [.int .i64 r.2]))])
 | .inr (r) => (.exit 0,[(.T 1,.t (.val false [.int .i64 r])),(.T 4,.t (.val false [.undef]))])
noncomputable def Ow_heldOpOpS_1:Orc := fun b h => match b,h with
 | 0,[(.T 0,.t (.val false [.sl .any 52 (.pair (.int .i64) (.pair (.int .i64) (.pair (.int .i64) (.pair (.int .i64) (.pair (.int .i64) (.pair (.int .i64) (.int .i64))))))) y0])),(.T 1,.t (.val false [.int .i64 y1])),(.T 5,.t (.val false [.int .i64 y2]))] => some (okO (g_Lw_heldOpOpS_0 y0 (y1,y2)),(.br (isL (valO (g_Lw_heldOpOpS_0 y0 (y1,y2)))) (.leaf .ret [(.T 1,.t (.val false [.int .i64 (getL (valO (g_Lw_heldOpOpS_0 y0 (y1,y2)))).1])),(.T 4,.t (.val false [.int .i64 (getL (valO (g_Lw_heldOpOpS_0 y0 (y1,y2)))).2]))]) (.leaf (.exit 0) [(.T 1,.t (.val false [.int .i64 (getR (valO (g_Lw_heldOpOpS_0 y0 (y1,y2))))])),(.T 4,.t (.val false [.undef]))])))
 | b,h => Ow_heldOpOpS_0 b h
theorem bw_heldOpOpS_0 (y0:List (Int×(Int×(Int×(Int×(Int×(Int×Int))))))) (y1:Int) (y2:Int):Tr.bt Ew_heldOpOpS Ow_heldOpOpS_0 (exec Ew_heldOpOpS 0 cw_heldOpOpS_0 (St.of (hw_heldOpOpS_0 y0 y1 y2)) (leafRd Ew_heldOpOpS 0)) = (g_Sw_heldOpOpS_0 y0 (y1,y2)).bt (fun ((y1,y2):Int×Int) => (hw_heldOpOpS_0 y0 y1 y2)) (xw_heldOpOpS_0 y0) := by kernel_rfl
theorem kw_heldOpOpS_1:OrcOk Ew_heldOpOpS Ow_heldOpOpS_1 lsw_heldOpOpS 1 := orc_add kw_heldOpOpS_0 (fun n p hp h ex h' ho => by
 obtain ⟨b,c⟩ := p
 obtain ⟨xt,h1,h2⟩ := ho
 have h1:Ow_heldOpOpS_1 b h = some (true,xt) := h1
 unfold Ow_heldOpOpS_1 at h1
 split at h1
 ·injection h1 with h1
  injection h1 with e1 e2
  subst e2
  have hc:c = cw_heldOpOpS_0 := mw_heldOpOpS_0 _ hp rfl
  subst hc
  right
  rename_i y0 y1 y2
  have key := LT_step kw_heldOpOpS_0 hp (fun q hq => loopsAll_in _ _ _ _ hp hq) (fun ((y1,y2):Int×Int) => (hw_heldOpOpS_0 y0 y1 y2)) (xw_heldOpOpS_0 y0) (g_Sw_heldOpOpS_0 y0) (fun x => by first | exact bw_heldOpOpS_0 y0 x.1 x.2) n (x := (y1,y2)) (okO_some e1)
  have hx:∀ r,XT.sel (.br (isL r) (.leaf .ret [(.T 1,.t (.val false [.int .i64 (getL r).1])),(.T 4,.t (.val false [.int .i64 (getL r).2]))]) (.leaf (.exit 0) [(.T 1,.t (.val false [.int .i64 (getR r)])),(.T 4,.t (.val false [.undef]))])) = xw_heldOpOpS_0 y0 r := fun r => by first | rfl | (rcases r with r | r <;> rfl) | (rcases r with r | r | r <;> rfl) | (rcases r with r | r | r | r <;> rfl)
  have h3 := (hx (valO (g_Lw_heldOpOpS_0 y0 (y1,y2)))).symm.trans h2
  have e3 := congrArg Prod.fst h3
  have e4 := congrArg Prod.snd h3
  simp only at e3 e4
  rw [← e3,← e4]
  exact key
 ·exact .inl ⟨xt,h1,h2⟩)
noncomputable def g_Aw_heldOpOpS (a0:List (Int×(Int×(Int×(Int×(Int×(Int×Int))))))) (a1:Int):Bool := okO (g_Lw_heldOpOpS_0 a0 (a1,(0:Int)))
noncomputable def g_Vw_heldOpOpS_0 (a0:List (Int×(Int×(Int×(Int×(Int×(Int×Int))))))) (a1:Int):Int := bif isL (valO (g_Lw_heldOpOpS_0 a0 (a1,(0:Int)))) then (getL (valO (g_Lw_heldOpOpS_0 a0 (a1,(0:Int))))).2 else getR (valO (g_Lw_heldOpOpS_0 a0 (a1,(0:Int))))
noncomputable def Fw_heldOpOpS:FSem := fun ys => match ys with
 | [.val false [.sl .any 52 (.pair (.int .i64) (.pair (.int .i64) (.pair (.int .i64) (.pair (.int .i64) (.pair (.int .i64) (.pair (.int .i64) (.int .i64))))))) a0],.val false [.int .i64 a1]] => some ((g_Aw_heldOpOpS a0 a1),.val false [.int .i64 (g_Vw_heldOpOpS_0 a0 a1)],[])
 | _ => none
theorem vw_heldOpOpS (a0:List (Int×(Int×(Int×(Int×(Int×(Int×Int))))))) (a1:Int):collapseH .std Ew_heldOpOpS Ow_heldOpOpS_1 (execFn Ew_heldOpOpS Try.f22 msw_heldOpOpS [.val false [.sl .any 52 (.pair (.int .i64) (.pair (.int .i64) (.pair (.int .i64) (.pair (.int .i64) (.pair (.int .i64) (.pair (.int .i64) (.int .i64))))))) a0],.val false [.int .i64 a1]]) = some ((g_Aw_heldOpOpS a0 a1),.val false [.int .i64 (g_Vw_heldOpOpS_0 a0 a1)],[]) := by kernel_rfl
theorem sw_heldOpOpS:Sound Try.prog 22 msw_heldOpOpS Fw_heldOpOpS := by
 refine fn_gen goodw_heldOpOpS (by kernel_rfl) .std (fn := Try.f22) (c := (Try.f22.body.getD .skip)) (o := Ow_heldOpOpS_1) (k := 1) (by kernel_rfl) (by kernel_rfl) (by kernel_rfl) (by kernel_rfl) (by decide) kw_heldOpOpS_1 ?_
 intro ys r outs h
 unfold Fw_heldOpOpS at h
 split at h
 ·exact (vw_heldOpOpS _ _).trans h
 ·cases h
end Go.Proofs.Ytedhpmhlmdcpbaa.E
