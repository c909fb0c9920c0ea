/- What the functions that are reached do, by the engine: for the proof (laws.FnExactWldOk): part 2. No conditions. -/
import Derived.Test.YtedhpmhlmdcpbaaGreatDoorGa
import Derived.Test.YtedhpmhlmdcpbaaGreatDoorProg
set_option linter.all false
namespace Go.Proofs.YtedhpmhlmdcpbaaGreatDoor.E
open Go
set_option maxRecDepth 100000
set_option maxHeartbeats 0
noncomputable def Es_l1Val:Env where
 tt := mkTI Tryz.prog
 fn := fun f => match f with
  | 55 => some (mss_l1In,FSem.wk mss_l1In Fs_l1In)
  | _ => none
 bxf := fun _ => none
 mv := []
 keep := fun b => match b with
  | 0 => [(0,false),(3,false)]
  | _ => []
 keepB := fun b => match b with
  | 0 => []
  | _ => []
 keepX := fun b => match b with
  | 0 => [(0,false),(2,false)]
  | _ => []
 keepXB := fun b => match b with
  | 0 => []
  | _ => []
theorem goodFs_l1Val:∀ f ms F,Es_l1Val.fn f = some (ms,F) → Sound Tryz.prog f ms F := fun f ms F h => by
 unfold Es_l1Val at h
 dsimp only at h
 split at h
 ·exact gF ss_l1In h
 ·cases h
theorem goods_l1Val:Good Tryz.prog Es_l1Val := ⟨rfl,goodFs_l1Val,fun f ms F h => by cases h⟩
noncomputable def Os_l1Val_0:Orc := fun _ _ => none
noncomputable def mss_l1Val:List PM := [.rd]
noncomputable def lss_l1Val:List (Nat×Code) := loopsAll 0 (Tryz.f174.body.getD .skip)
noncomputable def cs_l1Val_0:Code := (loopOf 0 (Tryz.f174.body.getD .skip)).getD .skip
theorem lseqs_l1Val:lss_l1Val = [(0,cs_l1Val_0)] := by kernel_rfl
theorem ms_l1Val_0:∀ p,p ∈ lss_l1Val → p.1 = 0 → p.2 = cs_l1Val_0 := by
 intro p hp
 rw [lseqs_l1Val] at hp
 simp only [List.mem_cons,List.not_mem_nil,or_false] at hp
 subst hp; simp
theorem ks_l1Val_0:OrcOk Es_l1Val Os_l1Val_0 lss_l1Val 0 := orcOk_none
noncomputable def hs_l1Val_0 (y0:List Int) (y1:Int):List (Pl×LV) := [(.T 0,.t (.val false [.sl .any 3 (.int .i64) y0])),(.T 3,.t (.val false [.int .i64 y1]))]
noncomputable def g_Ss_l1Val_0 (y0:List Int):(Int) → RT (Int) ((Bool) ⊕ (Unit))
 | y1 => .br (true) (.br (decide (y1 < (y0.length:Int))) (.br (decide (0 ≤ y1 ∧ y1 < (y0.length:Int))) (.br (g_As_l1In (at_ (.int .i64) y0 (Int.toNat y1)) (0:Int) (9999:Int)) (.br (!g_Vs_l1In_0 (at_ (.int .i64) y0 (Int.toNat y1)) (0:Int) (9999:Int)) (.out (.inl false)) (.br (true) (.go (IntKind.i64.wrap (y1 + 1))) .bad)) .bad) .bad) (.out (.inr (())))) .bad
noncomputable def g_Ls_l1Val_0 (y0:List Int) (x:Int):Option ((Bool) ⊕ (Unit)) := loopO (g_Ss_l1Val_0 y0) x
noncomputable def xs_l1Val_0 (y0:List Int):((Bool) ⊕ (Unit)) → Ex×List (Pl×LV) := fun
 | .inl r => (.ret,[(.T 0,.t (.val false [.sl .any 3 (.int .i64) y0])),(.T 2,.t (.val false [.bool r]))])
 | .inr (r) => (.exit 0,[(.T 0,.t (.val false [.sl .any 3 (.int .i64) y0])),(.T 2,.t (.val false [.undef]))])
noncomputable def Os_l1Val_1:Orc := fun b h => match b,h with
 | 0,[(.T 0,.t (.val false [.sl .any 3 (.int .i64) y0])),(.T 3,.t (.val false [.int .i64 y1]))] => some (okO (g_Ls_l1Val_0 y0 y1),(.br (isL (valO (g_Ls_l1Val_0 y0 y1))) (.leaf .ret [(.T 0,.t (.val false [.sl .any 3 (.int .i64) y0])),(.T 2,.t (.val false [.bool (getL (valO (g_Ls_l1Val_0 y0 y1)))]))]) (.leaf (.exit 0) [(.T 0,.t (.val false [.sl .any 3 (.int .i64) y0])),(.T 2,.t (.val false [.undef]))])))
 | b,h => Os_l1Val_0 b h
theorem bs_l1Val_0 (y0:List Int) (y1:Int):Tr.bt Es_l1Val Os_l1Val_0 (exec Es_l1Val 0 cs_l1Val_0 (St.of (hs_l1Val_0 y0 y1)) (leafRd Es_l1Val 0)) = (g_Ss_l1Val_0 y0 y1).bt (fun (y1:Int) => (hs_l1Val_0 y0 y1)) (xs_l1Val_0 y0) := by kernel_rfl
theorem ks_l1Val_1:OrcOk Es_l1Val Os_l1Val_1 lss_l1Val 1 := orc_add ks_l1Val_0 (fun n p hp h ex h' ho => by
 obtain ⟨b,c⟩ := p
 obtain ⟨xt,h1,h2⟩ := ho
 have h1:Os_l1Val_1 b h = some (true,xt) := h1
 unfold Os_l1Val_1 at h1
 split at h1
 ·injection h1 with h1
  injection h1 with e1 e2
  subst e2
  have hc:c = cs_l1Val_0 := ms_l1Val_0 _ hp rfl
  subst hc
  right
  rename_i y0 y1
  have key := LT_step ks_l1Val_0 hp (fun q hq => loopsAll_in _ _ _ _ hp hq) (fun (y1:Int) => (hs_l1Val_0 y0 y1)) (xs_l1Val_0 y0) (g_Ss_l1Val_0 y0) (fun x => by first | exact bs_l1Val_0 y0 x) n (x := y1) (okO_some e1)
  have hx:∀ r,XT.sel (.br (isL r) (.leaf .ret [(.T 0,.t (.val false [.sl .any 3 (.int .i64) y0])),(.T 2,.t (.val false [.bool (getL r)]))]) (.leaf (.exit 0) [(.T 0,.t (.val false [.sl .any 3 (.int .i64) y0])),(.T 2,.t (.val false [.undef]))])) = xs_l1Val_0 y0 r := fun r => by first | rfl | rcases r with r | r <;> rfl | rcases r with r | r | r <;> rfl | rcases r with r | r | r | r <;> rfl
  have h3 := (hx (valO (g_Ls_l1Val_0 y0 y1))).symm.trans h2
  have e3 := congrArg Prod.fst h3
  have e4 := congrArg Prod.snd h3
  simp only at e3 e4
  rw [← e3,← e4]
  exact key
 ·exact .inl ⟨xt,h1,h2⟩)
noncomputable def g_As_l1Val (a0:List Int):Bool := okO (g_Ls_l1Val_0 a0 (0:Int))&&(isL (valO (g_Ls_l1Val_0 a0 (0:Int))) || g_As_l1In (a0.length:Int) (1:Int) (3:Int))
noncomputable def g_Vs_l1Val_0 (a0:List Int):Bool := bif isL (valO (g_Ls_l1Val_0 a0 (0:Int))) then getL (valO (g_Ls_l1Val_0 a0 (0:Int))) else g_Vs_l1In_0 (a0.length:Int) (1:Int) (3:Int)
noncomputable def Fs_l1Val:FSem := fun ys => match ys with
 | [.val false [.sl .any 3 (.int .i64) a0]] => some ((g_As_l1Val a0),.val false [.bool (g_Vs_l1Val_0 a0)],[])
 | _ => none
theorem vs_l1Val (a0:List Int):collapseH .std Es_l1Val Os_l1Val_1 (execFn Es_l1Val Tryz.f174 mss_l1Val [.val false [.sl .any 3 (.int .i64) a0]]) = some ((g_As_l1Val a0),.val false [.bool (g_Vs_l1Val_0 a0)],[]) := by kernel_rfl
theorem ss_l1Val:Sound Tryz.prog 174 mss_l1Val Fs_l1Val := by
 refine fn_gen goods_l1Val (by kernel_rfl) .std (fn := Tryz.f174) (c := (Tryz.f174.body.getD .skip)) (o := Os_l1Val_1) (k := 1) (by kernel_rfl) (by kernel_rfl) (by kernel_rfl) (by kernel_rfl) (by decide) ks_l1Val_1 ?_
 intro ys r outs h
 unfold Fs_l1Val at h
 split at h
 ·exact (vs_l1Val _).trans h
 ·cases h
noncomputable def Es_WrtOk:Env where
 tt := mkTI Tryz.prog
 fn := fun f => match f with
  | 155 => some (mss_l1Key,FSem.wk mss_l1Key Fs_l1Key)
  | 174 => some (mss_l1Val,FSem.wk mss_l1Val Fs_l1Val)
  | _ => none
 bxf := fun _ => none
 mv := []
 keep := fun _ => []
 keepB := fun _ => []
 keepX := fun _ => []
 keepXB := fun _ => []
theorem goodFs_WrtOk:∀ f ms F,Es_WrtOk.fn f = some (ms,F) → Sound Tryz.prog f ms F := fun f ms F h => by
 unfold Es_WrtOk at h
 dsimp only at h
 split at h
 ·exact gF ss_l1Key h
 ·exact gF ss_l1Val h
 ·cases h
theorem goods_WrtOk:Good Tryz.prog Es_WrtOk := ⟨rfl,goodFs_WrtOk,fun f ms F h => by cases h⟩
noncomputable def Os_WrtOk_0:Orc := fun _ _ => none
noncomputable def mss_WrtOk:List PM := [.rd]
noncomputable def lss_WrtOk:List (Nat×Code) := loopsAll 0 (Tryz.f156.body.getD .skip)
theorem ks_WrtOk_0:OrcOk Es_WrtOk Os_WrtOk_0 lss_WrtOk 0 := orcOk_none
noncomputable def g_As_WrtOk (a0:ByteArray) (a1:Bool) (a2:List Int):Bool := bif a1 then g_As_l1Key a0&&(!g_Vs_l1Key_0 a0 || true) else g_As_l1Key a0&&(!g_Vs_l1Key_0 a0 || g_As_l1Val a2)
noncomputable def g_Vs_WrtOk_0 (a0:ByteArray) (a1:Bool) (a2:List Int):Bool := bif a1 then bif g_Vs_l1Key_0 a0 then (a2.length:Int) == 0 else false else bif g_Vs_l1Key_0 a0 then g_Vs_l1Val_0 a2 else false
noncomputable def Fs_WrtOk:FSem := fun ys => match ys with
 | [.val true [.str a0,.bool a1,.sl .any 3 (.int .i64) a2]] => some ((g_As_WrtOk a0 a1 a2),.val false [.bool (g_Vs_WrtOk_0 a0 a1 a2)],[])
 | _ => none
theorem vs_WrtOk (a0:ByteArray) (a1:Bool) (a2:List Int):collapseH .std Es_WrtOk Os_WrtOk_0 (execFn Es_WrtOk Tryz.f156 mss_WrtOk [.val true [.str a0,.bool a1,.sl .any 3 (.int .i64) a2]]) = some ((g_As_WrtOk a0 a1 a2),.val false [.bool (g_Vs_WrtOk_0 a0 a1 a2)],[]) := by kernel_rfl
theorem ss_WrtOk:Sound Tryz.prog 156 mss_WrtOk Fs_WrtOk := by
 refine fn_gen goods_WrtOk (by kernel_rfl) .std (fn := Tryz.f156) (c := (Tryz.f156.body.getD .skip)) (o := Os_WrtOk_0) (k := 0) (by kernel_rfl) (by kernel_rfl) (by kernel_rfl) (by kernel_rfl) (by decide) ks_WrtOk_0 ?_
 intro ys r outs h
 unfold Fs_WrtOk at h
 split at h
 ·exact (vs_WrtOk _ _ _).trans h
 ·cases h
noncomputable def Es_l2Has:Env where
 tt := mkTI Tryz.prog
 fn := fun _ => none
 bxf := fun _ => none
 mv := []
 keep := fun b => match b with
  | 0 => [(0,false),(1,false),(5,false)]
  | _ => []
 keepB := fun b => match b with
  | 0 => []
  | _ => []
 keepX := fun b => match b with
  | 0 => [(4,false)]
  | _ => []
 keepXB := fun b => match b with
  | 0 => []
  | _ => []
theorem goodFs_l2Has:∀ f ms F,Es_l2Has.fn f = some (ms,F) → Sound Tryz.prog f ms F := fun f ms F h => by cases h
theorem goods_l2Has:Good Tryz.prog Es_l2Has := ⟨rfl,goodFs_l2Has,fun f ms F h => by cases h⟩
noncomputable def Os_l2Has_0:Orc := fun _ _ => none
noncomputable def mss_l2Has:List PM := [.rd,.own]
noncomputable def lss_l2Has:List (Nat×Code) := loopsAll 0 (Tryz.f157.body.getD .skip)
noncomputable def cs_l2Has_0:Code := (loopOf 0 (Tryz.f157.body.getD .skip)).getD .skip
theorem lseqs_l2Has:lss_l2Has = [(0,cs_l2Has_0)] := by kernel_rfl
theorem ms_l2Has_0:∀ p,p ∈ lss_l2Has → p.1 = 0 → p.2 = cs_l2Has_0 := by
 intro p hp
 rw [lseqs_l2Has] at hp
 simp only [List.mem_cons,List.not_mem_nil,or_false] at hp
 subst hp; simp
theorem ks_l2Has_0:OrcOk Es_l2Has Os_l2Has_0 lss_l2Has 0 := orcOk_none
noncomputable def hs_l2Has_0 (y0:List ByteArray) (y1:ByteArray) (y2:Int):List (Pl×LV) := [(.T 0,.t (.val false [.sl .any 9 .str y0])),(.T 1,.t (.val false [.str y1])),(.T 5,.t (.val false [.int .i64 y2]))]
noncomputable def g_Ss_l2Has_0 (y0:List ByteArray) (y1:ByteArray):(Int) → RT (Int) ((Bool) ⊕ (Unit))
 | y2 => .br (true) (.br (decide (y2 < (y0.length:Int))) (.br (decide (0 ≤ y2 ∧ y2 < (y0.length:Int))) (.br (true) (.br (ByteArray.toList (at_ Ty.str y0 (Int.toNat y2)) == ByteArray.toList y1) (.out (.inl true)) (.br (true) (.go (IntKind.i64.wrap (y2 + 1))) .bad)) .bad) .bad) (.out (.inr (())))) .bad
noncomputable def g_Ls_l2Has_0 (y0:List ByteArray) (y1:ByteArray) (x:Int):Option ((Bool) ⊕ (Unit)) := loopO (g_Ss_l2Has_0 y0 y1) x
noncomputable def xs_l2Has_0 (y0:List ByteArray) (y1:ByteArray):((Bool) ⊕ (Unit)) → Ex×List (Pl×LV) := fun
 | .inl r => (.ret,[(.T 4,.t (.val false [.bool r]))])
 | .inr (r) => (.exit 0,[(.T 4,.t (.val false [.undef]))])
noncomputable def Os_l2Has_1:Orc := fun b h => match b,h with
 | 0,[(.T 0,.t (.val false [.sl .any 9 .str y0])),(.T 1,.t (.val false [.str y1])),(.T 5,.t (.val false [.int .i64 y2]))] => some (okO (g_Ls_l2Has_0 y0 y1 y2),(.br (isL (valO (g_Ls_l2Has_0 y0 y1 y2))) (.leaf .ret [(.T 4,.t (.val false [.bool (getL (valO (g_Ls_l2Has_0 y0 y1 y2)))]))]) (.leaf (.exit 0) [(.T 4,.t (.val false [.undef]))])))
 | b,h => Os_l2Has_0 b h
theorem bs_l2Has_0 (y0:List ByteArray) (y1:ByteArray) (y2:Int):Tr.bt Es_l2Has Os_l2Has_0 (exec Es_l2Has 0 cs_l2Has_0 (St.of (hs_l2Has_0 y0 y1 y2)) (leafRd Es_l2Has 0)) = (g_Ss_l2Has_0 y0 y1 y2).bt (fun (y2:Int) => (hs_l2Has_0 y0 y1 y2)) (xs_l2Has_0 y0 y1) := by kernel_rfl
theorem ks_l2Has_1:OrcOk Es_l2Has Os_l2Has_1 lss_l2Has 1 := orc_add ks_l2Has_0 (fun n p hp h ex h' ho => by
 obtain ⟨b,c⟩ := p
 obtain ⟨xt,h1,h2⟩ := ho
 have h1:Os_l2Has_1 b h = some (true,xt) := h1
 unfold Os_l2Has_1 at h1
 split at h1
 ·injection h1 with h1
  injection h1 with e1 e2
  subst e2
  have hc:c = cs_l2Has_0 := ms_l2Has_0 _ hp rfl
  subst hc
  right
  rename_i y0 y1 y2
  have key := LT_step ks_l2Has_0 hp (fun q hq => loopsAll_in _ _ _ _ hp hq) (fun (y2:Int) => (hs_l2Has_0 y0 y1 y2)) (xs_l2Has_0 y0 y1) (g_Ss_l2Has_0 y0 y1) (fun x => by first | exact bs_l2Has_0 y0 y1 x) n (x := y2) (okO_some e1)
  have hx:∀ r,XT.sel (.br (isL r) (.leaf .ret [(.T 4,.t (.val false [.bool (getL r)]))]) (.leaf (.exit 0) [(.T 4,.t (.val false [.undef]))])) = xs_l2Has_0 y0 y1 r := fun r => by first | rfl | rcases r with r | r <;> rfl | rcases r with r | r | r <;> rfl | rcases r with r | r | r | r <;> rfl
  have h3 := (hx (valO (g_Ls_l2Has_0 y0 y1 y2))).symm.trans h2
  have e3 := congrArg Prod.fst h3
  have e4 := congrArg Prod.snd h3
  simp only at e3 e4
  rw [← e3,← e4]
  exact key
 ·exact .inl ⟨xt,h1,h2⟩)
noncomputable def g_As_l2Has (a0:List ByteArray) (a1:ByteArray):Bool := okO (g_Ls_l2Has_0 a0 a1 (0:Int))
noncomputable def g_Vs_l2Has_0 (a0:List ByteArray) (a1:ByteArray):Bool := bif isL (valO (g_Ls_l2Has_0 a0 a1 (0:Int))) then getL (valO (g_Ls_l2Has_0 a0 a1 (0:Int))) else false
noncomputable def Fs_l2Has:FSem := fun ys => match ys with
 | [.val false [.sl .any 9 .str a0],.val false [.str a1]] => some ((g_As_l2Has a0 a1),.val false [.bool (g_Vs_l2Has_0 a0 a1)],[])
 | _ => none
theorem vs_l2Has (a0:List ByteArray) (a1:ByteArray):collapseH .std Es_l2Has Os_l2Has_1 (execFn Es_l2Has Tryz.f157 mss_l2Has [.val false [.sl .any 9 .str a0],.val false [.str a1]]) = some ((g_As_l2Has a0 a1),.val false [.bool (g_Vs_l2Has_0 a0 a1)],[]) := by kernel_rfl
theorem ss_l2Has:Sound Tryz.prog 157 mss_l2Has Fs_l2Has := by
 refine fn_gen goods_l2Has (by kernel_rfl) .std (fn := Tryz.f157) (c := (Tryz.f157.body.getD .skip)) (o := Os_l2Has_1) (k := 1) (by kernel_rfl) (by kernel_rfl) (by kernel_rfl) (by kernel_rfl) (by decide) ks_l2Has_1 ?_
 intro ys r outs h
 unfold Fs_l2Has at h
 split at h
 ·exact (vs_l2Has _ _).trans h
 ·cases h
noncomputable def Es_NoteOk:Env where
 tt := mkTI Tryz.prog
 fn := fun f => match f with
  | 55 => some (mss_l1In,FSem.wk mss_l1In Fs_l1In)
  | 155 => some (mss_l1Key,FSem.wk mss_l1Key Fs_l1Key)
  | 156 => some (mss_WrtOk,FSem.wk mss_WrtOk Fs_WrtOk)
  | 157 => some (mss_l2Has,FSem.wk mss_l2Has Fs_l2Has)
  | _ => none
 bxf := fun _ => none
 mv := []
 keep := fun b => match b with
  | 0 => [(1,false),(3,false)]
  | 2 => [(1,false),(4,false)]
  | _ => []
 keepB := fun b => match b with
  | 0 => [(1,false)]
  | 2 => [(1,false)]
  | _ => []
 keepX := fun b => match b with
  | 0 => [(1,false),(2,false)]
  | 2 => [(1,false),(2,false)]
  | _ => []
 keepXB := fun b => match b with
  | 0 => [(1,false)]
  | 2 => [(1,false)]
  | _ => []
theorem goodFs_NoteOk:∀ f ms F,Es_NoteOk.fn f = some (ms,F) → Sound Tryz.prog f ms F := fun f ms F h => by
 unfold Es_NoteOk at h
 dsimp only at h
 split at h
 ·exact gF ss_l1In h
 ·exact gF ss_l1Key h
 ·exact gF ss_WrtOk h
 ·exact gF ss_l2Has h
 ·cases h
theorem goods_NoteOk:Good Tryz.prog Es_NoteOk := ⟨rfl,goodFs_NoteOk,fun f ms F h => by cases h⟩
noncomputable def Os_NoteOk_0:Orc := fun _ _ => none
noncomputable def mss_NoteOk:List PM := [.rd]
noncomputable def lss_NoteOk:List (Nat×Code) := loopsAll 0 (Tryz.f134.body.getD .skip)
noncomputable def cs_NoteOk_0:Code := (loopOf 0 (Tryz.f134.body.getD .skip)).getD .skip
noncomputable def cs_NoteOk_2:Code := (loopOf 2 (Tryz.f134.body.getD .skip)).getD .skip
theorem lseqs_NoteOk:lss_NoteOk = [(0,cs_NoteOk_0),(2,cs_NoteOk_2)] := by kernel_rfl
theorem ms_NoteOk_0:∀ p,p ∈ lss_NoteOk → p.1 = 0 → p.2 = cs_NoteOk_0 := by
 intro p hp
 rw [lseqs_NoteOk] at hp
 simp only [List.mem_cons,List.not_mem_nil,or_false] at hp
 rcases hp with rfl | rfl <;> simp
theorem ms_NoteOk_2:∀ p,p ∈ lss_NoteOk → p.1 = 2 → p.2 = cs_NoteOk_2 := by
 intro p hp
 rw [lseqs_NoteOk] at hp
 simp only [List.mem_cons,List.not_mem_nil,or_false] at hp
 rcases hp with rfl | rfl <;> simp
theorem ks_NoteOk_0:OrcOk Es_NoteOk Os_NoteOk_0 lss_NoteOk 0 := orcOk_none
noncomputable def hs_NoteOk_0 (y0:Int) (y1:Int) (y2:Int) (y3:List ByteArray) (y4:tL4):List (Pl×LV) := [(.T 1,.t (.val false [.ptr 1 0 0])),(.T 3,.t (.val false [.int .i64 y0])),(.B 1,.b 0 false [.int .i64 y1,.int .i64 y2,.sl .any 9 .str y3,.sl .any 155 (.pair .str (.pair .bool (.sl 3 (.int .i64)))) y4])]
noncomputable def g_Ss_NoteOk_0 (y1:Int) (y2:Int) (y3:List ByteArray) (y4:tL4):(Int) → RT (Int) ((Bool) ⊕ (Unit))
 | y0 => .br (true) (.br (decide (y0 < (y3.length:Int))) (.br (decide (0 ≤ y0 ∧ y0 < (y3.length:Int))) (.br (g_As_l1Key (at_ Ty.str y3 (Int.toNat y0))) (.br (!g_Vs_l1Key_0 (at_ Ty.str y3 (Int.toNat y0))) (.out (.inl false)) (.br (true) (.go (IntKind.i64.wrap (y0 + 1))) .bad)) .bad) .bad) (.out (.inr (())))) .bad
noncomputable def g_Ls_NoteOk_0 (y1:Int) (y2:Int) (y3:List ByteArray) (y4:tL4) (x:Int):Option ((Bool) ⊕ (Unit)) := loopO (g_Ss_NoteOk_0 y1 y2 y3 y4) x
noncomputable def xs_NoteOk_0 (y1:Int) (y2:Int) (y3:List ByteArray) (y4:tL4):((Bool) ⊕ (Unit)) → Ex×List (Pl×LV) := fun
 | .inl r => (.ret,[(.T 1,.t (.val false [.ptr 1 0 0])),(.T 2,.t (.val false [.bool r])),(.B 1,.b 0 false [.int .i64 y1,.int .i64 y2,.sl .any 9 .str y3,.sl .any 155 (.pair .str (.pair .bool (.sl 3 (.int .i64)))) y4])])
 | .inr (r) => (.exit 0,[(.T 1,.t (.val false [.ptr 1 0 0])),(.T 2,.t (.val false [.undef])),(.B 1,.b 0 false [.int .i64 y1,.int .i64 y2,.sl .any 9 .str y3,.sl .any 155 (.pair .str (.pair .bool (.sl 3 (.int .i64)))) y4])])
noncomputable def Os_NoteOk_1:Orc := fun b h => match b,h with
 | 0,[(.T 1,.t (.val false [.ptr 1 0 0])),(.T 3,.t (.val false [.int .i64 y0])),(.B 1,.b 0 false [.int .i64 y1,.int .i64 y2,.sl .any 9 .str y3,.sl .any 155 (.pair .str (.pair .bool (.sl 3 (.int .i64)))) y4])] => some (okO (g_Ls_NoteOk_0 y1 y2 y3 y4 y0),(.br (isL (valO (g_Ls_NoteOk_0 y1 y2 y3 y4 y0))) (.leaf .ret [(.T 1,.t (.val false [.ptr 1 0 0])),(.T 2,.t (.val false [.bool (getL (valO (g_Ls_NoteOk_0 y1 y2 y3 y4 y0)))])),(.B 1,.b 0 false [.int .i64 y1,.int .i64 y2,.sl .any 9 .str y3,.sl .any 155 (.pair .str (.pair .bool (.sl 3 (.int .i64)))) y4])]) (.leaf (.exit 0) [(.T 1,.t (.val false [.ptr 1 0 0])),(.T 2,.t (.val false [.undef])),(.B 1,.b 0 false [.int .i64 y1,.int .i64 y2,.sl .any 9 .str y3,.sl .any 155 (.pair .str (.pair .bool (.sl 3 (.int .i64)))) y4])])))
 | b,h => Os_NoteOk_0 b h
theorem bs_NoteOk_0 (y0:Int) (y1:Int) (y2:Int) (y3:List ByteArray) (y4:tL4):Tr.bt Es_NoteOk Os_NoteOk_0 (exec Es_NoteOk 0 cs_NoteOk_0 (St.of (hs_NoteOk_0 y0 y1 y2 y3 y4)) (leafRd Es_NoteOk 0)) = (g_Ss_NoteOk_0 y1 y2 y3 y4 y0).bt (fun (y0:Int) => (hs_NoteOk_0 y0 y1 y2 y3 y4)) (xs_NoteOk_0 y1 y2 y3 y4) := by kernel_rfl
theorem ks_NoteOk_1:OrcOk Es_NoteOk Os_NoteOk_1 lss_NoteOk 1 := orc_add ks_NoteOk_0 (fun n p hp h ex h' ho => by
 obtain ⟨b,c⟩ := p
 obtain ⟨xt,h1,h2⟩ := ho
 have h1:Os_NoteOk_1 b h = some (true,xt) := h1
 unfold Os_NoteOk_1 at h1
 split at h1
 ·injection h1 with h1
  injection h1 with e1 e2
  subst e2
  have hc:c = cs_NoteOk_0 := ms_NoteOk_0 _ hp rfl
  subst hc
  right
  rename_i y0 y1 y2 y3 y4
  have key := LT_step ks_NoteOk_0 hp (fun q hq => loopsAll_in _ _ _ _ hp hq) (fun (y0:Int) => (hs_NoteOk_0 y0 y1 y2 y3 y4)) (xs_NoteOk_0 y1 y2 y3 y4) (g_Ss_NoteOk_0 y1 y2 y3 y4) (fun x => by first | exact bs_NoteOk_0 x y1 y2 y3 y4) n (x := y0) (okO_some e1)
  have hx:∀ r,XT.sel (.br (isL r) (.leaf .ret [(.T 1,.t (.val false [.ptr 1 0 0])),(.T 2,.t (.val false [.bool (getL r)])),(.B 1,.b 0 false [.int .i64 y1,.int .i64 y2,.sl .any 9 .str y3,.sl .any 155 (.pair .str (.pair .bool (.sl 3 (.int .i64)))) y4])]) (.leaf (.exit 0) [(.T 1,.t (.val false [.ptr 1 0 0])),(.T 2,.t (.val false [.undef])),(.B 1,.b 0 false [.int .i64 y1,.int .i64 y2,.sl .any 9 .str y3,.sl .any 155 (.pair .str (.pair .bool (.sl 3 (.int .i64)))) y4])])) = xs_NoteOk_0 y1 y2 y3 y4 r := fun r => by first | rfl | rcases r with r | r <;> rfl | rcases r with r | r | r <;> rfl | rcases r with r | r | r | r <;> rfl
  have h3 := (hx (valO (g_Ls_NoteOk_0 y1 y2 y3 y4 y0))).symm.trans h2
  have e3 := congrArg Prod.fst h3
  have e4 := congrArg Prod.snd h3
  simp only at e3 e4
  rw [← e3,← e4]
  exact key
 ·exact .inl ⟨xt,h1,h2⟩)
noncomputable def hs_NoteOk_2 (y0:Int) (y1:Int) (y2:Int) (y3:List ByteArray) (y4:tL4):List (Pl×LV) := [(.T 1,.t (.val false [.ptr 1 0 0])),(.T 4,.t (.val false [.int .i64 y0])),(.B 1,.b 0 false [.int .i64 y1,.int .i64 y2,.sl .any 9 .str y3,.sl .any 155 (.pair .str (.pair .bool (.sl 3 (.int .i64)))) y4])]
noncomputable def g_Ss_NoteOk_2 (y1:Int) (y2:Int) (y3:List ByteArray) (y4:tL4):(Int) → RT (Int) ((Bool) ⊕ (Unit))
 | y0 => .br (true) (.br (decide (y0 < (y4.length:Int))) (.br (decide (0 ≤ y0 ∧ y0 < (y4.length:Int))) (.br (g_As_WrtOk (at_ yT6 y4 (Int.toNat y0)).1 (at_ yT6 y4 (Int.toNat y0)).2.1 (at_ yT6 y4 (Int.toNat y0)).2.2) (.br (!g_Vs_WrtOk_0 (at_ yT6 y4 (Int.toNat y0)).1 (at_ yT6 y4 (Int.toNat y0)).2.1 (at_ yT6 y4 (Int.toNat y0)).2.2) (.out (.inl false)) (.br (decide (0 ≤ y0 ∧ y0 < (y4.length:Int))) (.br (g_As_l2Has y3 (at_ yT6 y4 (Int.toNat y0)).1) (.br (!g_Vs_l2Has_0 y3 (at_ yT6 y4 (Int.toNat y0)).1) (.out (.inl false)) (.br (true) (.go (IntKind.i64.wrap (y0 + 1))) .bad)) .bad) .bad)) .bad) .bad) (.out (.inr (())))) .bad
noncomputable def g_Ls_NoteOk_2 (y1:Int) (y2:Int) (y3:List ByteArray) (y4:tL4) (x:Int):Option ((Bool) ⊕ (Unit)) := loopO (g_Ss_NoteOk_2 y1 y2 y3 y4) x
noncomputable def xs_NoteOk_2 (y1:Int) (y2:Int) (y3:List ByteArray) (y4:tL4):((Bool) ⊕ (Unit)) → Ex×List (Pl×LV) := fun
 | .inl r => (.ret,[(.T 1,.t (.val false [.ptr 1 0 0])),(.T 2,.t (.val false [.bool r])),(.B 1,.b 0 false [.int .i64 y1,.int .i64 y2,.sl .any 9 .str y3,.sl .any 155 (.pair .str (.pair .bool (.sl 3 (.int .i64)))) y4])])
 | .inr (r) => (.exit 2,[(.T 1,.t (.val false [.ptr 1 0 0])),(.T 2,.t (.val false [.undef])),(.B 1,.b 0 false [.int .i64 y1,.int .i64 y2,.sl .any 9 .str y3,.sl .any 155 (.pair .str (.pair .bool (.sl 3 (.int .i64)))) y4])])
noncomputable def Os_NoteOk_2:Orc := fun b h => match b,h with
 | 2,[(.T 1,.t (.val false [.ptr 1 0 0])),(.T 4,.t (.val false [.int .i64 y0])),(.B 1,.b 0 false [.int .i64 y1,.int .i64 y2,.sl .any 9 .str y3,.sl .any 155 (.pair .str (.pair .bool (.sl 3 (.int .i64)))) y4])] => some (okO (g_Ls_NoteOk_2 y1 y2 y3 y4 y0),(.br (isL (valO (g_Ls_NoteOk_2 y1 y2 y3 y4 y0))) (.leaf .ret [(.T 1,.t (.val false [.ptr 1 0 0])),(.T 2,.t (.val false [.bool (getL (valO (g_Ls_NoteOk_2 y1 y2 y3 y4 y0)))])),(.B 1,.b 0 false [.int .i64 y1,.int .i64 y2,.sl .any 9 .str y3,.sl .any 155 (.pair .str (.pair .bool (.sl 3 (.int .i64)))) y4])]) (.leaf (.exit 2) [(.T 1,.t (.val false [.ptr 1 0 0])),(.T 2,.t (.val false [.undef])),(.B 1,.b 0 false [.int .i64 y1,.int .i64 y2,.sl .any 9 .str y3,.sl .any 155 (.pair .str (.pair .bool (.sl 3 (.int .i64)))) y4])])))
 | b,h => Os_NoteOk_1 b h
theorem bs_NoteOk_2 (y0:Int) (y1:Int) (y2:Int) (y3:List ByteArray) (y4:tL4):Tr.bt Es_NoteOk Os_NoteOk_1 (exec Es_NoteOk 2 cs_NoteOk_2 (St.of (hs_NoteOk_2 y0 y1 y2 y3 y4)) (leafRd Es_NoteOk 2)) = (g_Ss_NoteOk_2 y1 y2 y3 y4 y0).bt (fun (y0:Int) => (hs_NoteOk_2 y0 y1 y2 y3 y4)) (xs_NoteOk_2 y1 y2 y3 y4) := by kernel_rfl
theorem ks_NoteOk_2:OrcOk Es_NoteOk Os_NoteOk_2 lss_NoteOk 2 := orc_add ks_NoteOk_1 (fun n p hp h ex h' ho => by
 obtain ⟨b,c⟩ := p
 obtain ⟨xt,h1,h2⟩ := ho
 have h1:Os_NoteOk_2 b h = some (true,xt) := h1
 unfold Os_NoteOk_2 at h1
 split at h1
 ·injection h1 with h1
  injection h1 with e1 e2
  subst e2
  have hc:c = cs_NoteOk_2 := ms_NoteOk_2 _ hp rfl
  subst hc
  right
  rename_i y0 y1 y2 y3 y4
  have key := LT_step ks_NoteOk_1 hp (fun q hq => loopsAll_in _ _ _ _ hp hq) (fun (y0:Int) => (hs_NoteOk_2 y0 y1 y2 y3 y4)) (xs_NoteOk_2 y1 y2 y3 y4) (g_Ss_NoteOk_2 y1 y2 y3 y4) (fun x => by first | exact bs_NoteOk_2 x y1 y2 y3 y4) n (x := y0) (okO_some e1)
  have hx:∀ r,XT.sel (.br (isL r) (.leaf .ret [(.T 1,.t (.val false [.ptr 1 0 0])),(.T 2,.t (.val false [.bool (getL r)])),(.B 1,.b 0 false [.int .i64 y1,.int .i64 y2,.sl .any 9 .str y3,.sl .any 155 (.pair .str (.pair .bool (.sl 3 (.int .i64)))) y4])]) (.leaf (.exit 2) [(.T 1,.t (.val false [.ptr 1 0 0])),(.T 2,.t (.val false [.undef])),(.B 1,.b 0 false [.int .i64 y1,.int .i64 y2,.sl .any 9 .str y3,.sl .any 155 (.pair .str (.pair .bool (.sl 3 (.int .i64)))) y4])])) = xs_NoteOk_2 y1 y2 y3 y4 r := fun r => by first | rfl | rcases r with r | r <;> rfl | rcases r with r | r | r <;> rfl | rcases r with r | r | r | r <;> rfl
  have h3 := (hx (valO (g_Ls_NoteOk_2 y1 y2 y3 y4 y0))).symm.trans h2
  have e3 := congrArg Prod.fst h3
  have e4 := congrArg Prod.snd h3
  simp only at e3 e4
  rw [← e3,← e4]
  exact key
 ·exact .inl ⟨xt,h1,h2⟩)
noncomputable def g_As_NoteOk (a0:Int) (a1:Int) (a2:List ByteArray) (a3:tL4):Bool := g_As_l1In a0 (1:Int) (4:Int)&&(!g_Vs_l1In_0 a0 (1:Int) (4:Int) || g_As_l1In a1 (0:Int) (29:Int)&&(!g_Vs_l1In_0 a1 (0:Int) (29:Int) || (decide ((a2.length:Int) > 12) || (decide ((a3.length:Int) > 12) || okO (g_Ls_NoteOk_0 a0 a1 a2 a3 (0:Int))&&(isL (valO (g_Ls_NoteOk_0 a0 a1 a2 a3 (0:Int))) || okO (g_Ls_NoteOk_2 a0 a1 a2 a3 (0:Int))&&(isL (valO (g_Ls_NoteOk_2 a0 a1 a2 a3 (0:Int))) || (a0 == 1 || true)))))))
noncomputable def g_Vs_NoteOk_0 (a0:Int) (a1:Int) (a2:List ByteArray) (a3:tL4):Bool := bif !g_Vs_l1In_0 a0 (1:Int) (4:Int) then false else bif !g_Vs_l1In_0 a1 (0:Int) (29:Int) then false else bif decide ((a2.length:Int) > 12) then false else bif decide ((a3.length:Int) > 12) then false else bif isL (valO (g_Ls_NoteOk_0 a0 a1 a2 a3 (0:Int))) then getL (valO (g_Ls_NoteOk_0 a0 a1 a2 a3 (0:Int))) else bif isL (valO (g_Ls_NoteOk_2 a0 a1 a2 a3 (0:Int))) then getL (valO (g_Ls_NoteOk_2 a0 a1 a2 a3 (0:Int))) else bif a0 == 1 then true else IntKind.i64.wrap ((a2.length:Int) + (a3.length:Int)) == 0
noncomputable def Fs_NoteOk:FSem := fun ys => match ys with
 | [.val true [.int .i64 a0,.int .i64 a1,.sl .any 9 .str a2,.sl .any 155 (.pair .str (.pair .bool (.sl 3 (.int .i64)))) a3]] => some ((g_As_NoteOk a0 a1 a2 a3),.val false [.bool (g_Vs_NoteOk_0 a0 a1 a2 a3)],[])
 | _ => none
theorem vs_NoteOk (a0:Int) (a1:Int) (a2:List ByteArray) (a3:tL4):collapseH .std Es_NoteOk Os_NoteOk_2 (execFn Es_NoteOk Tryz.f134 mss_NoteOk [.val true [.int .i64 a0,.int .i64 a1,.sl .any 9 .str a2,.sl .any 155 (.pair .str (.pair .bool (.sl 3 (.int .i64)))) a3]]) = some ((g_As_NoteOk a0 a1 a2 a3),.val false [.bool (g_Vs_NoteOk_0 a0 a1 a2 a3)],[]) := by kernel_rfl
theorem ss_NoteOk:Sound Tryz.prog 134 mss_NoteOk Fs_NoteOk := by
 refine fn_gen goods_NoteOk (by kernel_rfl) .std (fn := Tryz.f134) (c := (Tryz.f134.body.getD .skip)) (o := Os_NoteOk_2) (k := 2) (by kernel_rfl) (by kernel_rfl) (by kernel_rfl) (by kernel_rfl) (by decide) ks_NoteOk_2 ?_
 intro ys r outs h
 unfold Fs_NoteOk at h
 split at h
 ·exact (vs_NoteOk _ _ _ _).trans h
 ·cases h
noncomputable def Es_DiskOk:Env where
 tt := mkTI Tryz.prog
 fn := fun f => match f with
  | 55 => some (mss_l1In,FSem.wk mss_l1In Fs_l1In)
  | 134 => some (mss_NoteOk,FSem.wk mss_NoteOk Fs_NoteOk)
  | _ => none
 bxf := fun _ => none
 mv := []
 keep := fun b => match b with
  | 0 => [(1,false),(3,false)]
  | _ => []
 keepB := fun b => match b with
  | 0 => [(1,false)]
  | _ => []
 keepX := fun b => match b with
  | 0 => [(2,false)]
  | _ => []
 keepXB := fun b => match b with
  | 0 => []
  | _ => []
theorem goodFs_DiskOk:∀ f ms F,Es_DiskOk.fn f = some (ms,F) → Sound Tryz.prog f ms F := fun f ms F h => by
 unfold Es_DiskOk at h
 dsimp only at h
 split at h
 ·exact gF ss_l1In h
 ·exact gF ss_NoteOk h
 ·cases h
theorem goods_DiskOk:Good Tryz.prog Es_DiskOk := ⟨rfl,goodFs_DiskOk,fun f ms F h => by cases h⟩
noncomputable def Os_DiskOk_0:Orc := fun _ _ => none
noncomputable def mss_DiskOk:List PM := [.rd]
noncomputable def lss_DiskOk:List (Nat×Code) := loopsAll 0 (Tryz.f90.body.getD .skip)
noncomputable def cs_DiskOk_0:Code := (loopOf 0 (Tryz.f90.body.getD .skip)).getD .skip
theorem lseqs_DiskOk:lss_DiskOk = [(0,cs_DiskOk_0)] := by kernel_rfl
theorem ms_DiskOk_0:∀ p,p ∈ lss_DiskOk → p.1 = 0 → p.2 = cs_DiskOk_0 := by
 intro p hp
 rw [lseqs_DiskOk] at hp
 simp only [List.mem_cons,List.not_mem_nil,or_false] at hp
 subst hp; simp
theorem ks_DiskOk_0:OrcOk Es_DiskOk Os_DiskOk_0 lss_DiskOk 0 := orcOk_none
noncomputable def hs_DiskOk_0 (y0:Int) (y1:tL0) (y2:Int):List (Pl×LV) := [(.T 1,.t (.val false [.ptr 1 0 0])),(.T 3,.t (.val false [.int .i64 y0])),(.B 1,.b 0 false [.sl .any 92 (.pair (.int .i64) (.pair (.int .i64) (.pair (.sl 9 .str) (.sl 155 (.pair .str (.pair .bool (.sl 3 (.int .i64)))))))) y1,.int .i64 y2])]
noncomputable def g_Ss_DiskOk_0 (y1:tL0) (y2:Int):(Int) → RT (Int) ((Bool) ⊕ (Unit))
 | y0 => .br (true) (.br (decide (y0 < (y1.length:Int))) (.br (decide (0 ≤ y0 ∧ y0 < (y1.length:Int))) (.br (g_As_NoteOk (at_ yT3 y1 (Int.toNat y0)).1 (at_ yT3 y1 (Int.toNat y0)).2.1 (at_ yT3 y1 (Int.toNat y0)).2.2.1 (at_ yT3 y1 (Int.toNat y0)).2.2.2) (.br (!g_Vs_NoteOk_0 (at_ yT3 y1 (Int.toNat y0)).1 (at_ yT3 y1 (Int.toNat y0)).2.1 (at_ yT3 y1 (Int.toNat y0)).2.2.1 (at_ yT3 y1 (Int.toNat y0)).2.2.2) (.out (.inl false)) (.br (true) (.go (IntKind.i64.wrap (y0 + 1))) .bad)) .bad) .bad) (.out (.inr (())))) .bad
noncomputable def g_Ls_DiskOk_0 (y1:tL0) (y2:Int) (x:Int):Option ((Bool) ⊕ (Unit)) := loopO (g_Ss_DiskOk_0 y1 y2) x
noncomputable def xs_DiskOk_0 (y1:tL0) (y2:Int):((Bool) ⊕ (Unit)) → Ex×List (Pl×LV) := fun
 | .inl r => (.ret,[(.T 2,.t (.val false [.bool r]))])
 | .inr (r) => (.exit 0,[(.T 2,.t (.val false [.undef]))])
noncomputable def Os_DiskOk_1:Orc := fun b h => match b,h with
 | 0,[(.T 1,.t (.val false [.ptr 1 0 0])),(.T 3,.t (.val false [.int .i64 y0])),(.B 1,.b 0 false [.sl .any 92 (.pair (.int .i64) (.pair (.int .i64) (.pair (.sl 9 .str) (.sl 155 (.pair .str (.pair .bool (.sl 3 (.int .i64)))))))) y1,.int .i64 y2])] => some (okO (g_Ls_DiskOk_0 y1 y2 y0),(.br (isL (valO (g_Ls_DiskOk_0 y1 y2 y0))) (.leaf .ret [(.T 2,.t (.val false [.bool (getL (valO (g_Ls_DiskOk_0 y1 y2 y0)))]))]) (.leaf (.exit 0) [(.T 2,.t (.val false [.undef]))])))
 | b,h => Os_DiskOk_0 b h
theorem bs_DiskOk_0 (y0:Int) (y1:tL0) (y2:Int):Tr.bt Es_DiskOk Os_DiskOk_0 (exec Es_DiskOk 0 cs_DiskOk_0 (St.of (hs_DiskOk_0 y0 y1 y2)) (leafRd Es_DiskOk 0)) = (g_Ss_DiskOk_0 y1 y2 y0).bt (fun (y0:Int) => (hs_DiskOk_0 y0 y1 y2)) (xs_DiskOk_0 y1 y2) := by kernel_rfl
theorem ks_DiskOk_1:OrcOk Es_DiskOk Os_DiskOk_1 lss_DiskOk 1 := orc_add ks_DiskOk_0 (fun n p hp h ex h' ho => by
 obtain ⟨b,c⟩ := p
 obtain ⟨xt,h1,h2⟩ := ho
 have h1:Os_DiskOk_1 b h = some (true,xt) := h1
 unfold Os_DiskOk_1 at h1
 split at h1
 ·injection h1 with h1
  injection h1 with e1 e2
  subst e2
  have hc:c = cs_DiskOk_0 := ms_DiskOk_0 _ hp rfl
  subst hc
  right
  rename_i y0 y1 y2
  have key := LT_step ks_DiskOk_0 hp (fun q hq => loopsAll_in _ _ _ _ hp hq) (fun (y0:Int) => (hs_DiskOk_0 y0 y1 y2)) (xs_DiskOk_0 y1 y2) (g_Ss_DiskOk_0 y1 y2) (fun x => by first | exact bs_DiskOk_0 x y1 y2) n (x := y0) (okO_some e1)
  have hx:∀ r,XT.sel (.br (isL r) (.leaf .ret [(.T 2,.t (.val false [.bool (getL r)]))]) (.leaf (.exit 0) [(.T 2,.t (.val false [.undef]))])) = xs_DiskOk_0 y1 y2 r := fun r => by first | rfl | rcases r with r | r <;> rfl | rcases r with r | r | r <;> rfl | rcases r with r | r | r | r <;> rfl
  have h3 := (hx (valO (g_Ls_DiskOk_0 y1 y2 y0))).symm.trans h2
  have e3 := congrArg Prod.fst h3
  have e4 := congrArg Prod.snd h3
  simp only at e3 e4
  rw [← e3,← e4]
  exact key
 ·exact .inl ⟨xt,h1,h2⟩)
noncomputable def g_As_DiskOk (a0:tL0) (a1:Int):Bool := decide ((a0.length:Int) > 120) || g_As_l1In a1 (0:Int) (a0.length:Int)&&(!g_Vs_l1In_0 a1 (0:Int) (a0.length:Int) || okO (g_Ls_DiskOk_0 a0 a1 (0:Int)))
noncomputable def g_Vs_DiskOk_0 (a0:tL0) (a1:Int):Bool := bif decide ((a0.length:Int) > 120) then false else bif !g_Vs_l1In_0 a1 (0:Int) (a0.length:Int) then false else bif isL (valO (g_Ls_DiskOk_0 a0 a1 (0:Int))) then getL (valO (g_Ls_DiskOk_0 a0 a1 (0:Int))) else true
noncomputable def Fs_DiskOk:FSem := fun ys => match ys with
 | [.val true [.sl .any 92 (.pair (.int .i64) (.pair (.int .i64) (.pair (.sl 9 .str) (.sl 155 (.pair .str (.pair .bool (.sl 3 (.int .i64)))))))) a0,.int .i64 a1]] => some ((g_As_DiskOk a0 a1),.val false [.bool (g_Vs_DiskOk_0 a0 a1)],[])
 | _ => none
theorem vs_DiskOk (a0:tL0) (a1:Int):collapseH .std Es_DiskOk Os_DiskOk_1 (execFn Es_DiskOk Tryz.f90 mss_DiskOk [.val true [.sl .any 92 (.pair (.int .i64) (.pair (.int .i64) (.pair (.sl 9 .str) (.sl 155 (.pair .str (.pair .bool (.sl 3 (.int .i64)))))))) a0,.int .i64 a1]]) = some ((g_As_DiskOk a0 a1),.val false [.bool (g_Vs_DiskOk_0 a0 a1)],[]) := by kernel_rfl
theorem ss_DiskOk:Sound Tryz.prog 90 mss_DiskOk Fs_DiskOk := by
 refine fn_gen goods_DiskOk (by kernel_rfl) .std (fn := Tryz.f90) (c := (Tryz.f90.body.getD .skip)) (o := Os_DiskOk_1) (k := 1) (by kernel_rfl) (by kernel_rfl) (by kernel_rfl) (by kernel_rfl) (by decide) ks_DiskOk_1 ?_
 intro ys r outs h
 unfold Fs_DiskOk at h
 split at h
 ·exact (vs_DiskOk _ _).trans h
 ·cases h
noncomputable def Es_OpOk:Env where
 tt := mkTI Tryz.prog
 fn := fun f => match f with
  | 55 => some (mss_l1In,FSem.wk mss_l1In Fs_l1In)
  | _ => none
 bxf := fun _ => none
 mv := []
 keep := fun _ => []
 keepB := fun _ => []
 keepX := fun _ => []
 keepXB := fun _ => []
theorem goodFs_OpOk:∀ f ms F,Es_OpOk.fn f = some (ms,F) → Sound Tryz.prog f ms F := fun f ms F h => by
 unfold Es_OpOk at h
 dsimp only at h
 split at h
 ·exact gF ss_l1In h
 ·cases h
theorem goods_OpOk:Good Tryz.prog Es_OpOk := ⟨rfl,goodFs_OpOk,fun f ms F h => by cases h⟩
noncomputable def Os_OpOk_0:Orc := fun _ _ => none
noncomputable def mss_OpOk:List PM := [.own]
noncomputable def lss_OpOk:List (Nat×Code) := loopsAll 0 (Tryz.f56.body.getD .skip)
theorem ks_OpOk_0:OrcOk Es_OpOk Os_OpOk_0 lss_OpOk 0 := orcOk_none
noncomputable def g_As_OpOk (a0:Int) (a1:Int) (a2:Int) (a3:Int) (a4:Int) (a5:Int) (a6:Int):Bool := g_As_l1In a1 (0:Int) (9:Int)&&(!g_Vs_l1In_0 a1 (0:Int) (9:Int) || g_As_l1In a2 (0:Int) (9:Int)&&(!g_Vs_l1In_0 a2 (0:Int) (9:Int) || g_As_l1In a3 (0:Int) (9:Int)&&(!g_Vs_l1In_0 a3 (0:Int) (9:Int) || g_As_l1In a4 (0:Int) (99:Int)&&(!g_Vs_l1In_0 a4 (0:Int) (99:Int) || g_As_l1In a5 (0:Int) (9:Int)&&(!g_Vs_l1In_0 a5 (0:Int) (9:Int) || g_As_l1In a6 (0:Int) (99:Int)&&(!g_Vs_l1In_0 a6 (0:Int) (99:Int) || bif a0 == 1 then bif a0 == 1 then !a3 == 0 || (!a4 == 0 || (!a5 == 0 || true)) else bif a0 == 2 then !a5 == 0 || true else bif a0 == 3 then !a1 == 0 || (!a2 == 0 || true) else !a0 == 4 || (!a1 == 0 || (!a2 == 0 || (!a3 == 0 || true))) else bif a0 == 5 then !a3 == 0 || (!a4 == 0 || (!a5 == 0 || true)) else bif a0 == 2 then !a5 == 0 || true else bif a0 == 3 then !a1 == 0 || (!a2 == 0 || true) else !a0 == 4 || (!a1 == 0 || (!a2 == 0 || (!a3 == 0 || true)))))))))
noncomputable def g_Vs_OpOk_0 (a0:Int) (a1:Int) (a2:Int) (a3:Int) (a4:Int) (a5:Int) (a6:Int):Bool := bif !g_Vs_l1In_0 a1 (0:Int) (9:Int) then false else bif !g_Vs_l1In_0 a2 (0:Int) (9:Int) then false else bif !g_Vs_l1In_0 a3 (0:Int) (9:Int) then false else bif !g_Vs_l1In_0 a4 (0:Int) (99:Int) then false else bif !g_Vs_l1In_0 a5 (0:Int) (9:Int) then false else bif !g_Vs_l1In_0 a6 (0:Int) (99:Int) then false else bif a0 == 1 then bif a0 == 1 then bif a3 == 0 then bif a4 == 0 then bif a5 == 0 then a6 == 0 else false else false else false else bif a0 == 2 then bif a5 == 0 then a6 == 0 else false else bif a0 == 3 then bif a1 == 0 then bif a2 == 0 then a6 == 0 else false else false else bif a0 == 4 then bif a1 == 0 then bif a2 == 0 then bif a3 == 0 then a4 == 0 else false else false else false else false else bif a0 == 5 then bif a3 == 0 then bif a4 == 0 then bif a5 == 0 then a6 == 0 else false else false else false else bif a0 == 2 then bif a5 == 0 then a6 == 0 else false else bif a0 == 3 then bif a1 == 0 then bif a2 == 0 then a6 == 0 else false else false else bif a0 == 4 then bif a1 == 0 then bif a2 == 0 then bif a3 == 0 then a4 == 0 else false else false else false else false
noncomputable def Fs_OpOk:FSem := fun ys => match ys with
 | [.val true [.int .i64 a0,.int .i64 a1,.int .i64 a2,.int .i64 a3,.int .i64 a4,.int .i64 a5,.int .i64 a6]] => some ((g_As_OpOk a0 a1 a2 a3 a4 a5 a6),.val false [.bool (g_Vs_OpOk_0 a0 a1 a2 a3 a4 a5 a6)],[])
 | _ => none
theorem vs_OpOk (a0:Int) (a1:Int) (a2:Int) (a3:Int) (a4:Int) (a5:Int) (a6:Int):collapseH .std Es_OpOk Os_OpOk_0 (execFn Es_OpOk Tryz.f56 mss_OpOk [.val true [.int .i64 a0,.int .i64 a1,.int .i64 a2,.int .i64 a3,.int .i64 a4,.int .i64 a5,.int .i64 a6]]) = some ((g_As_OpOk a0 a1 a2 a3 a4 a5 a6),.val false [.bool (g_Vs_OpOk_0 a0 a1 a2 a3 a4 a5 a6)],[]) := by kernel_rfl
theorem ss_OpOk:Sound Tryz.prog 56 mss_OpOk Fs_OpOk := by
 refine fn_gen goods_OpOk (by kernel_rfl) .std (fn := Tryz.f56) (c := (Tryz.f56.body.getD .skip)) (o := Os_OpOk_0) (k := 0) (by kernel_rfl) (by kernel_rfl) (by kernel_rfl) (by kernel_rfl) (by decide) ks_OpOk_0 ?_
 intro ys r outs h
 unfold Fs_OpOk at h
 split at h
 ·exact (vs_OpOk _ _ _ _ _ _ _).trans h
 ·cases h
noncomputable def Es_l2Of:Env where
 tt := mkTI Tryz.prog
 fn := fun _ => none
 bxf := fun _ => none
 mv := []
 keep := fun b => match b with
  | 0 => [(0,false),(1,false),(5,false),(6,false)]
  | _ => []
 keepB := fun b => match b with
  | 0 => []
  | _ => []
 keepX := fun b => match b with
  | 0 => [(5,false)]
  | _ => []
 keepXB := fun b => match b with
  | 0 => []
  | _ => []
theorem goodFs_l2Of:∀ f ms F,Es_l2Of.fn f = some (ms,F) → Sound Tryz.prog f ms F := fun f ms F h => by cases h
theorem goods_l2Of:Good Tryz.prog Es_l2Of := ⟨rfl,goodFs_l2Of,fun f ms F h => by cases h⟩
noncomputable def Os_l2Of_0:Orc := fun _ _ => none
noncomputable def mss_l2Of:List PM := [.rd,.own]
noncomputable def lss_l2Of:List (Nat×Code) := loopsAll 0 (Tryz.f47.body.getD .skip)
noncomputable def cs_l2Of_0:Code := (loopOf 0 (Tryz.f47.body.getD .skip)).getD .skip
theorem lseqs_l2Of:lss_l2Of = [(0,cs_l2Of_0)] := by kernel_rfl
theorem ms_l2Of_0:∀ p,p ∈ lss_l2Of → p.1 = 0 → p.2 = cs_l2Of_0 := by
 intro p hp
 rw [lseqs_l2Of] at hp
 simp only [List.mem_cons,List.not_mem_nil,or_false] at hp
 subst hp; simp
theorem ks_l2Of_0:OrcOk Es_l2Of Os_l2Of_0 lss_l2Of 0 := orcOk_none
noncomputable def hs_l2Of_0 (y0:tL0) (y1:Int) (y2:Int) (y3:Int):List (Pl×LV) := [(.T 0,.t (.val false [.sl .any 92 (.pair (.int .i64) (.pair (.int .i64) (.pair (.sl 9 .str) (.sl 155 (.pair .str (.pair .bool (.sl 3 (.int .i64)))))))) y0])),(.T 1,.t (.val false [.int .i64 y1])),(.T 5,.t (.val false [.int .i64 y2])),(.T 6,.t (.val false [.int .i64 y3]))]
noncomputable def g_Ss_l2Of_0 (y0:tL0) (y1:Int):(Int×Int) → RT (Int×Int) ((Int))
 | (y2,y3) => .br (true) (.br (decide (y3 < (y0.length:Int))) (.br (decide (0 ≤ y3 ∧ y3 < (y0.length:Int))) (.br (true) (.br ((at_ yT3 y0 (Int.toNat y3)).2.1 == y1) (.br (decide (0 ≤ y3 ∧ y3 < (y0.length:Int))) (.br (true) (.br ((at_ yT3 y0 (Int.toNat y3)).1 != 4) (.br (decide (0 ≤ y3 ∧ y3 < (y0.length:Int))) (.br (true) (.go (((at_ yT3 y0 (Int.toNat y3)).1,IntKind.i64.wrap (y3 + 1)))) .bad) .bad) (.br (true) (.go ((y2,IntKind.i64.wrap (y3 + 1)))) .bad)) .bad) .bad) (.br (true) (.go ((y2,IntKind.i64.wrap (y3 + 1)))) .bad)) .bad) .bad) (.out (y2))) .bad
noncomputable def g_Ls_l2Of_0 (y0:tL0) (y1:Int) (x:Int×Int):Option ((Int)) := loopO (g_Ss_l2Of_0 y0 y1) x
noncomputable def xs_l2Of_0 (y0:tL0) (y1:Int):((Int)) → Ex×List (Pl×LV) := fun r => (.exit 0,[(.T 5,.t (.val false [.int .i64 r]))])
noncomputable def Os_l2Of_1:Orc := fun b h => match b,h with
 | 0,[(.T 0,.t (.val false [.sl .any 92 (.pair (.int .i64) (.pair (.int .i64) (.pair (.sl 9 .str) (.sl 155 (.pair .str (.pair .bool (.sl 3 (.int .i64)))))))) y0])),(.T 1,.t (.val false [.int .i64 y1])),(.T 5,.t (.val false [.int .i64 y2])),(.T 6,.t (.val false [.int .i64 y3]))] => some (okO (g_Ls_l2Of_0 y0 y1 (y2,y3)),(.leaf (.exit 0) [(.T 5,.t (.val false [.int .i64 (valO (g_Ls_l2Of_0 y0 y1 (y2,y3)))]))]))
 | b,h => Os_l2Of_0 b h
theorem bs_l2Of_0 (y0:tL0) (y1:Int) (y2:Int) (y3:Int):Tr.bt Es_l2Of Os_l2Of_0 (exec Es_l2Of 0 cs_l2Of_0 (St.of (hs_l2Of_0 y0 y1 y2 y3)) (leafRd Es_l2Of 0)) = (g_Ss_l2Of_0 y0 y1 (y2,y3)).bt (fun ((y2,y3):Int×Int) => (hs_l2Of_0 y0 y1 y2 y3)) (xs_l2Of_0 y0 y1) := by kernel_rfl
theorem ks_l2Of_1:OrcOk Es_l2Of Os_l2Of_1 lss_l2Of 1 := orc_add ks_l2Of_0 (fun n p hp h ex h' ho => by
 obtain ⟨b,c⟩ := p
 obtain ⟨xt,h1,h2⟩ := ho
 have h1:Os_l2Of_1 b h = some (true,xt) := h1
 unfold Os_l2Of_1 at h1
 split at h1
 ·injection h1 with h1
  injection h1 with e1 e2
  subst e2
  have hc:c = cs_l2Of_0 := ms_l2Of_0 _ hp rfl
  subst hc
  right
  rename_i y0 y1 y2 y3
  have key := LT_step ks_l2Of_0 hp (fun q hq => loopsAll_in _ _ _ _ hp hq) (fun ((y2,y3):Int×Int) => (hs_l2Of_0 y0 y1 y2 y3)) (xs_l2Of_0 y0 y1) (g_Ss_l2Of_0 y0 y1) (fun x => by first | exact bs_l2Of_0 y0 y1 x.1 x.2) n (x := (y2,y3)) (okO_some e1)
  have hx:∀ r,XT.sel (.leaf (.exit 0) [(.T 5,.t (.val false [.int .i64 r]))]) = xs_l2Of_0 y0 y1 r := fun r => by first | rfl | rcases r with r | r <;> rfl | rcases r with r | r | r <;> rfl | rcases r with r | r | r | r <;> rfl
  have h3 := (hx (valO (g_Ls_l2Of_0 y0 y1 (y2,y3)))).symm.trans h2
  have e3 := congrArg Prod.fst h3
  have e4 := congrArg Prod.snd h3
  simp only at e3 e4
  rw [← e3,← e4]
  exact key
 ·exact .inl ⟨xt,h1,h2⟩)
noncomputable def g_As_l2Of (a0:tL0) (a1:Int):Bool := okO (g_Ls_l2Of_0 a0 a1 ((0:Int),(0:Int)))
noncomputable def g_Vs_l2Of_0 (a0:tL0) (a1:Int):Int := valO (g_Ls_l2Of_0 a0 a1 ((0:Int),(0:Int)))
noncomputable def Fs_l2Of:FSem := fun ys => match ys with
 | [.val false [.sl .any 92 (.pair (.int .i64) (.pair (.int .i64) (.pair (.sl 9 .str) (.sl 155 (.pair .str (.pair .bool (.sl 3 (.int .i64)))))))) a0],.val false [.int .i64 a1]] => some ((g_As_l2Of a0 a1),.val false [.int .i64 (g_Vs_l2Of_0 a0 a1)],[])
 | _ => none
theorem vs_l2Of (a0:tL0) (a1:Int):collapseH .std Es_l2Of Os_l2Of_1 (execFn Es_l2Of Tryz.f47 mss_l2Of [.val false [.sl .any 92 (.pair (.int .i64) (.pair (.int .i64) (.pair (.sl 9 .str) (.sl 155 (.pair .str (.pair .bool (.sl 3 (.int .i64)))))))) a0],.val false [.int .i64 a1]]) = some ((g_As_l2Of a0 a1),.val false [.int .i64 (g_Vs_l2Of_0 a0 a1)],[]) := by kernel_rfl
theorem ss_l2Of:Sound Tryz.prog 47 mss_l2Of Fs_l2Of := by
 refine fn_gen goods_l2Of (by kernel_rfl) .std (fn := Tryz.f47) (c := (Tryz.f47.body.getD .skip)) (o := Os_l2Of_1) (k := 1) (by kernel_rfl) (by kernel_rfl) (by kernel_rfl) (by kernel_rfl) (by decide) ks_l2Of_1 ?_
 intro ys r outs h
 unfold Fs_l2Of at h
 split at h
 ·exact (vs_l2Of _ _).trans h
 ·cases h
noncomputable def EZ70:Env where
 tt := mkTI Tryz.prog
 fn := fun f => match f with
  | 55 => some (mss_l1In,FSem.wk mss_l1In Fs_l1In)
  | _ => none
 bxf := fun _ => none
 mv := []
 keep := fun b => match b with
  | 0 => [(0,false),(3,false)]
  | _ => []
 keepB := fun b => match b with
  | 0 => []
  | _ => []
 keepX := fun b => match b with
  | 0 => [(2,false)]
  | _ => []
 keepXB := fun b => match b with
  | 0 => []
  | _ => []
theorem goodFZ70:∀ f ms F,EZ70.fn f = some (ms,F) → Sound Tryz.prog f ms F := fun f ms F h => by
 unfold EZ70 at h
 dsimp only at h
 split at h
 ·exact gF ss_l1In h
 ·cases h
theorem goodZ70:Good Tryz.prog EZ70 := ⟨rfl,goodFZ70,fun f ms F h => by cases h⟩
noncomputable def OZ70_0:Orc := fun _ _ => none
noncomputable def msZ70:List PM := [.rd]
noncomputable def lsZ70:List (Nat×Code) := loopsAll 0 (Tryz.f91.body.getD .skip)
noncomputable def cZ70_0:Code := (loopOf 0 (Tryz.f91.body.getD .skip)).getD .skip
theorem lseqZ70:lsZ70 = [(0,cZ70_0)] := by kernel_rfl
theorem mZ70_0:∀ p,p ∈ lsZ70 → p.1 = 0 → p.2 = cZ70_0 := by
 intro p hp
 rw [lseqZ70] at hp
 simp only [List.mem_cons,List.not_mem_nil,or_false] at hp
 subst hp; simp
theorem kZ70_0:OrcOk EZ70 OZ70_0 lsZ70 0 := orcOk_none
noncomputable def hZ70_0 (y0:List Int) (y1:Int):List (Pl×LV) := [(.T 0,.t (.val false [.sl .any 3 (.int .i64) y0])),(.T 3,.t (.val false [.int .i64 y1]))]
noncomputable def g_SZ70_0 (y0:List Int):(Int) → RT (Int) ((Bool) ⊕ (Unit))
 | y1 => .br (true) (.br (decide (y1 < (y0.length:Int))) (.br (decide (0 ≤ y1 ∧ y1 < (y0.length:Int))) (.br (g_As_l1In (at_ (.int .i64) y0 (Int.toNat y1)) (1:Int) (3:Int)) (.br (!g_Vs_l1In_0 (at_ (.int .i64) y0 (Int.toNat y1)) (1:Int) (3:Int)) (.out (.inl false)) (.br (true) (.br (decide (y1 > 0)) (.br (true) (.br (decide (0 ≤ IntKind.i64.wrap (y1 - 1) ∧ IntKind.i64.wrap (y1 - 1) < (y0.length:Int))) (.br (decide (0 ≤ y1 ∧ y1 < (y0.length:Int))) (.br (true) (.br (decide (at_ (.int .i64) y0 (Int.toNat (IntKind.i64.wrap (y1 - 1))) ≥ at_ (.int .i64) y0 (Int.toNat y1))) (.out (.inl false)) (.br (true) (.go (IntKind.i64.wrap (y1 + 1))) .bad)) .bad) .bad) .bad) .bad) (.br (true) (.go (IntKind.i64.wrap (y1 + 1))) .bad)) .bad)) .bad) .bad) (.out (.inr (())))) .bad
noncomputable def g_LZ70_0 (y0:List Int) (x:Int):Option ((Bool) ⊕ (Unit)) := loopO (g_SZ70_0 y0) x
noncomputable def xZ70_0 (y0:List Int):((Bool) ⊕ (Unit)) → Ex×List (Pl×LV) := fun
 | .inl r => (.ret,[(.T 2,.t (.val false [.bool r]))])
 | .inr (r) => (.exit 0,[(.T 2,.t (.val false [.undef]))])
noncomputable def OZ70_1:Orc := fun b h => match b,h with
 | 0,[(.T 0,.t (.val false [.sl .any 3 (.int .i64) y0])),(.T 3,.t (.val false [.int .i64 y1]))] => some (okO (g_LZ70_0 y0 y1),(.br (isL (valO (g_LZ70_0 y0 y1))) (.leaf .ret [(.T 2,.t (.val false [.bool (getL (valO (g_LZ70_0 y0 y1)))]))]) (.leaf (.exit 0) [(.T 2,.t (.val false [.undef]))])))
 | b,h => OZ70_0 b h
theorem bZ70_0 (y0:List Int) (y1:Int):Tr.bt EZ70 OZ70_0 (exec EZ70 0 cZ70_0 (St.of (hZ70_0 y0 y1)) (leafRd EZ70 0)) = (g_SZ70_0 y0 y1).bt (fun (y1:Int) => (hZ70_0 y0 y1)) (xZ70_0 y0) := by kernel_rfl
theorem kZ70_1:OrcOk EZ70 OZ70_1 lsZ70 1 := orc_add kZ70_0 (fun n p hp h ex h' ho => by
 obtain ⟨b,c⟩ := p
 obtain ⟨xt,h1,h2⟩ := ho
 have h1:OZ70_1 b h = some (true,xt) := h1
 unfold OZ70_1 at h1
 split at h1
 ·injection h1 with h1
  injection h1 with e1 e2
  subst e2
  have hc:c = cZ70_0 := mZ70_0 _ hp rfl
  subst hc
  right
  rename_i y0 y1
  have key := LT_step kZ70_0 hp (fun q hq => loopsAll_in _ _ _ _ hp hq) (fun (y1:Int) => (hZ70_0 y0 y1)) (xZ70_0 y0) (g_SZ70_0 y0) (fun x => by first | exact bZ70_0 y0 x) n (x := y1) (okO_some e1)
  have hx:∀ r,XT.sel (.br (isL r) (.leaf .ret [(.T 2,.t (.val false [.bool (getL r)]))]) (.leaf (.exit 0) [(.T 2,.t (.val false [.undef]))])) = xZ70_0 y0 r := fun r => by first | rfl | rcases r with r | r <;> rfl | rcases r with r | r | r <;> rfl | rcases r with r | r | r | r <;> rfl
  have h3 := (hx (valO (g_LZ70_0 y0 y1))).symm.trans h2
  have e3 := congrArg Prod.fst h3
  have e4 := congrArg Prod.snd h3
  simp only at e3 e4
  rw [← e3,← e4]
  exact key
 ·exact .inl ⟨xt,h1,h2⟩)
noncomputable def g_AZ70 (a0:List Int):Bool := okO (g_LZ70_0 a0 (0:Int))
noncomputable def g_VZ70_0 (a0:List Int):Bool := bif isL (valO (g_LZ70_0 a0 (0:Int))) then getL (valO (g_LZ70_0 a0 (0:Int))) else true
noncomputable def FZ70:FSem := fun ys => match ys with
 | [.val false [.sl .any 3 (.int .i64) a0]] => some ((g_AZ70 a0),.val false [.bool (g_VZ70_0 a0)],[])
 | _ => none
theorem vZ70 (a0:List Int):collapseH .std EZ70 OZ70_1 (execFn EZ70 Tryz.f91 msZ70 [.val false [.sl .any 3 (.int .i64) a0]]) = some ((g_AZ70 a0),.val false [.bool (g_VZ70_0 a0)],[]) := by kernel_rfl
theorem sZ70:Sound Tryz.prog 91 msZ70 FZ70 := by
 refine fn_gen goodZ70 (by kernel_rfl) .std (fn := Tryz.f91) (c := (Tryz.f91.body.getD .skip)) (o := OZ70_1) (k := 1) (by kernel_rfl) (by kernel_rfl) (by kernel_rfl) (by kernel_rfl) (by decide) kZ70_1 ?_
 intro ys r outs h
 unfold FZ70 at h
 split at h
 ·exact (vZ70 _).trans h
 ·cases h
noncomputable def Es_FroOk:Env where
 tt := mkTI Tryz.prog
 fn := fun f => match f with
  | 47 => some (mss_l2Of,FSem.wk mss_l2Of Fs_l2Of)
  | 55 => some (mss_l1In,FSem.wk mss_l1In Fs_l1In)
  | 56 => some (mss_OpOk,FSem.wk mss_OpOk Fs_OpOk)
  | 90 => some (mss_DiskOk,FSem.wk mss_DiskOk Fs_DiskOk)
  | 91 => some (msZ70,FSem.wk msZ70 FZ70)
  | _ => none
 bxf := fun _ => none
 mv := []
 keep := fun b => match b with
  | 0 => [(1,false),(3,false)]
  | 2 => [(1,false),(4,false)]
  | _ => []
 keepB := fun b => match b with
  | 0 => [(1,false)]
  | 2 => [(1,false)]
  | _ => []
 keepX := fun b => match b with
  | 0 => [(1,false),(2,false)]
  | 2 => [(2,false)]
  | _ => []
 keepXB := fun b => match b with
  | 0 => [(1,false)]
  | 2 => []
  | _ => []
theorem goodFs_FroOk:∀ f ms F,Es_FroOk.fn f = some (ms,F) → Sound Tryz.prog f ms F := fun f ms F h => by
 unfold Es_FroOk at h
 dsimp only at h
 split at h
 ·exact gF ss_l2Of h
 ·exact gF ss_l1In h
 ·exact gF ss_OpOk h
 ·exact gF ss_DiskOk h
 ·exact gF sZ70 h
 ·cases h
theorem goods_FroOk:Good Tryz.prog Es_FroOk := ⟨rfl,goodFs_FroOk,fun f ms F h => by cases h⟩
noncomputable def Os_FroOk_0:Orc := fun _ _ => none
noncomputable def mss_FroOk:List PM := [.rd]
noncomputable def lss_FroOk:List (Nat×Code) := loopsAll 0 (Tryz.f29.body.getD .skip)
noncomputable def cs_FroOk_0:Code := (loopOf 0 (Tryz.f29.body.getD .skip)).getD .skip
noncomputable def cs_FroOk_2:Code := (loopOf 2 (Tryz.f29.body.getD .skip)).getD .skip
theorem lseqs_FroOk:lss_FroOk = [(0,cs_FroOk_0),(2,cs_FroOk_2)] := by kernel_rfl
theorem ms_FroOk_0:∀ p,p ∈ lss_FroOk → p.1 = 0 → p.2 = cs_FroOk_0 := by
 intro p hp
 rw [lseqs_FroOk] at hp
 simp only [List.mem_cons,List.not_mem_nil,or_false] at hp
 rcases hp with rfl | rfl <;> simp
theorem ms_FroOk_2:∀ p,p ∈ lss_FroOk → p.1 = 2 → p.2 = cs_FroOk_2 := by
 intro p hp
 rw [lseqs_FroOk] at hp
 simp only [List.mem_cons,List.not_mem_nil,or_false] at hp
 rcases hp with rfl | rfl <;> simp
theorem ks_FroOk_0:OrcOk Es_FroOk Os_FroOk_0 lss_FroOk 0 := orcOk_none
noncomputable def hs_FroOk_0 (y0:Int) (y1:tL0) (y2:Int) (y3:tL1):List (Pl×LV) := [(.T 1,.t (.val false [.ptr 1 0 0])),(.T 3,.t (.val false [.int .i64 y0])),(.B 1,.b 0 false [.sl .any 92 (.pair (.int .i64) (.pair (.int .i64) (.pair (.sl 9 .str) (.sl 155 (.pair .str (.pair .bool (.sl 3 (.int .i64)))))))) y1,.int .i64 y2,.sl .any 73 (.pair (.int .i64) (.pair (.pair (.int .i64) (.pair (.int .i64) (.pair (.int .i64) (.pair (.int .i64) (.pair (.int .i64) (.pair (.int .i64) (.int .i64))))))) (.pair .bool (.pair (.sl 3 (.int .i64)) (.sl 3 (.int .i64)))))) y3])]
noncomputable def g_Ss_FroOk_0 (y1:tL0) (y2:Int) (y3:tL1):(Int) → RT (Int) ((Bool) ⊕ (Unit))
 | y0 => .br (true) (.br (decide (y0 < (y1.length:Int))) (.br (decide (0 ≤ y0 ∧ y0 < (y1.length:Int))) (.br (true) (.br ((at_ yT3 y1 (Int.toNat y0)).1 != 2) (.br (decide (0 ≤ y0 ∧ y0 < (y1.length:Int))) (.br (true) (.br ((at_ yT3 y1 (Int.toNat y0)).1 != 4) (.out (.inl false)) (.br (true) (.go (IntKind.i64.wrap (y0 + 1))) .bad)) .bad) .bad) (.br (true) (.go (IntKind.i64.wrap (y0 + 1))) .bad)) .bad) .bad) (.out (.inr (())))) .bad
noncomputable def g_Ls_FroOk_0 (y1:tL0) (y2:Int) (y3:tL1) (x:Int):Option ((Bool) ⊕ (Unit)) := loopO (g_Ss_FroOk_0 y1 y2 y3) x
noncomputable def xs_FroOk_0 (y1:tL0) (y2:Int) (y3:tL1):((Bool) ⊕ (Unit)) → Ex×List (Pl×LV) := fun
 | .inl r => (.ret,[(.T 1,.t (.val false [.ptr 1 0 0])),(.T 2,.t (.val false [.bool r])),(.B 1,.b 0 false [.sl .any 92 (.pair (.int .i64) (.pair (.int .i64) (.pair (.sl 9 .str) (.sl 155 (.pair .str (.pair .bool (.sl 3 (.int .i64)))))))) y1,.int .i64 y2,.sl .any 73 (.pair (.int .i64) (.pair (.pair (.int .i64) (.pair (.int .i64) (.pair (.int .i64) (.pair (.int .i64) (.pair (.int .i64) (.pair (.int .i64) (.int .i64))))))) (.pair .bool (.pair (.sl 3 (.int .i64)) (.sl 3 (.int .i64)))))) y3])])
 | .inr (r) => (.exit 0,[(.T 1,.t (.val false [.ptr 1 0 0])),(.T 2,.t (.val false [.undef])),(.B 1,.b 0 false [.sl .any 92 (.pair (.int .i64) (.pair (.int .i64) (.pair (.sl 9 .str) (.sl 155 (.pair .str (.pair .bool (.sl 3 (.int .i64)))))))) y1,.int .i64 y2,.sl .any 73 (.pair (.int .i64) (.pair (.pair (.int .i64) (.pair (.int .i64) (.pair (.int .i64) (.pair (.int .i64) (.pair (.int .i64) (.pair (.int .i64) (.int .i64))))))) (.pair .bool (.pair (.sl 3 (.int .i64)) (.sl 3 (.int .i64)))))) y3])])
noncomputable def Os_FroOk_1:Orc := fun b h => match b,h with
 | 0,[(.T 1,.t (.val false [.ptr 1 0 0])),(.T 3,.t (.val false [.int .i64 y0])),(.B 1,.b 0 false [.sl .any 92 (.pair (.int .i64) (.pair (.int .i64) (.pair (.sl 9 .str) (.sl 155 (.pair .str (.pair .bool (.sl 3 (.int .i64)))))))) y1,.int .i64 y2,.sl .any 73 (.pair (.int .i64) (.pair (.pair (.int .i64) (.pair (.int .i64) (.pair (.int .i64) (.pair (.int .i64) (.pair (.int .i64) (.pair (.int .i64) (.int .i64))))))) (.pair .bool (.pair (.sl 3 (.int .i64)) (.sl 3 (.int .i64)))))) y3])] => some (okO (g_Ls_FroOk_0 y1 y2 y3 y0),(.br (isL (valO (g_Ls_FroOk_0 y1 y2 y3 y0))) (.leaf .ret [(.T 1,.t (.val false [.ptr 1 0 0])),(.T 2,.t (.val false [.bool (getL (valO (g_Ls_FroOk_0 y1 y2 y3 y0)))])),(.B 1,.b 0 false [.sl .any 92 (.pair (.int .i64) (.pair (.int .i64) (.pair (.sl 9 .str) (.sl 155 (.pair .str (.pair .bool (.sl 3 (.int .i64)))))))) y1,.int .i64 y2,.sl .any 73 (.pair (.int .i64) (.pair (.pair (.int .i64) (.pair (.int .i64) (.pair (.int .i64) (.pair (.int .i64) (.pair (.int .i64) (.pair (.int .i64) (.int .i64))))))) (.pair .bool (.pair (.sl 3 (.int .i64)) (.sl 3 (.int .i64)))))) y3])]) (.leaf (.exit 0) [(.T 1,.t (.val false [.ptr 1 0 0])),(.T 2,.t (.val false [.undef])),(.B 1,.b 0 false [.sl .any 92 (.pair (.int .i64) (.pair (.int .i64) (.pair (.sl 9 .str) (.sl 155 (.pair .str (.pair .bool (.sl 3 (.int .i64)))))))) y1,.int .i64 y2,.sl .any 73 (.pair (.int .i64) (.pair (.pair (.int .i64) (.pair (.int .i64) (.pair (.int .i64) (.pair (.int .i64) (.pair (.int .i64) (.pair (.int .i64) (.int .i64))))))) (.pair .bool (.pair (.sl 3 (.int .i64)) (.sl 3 (.int .i64)))))) y3])])))
 | b,h => Os_FroOk_0 b h
theorem bs_FroOk_0 (y0:Int) (y1:tL0) (y2:Int) (y3:tL1):Tr.bt Es_FroOk Os_FroOk_0 (exec Es_FroOk 0 cs_FroOk_0 (St.of (hs_FroOk_0 y0 y1 y2 y3)) (leafRd Es_FroOk 0)) = (g_Ss_FroOk_0 y1 y2 y3 y0).bt (fun (y0:Int) => (hs_FroOk_0 y0 y1 y2 y3)) (xs_FroOk_0 y1 y2 y3) := by kernel_rfl
theorem ks_FroOk_1:OrcOk Es_FroOk Os_FroOk_1 lss_FroOk 1 := orc_add ks_FroOk_0 (fun n p hp h ex h' ho => by
 obtain ⟨b,c⟩ := p
 obtain ⟨xt,h1,h2⟩ := ho
 have h1:Os_FroOk_1 b h = some (true,xt) := h1
 unfold Os_FroOk_1 at h1
 split at h1
 ·injection h1 with h1
  injection h1 with e1 e2
  subst e2
  have hc:c = cs_FroOk_0 := ms_FroOk_0 _ hp rfl
  subst hc
  right
  rename_i y0 y1 y2 y3
  have key := LT_step ks_FroOk_0 hp (fun q hq => loopsAll_in _ _ _ _ hp hq) (fun (y0:Int) => (hs_FroOk_0 y0 y1 y2 y3)) (xs_FroOk_0 y1 y2 y3) (g_Ss_FroOk_0 y1 y2 y3) (fun x => by first | exact bs_FroOk_0 x y1 y2 y3) n (x := y0) (okO_some e1)
  have hx:∀ r,XT.sel (.br (isL r) (.leaf .ret [(.T 1,.t (.val false [.ptr 1 0 0])),(.T 2,.t (.val false [.bool (getL r)])),(.B 1,.b 0 false [.sl .any 92 (.pair (.int .i64) (.pair (.int .i64) (.pair (.sl 9 .str) (.sl 155 (.pair .str (.pair .bool (.sl 3 (.int .i64)))))))) y1,.int .i64 y2,.sl .any 73 (.pair (.int .i64) (.pair (.pair (.int .i64) (.pair (.int .i64) (.pair (.int .i64) (.pair (.int .i64) (.pair (.int .i64) (.pair (.int .i64) (.int .i64))))))) (.pair .bool (.pair (.sl 3 (.int .i64)) (.sl 3 (.int .i64)))))) y3])]) (.leaf (.exit 0) [(.T 1,.t (.val false [.ptr 1 0 0])),(.T 2,.t (.val false [.undef])),(.B 1,.b 0 false [.sl .any 92 (.pair (.int .i64) (.pair (.int .i64) (.pair (.sl 9 .str) (.sl 155 (.pair .str (.pair .bool (.sl 3 (.int .i64)))))))) y1,.int .i64 y2,.sl .any 73 (.pair (.int .i64) (.pair (.pair (.int .i64) (.pair (.int .i64) (.pair (.int .i64) (.pair (.int .i64) (.pair (.int .i64) (.pair (.int .i64) (.int .i64))))))) (.pair .bool (.pair (.sl 3 (.int .i64)) (.sl 3 (.int .i64)))))) y3])])) = xs_FroOk_0 y1 y2 y3 r := fun r => by first | rfl | rcases r with r | r <;> rfl | rcases r with r | r | r <;> rfl | rcases r with r | r | r | r <;> rfl
  have h3 := (hx (valO (g_Ls_FroOk_0 y1 y2 y3 y0))).symm.trans h2
  have e3 := congrArg Prod.fst h3
  have e4 := congrArg Prod.snd h3
  simp only at e3 e4
  rw [← e3,← e4]
  exact key
 ·exact .inl ⟨xt,h1,h2⟩)
noncomputable def hs_FroOk_2 (y0:Int) (y1:tL0) (y2:Int) (y3:tL1):List (Pl×LV) := [(.T 1,.t (.val false [.ptr 1 0 0])),(.T 4,.t (.val false [.int .i64 y0])),(.B 1,.b 0 false [.sl .any 92 (.pair (.int .i64) (.pair (.int .i64) (.pair (.sl 9 .str) (.sl 155 (.pair .str (.pair .bool (.sl 3 (.int .i64)))))))) y1,.int .i64 y2,.sl .any 73 (.pair (.int .i64) (.pair (.pair (.int .i64) (.pair (.int .i64) (.pair (.int .i64) (.pair (.int .i64) (.pair (.int .i64) (.pair (.int .i64) (.int .i64))))))) (.pair .bool (.pair (.sl 3 (.int .i64)) (.sl 3 (.int .i64)))))) y3])]
noncomputable def g_Ss_FroOk_2 (y1:tL0) (y2:Int) (y3:tL1):(Int) → RT (Int) ((Bool) ⊕ (Unit))
 | y0 => .br (true) (.br (decide (y0 < (y3.length:Int))) (.br (decide (0 ≤ y0 ∧ y0 < (y3.length:Int))) (.br (g_As_l1In (at_ yT0 y3 (Int.toNat y0)).1 (0:Int) (29:Int)) (.br (!g_Vs_l1In_0 (at_ yT0 y3 (Int.toNat y0)).1 (0:Int) (29:Int)) (.out (.inl false)) (.br (true) (.br (decide (y0 > 0)) (.br (true) (.br (decide (0 ≤ IntKind.i64.wrap (y0 - 1) ∧ IntKind.i64.wrap (y0 - 1) < (y3.length:Int))) (.br (true) (.br (decide ((at_ yT0 y3 (Int.toNat (IntKind.i64.wrap (y0 - 1)))).1 ≥ (at_ yT0 y3 (Int.toNat y0)).1)) (.out (.inl false)) (.br (g_AZ70 (at_ yT0 y3 (Int.toNat y0)).2.2.2.1) (.br (!g_VZ70_0 (at_ yT0 y3 (Int.toNat y0)).2.2.2.1) (.out (.inl false)) (.br (g_AZ70 (at_ yT0 y3 (Int.toNat y0)).2.2.2.2) (.br (!g_VZ70_0 (at_ yT0 y3 (Int.toNat y0)).2.2.2.2) (.out (.inl false)) (.br (g_As_l2Of y1 (at_ yT0 y3 (Int.toNat y0)).1) (.br (true) (.br (!(at_ yT0 y3 (Int.toNat y0)).2.2.1 == (g_Vs_l2Of_0 y1 (at_ yT0 y3 (Int.toNat y0)).1 == 2)) (.out (.inl false)) (.br (!(at_ yT0 y3 (Int.toNat y0)).2.2.1) (.br (g_As_OpOk (at_ yT0 y3 (Int.toNat y0)).2.1.1 (at_ yT0 y3 (Int.toNat y0)).2.1.2.1 (at_ yT0 y3 (Int.toNat y0)).2.1.2.2.1 (at_ yT0 y3 (Int.toNat y0)).2.1.2.2.2.1 (at_ yT0 y3 (Int.toNat y0)).2.1.2.2.2.2.1 (at_ yT0 y3 (Int.toNat y0)).2.1.2.2.2.2.2.1 (at_ yT0 y3 (Int.toNat y0)).2.1.2.2.2.2.2.2) (.br (!g_Vs_OpOk_0 (at_ yT0 y3 (Int.toNat y0)).2.1.1 (at_ yT0 y3 (Int.toNat y0)).2.1.2.1 (at_ yT0 y3 (Int.toNat y0)).2.1.2.2.1 (at_ yT0 y3 (Int.toNat y0)).2.1.2.2.2.1 (at_ yT0 y3 (Int.toNat y0)).2.1.2.2.2.2.1 (at_ yT0 y3 (Int.toNat y0)).2.1.2.2.2.2.2.1 (at_ yT0 y3 (Int.toNat y0)).2.1.2.2.2.2.2.2) (.out (.inl false)) (.br (true) (.br (decide ((↑(List.length (at_ yT0 y3 (Int.toNat y0)).2.2.2.2):Int) > 0)) (.out (.inl false)) (.br (true) (.go (IntKind.i64.wrap (y0 + 1))) .bad)) .bad)) .bad) (.br (true) (.go (IntKind.i64.wrap (y0 + 1))) .bad))) .bad) .bad)) .bad)) .bad)) .bad) .bad) .bad) (.br (g_AZ70 (at_ yT0 y3 (Int.toNat y0)).2.2.2.1) (.br (!g_VZ70_0 (at_ yT0 y3 (Int.toNat y0)).2.2.2.1) (.out (.inl false)) (.br (g_AZ70 (at_ yT0 y3 (Int.toNat y0)).2.2.2.2) (.br (!g_VZ70_0 (at_ yT0 y3 (Int.toNat y0)).2.2.2.2) (.out (.inl false)) (.br (g_As_l2Of y1 (at_ yT0 y3 (Int.toNat y0)).1) (.br (true) (.br (!(at_ yT0 y3 (Int.toNat y0)).2.2.1 == (g_Vs_l2Of_0 y1 (at_ yT0 y3 (Int.toNat y0)).1 == 2)) (.out (.inl false)) (.br (!(at_ yT0 y3 (Int.toNat y0)).2.2.1) (.br (g_As_OpOk (at_ yT0 y3 (Int.toNat y0)).2.1.1 (at_ yT0 y3 (Int.toNat y0)).2.1.2.1 (at_ yT0 y3 (Int.toNat y0)).2.1.2.2.1 (at_ yT0 y3 (Int.toNat y0)).2.1.2.2.2.1 (at_ yT0 y3 (Int.toNat y0)).2.1.2.2.2.2.1 (at_ yT0 y3 (Int.toNat y0)).2.1.2.2.2.2.2.1 (at_ yT0 y3 (Int.toNat y0)).2.1.2.2.2.2.2.2) (.br (!g_Vs_OpOk_0 (at_ yT0 y3 (Int.toNat y0)).2.1.1 (at_ yT0 y3 (Int.toNat y0)).2.1.2.1 (at_ yT0 y3 (Int.toNat y0)).2.1.2.2.1 (at_ yT0 y3 (Int.toNat y0)).2.1.2.2.2.1 (at_ yT0 y3 (Int.toNat y0)).2.1.2.2.2.2.1 (at_ yT0 y3 (Int.toNat y0)).2.1.2.2.2.2.2.1 (at_ yT0 y3 (Int.toNat y0)).2.1.2.2.2.2.2.2) (.out (.inl false)) (.br (true) (.br (decide ((↑(List.length (at_ yT0 y3 (Int.toNat y0)).2.2.2.2):Int) > 0)) (.out (.inl false)) (.br (true) (.go (IntKind.i64.wrap (y0 + 1))) .bad)) .bad)) .bad) (.br (true) (.go (IntKind.i64.wrap (y0 + 1))) .bad))) .bad) .bad)) .bad)) .bad)) .bad)) .bad) .bad) (.out (.inr (())))) .bad
noncomputable def g_Ls_FroOk_2 (y1:tL0) (y2:Int) (y3:tL1) (x:Int):Option ((Bool) ⊕ (Unit)) := loopO (g_Ss_FroOk_2 y1 y2 y3) x
noncomputable def xs_FroOk_2 (y1:tL0) (y2:Int) (y3:tL1):((Bool) ⊕ (Unit)) → Ex×List (Pl×LV) := fun
 | .inl r => (.ret,[(.T 2,.t (.val false [.bool r]))])
 | .inr (r) => (.exit 2,[(.T 2,.t (.val false [.undef]))])
noncomputable def Os_FroOk_2:Orc := fun b h => match b,h with
 | 2,[(.T 1,.t (.val false [.ptr 1 0 0])),(.T 4,.t (.val false [.int .i64 y0])),(.B 1,.b 0 false [.sl .any 92 (.pair (.int .i64) (.pair (.int .i64) (.pair (.sl 9 .str) (.sl 155 (.pair .str (.pair .bool (.sl 3 (.int .i64)))))))) y1,.int .i64 y2,.sl .any 73 (.pair (.int .i64) (.pair (.pair (.int .i64) (.pair (.int .i64) (.pair (.int .i64) (.pair (.int .i64) (.pair (.int .i64) (.pair (.int .i64) (.int .i64))))))) (.pair .bool (.pair (.sl 3 (.int .i64)) (.sl 3 (.int .i64)))))) y3])] => some (okO (g_Ls_FroOk_2 y1 y2 y3 y0),(.br (isL (valO (g_Ls_FroOk_2 y1 y2 y3 y0))) (.leaf .ret [(.T 2,.t (.val false [.bool (getL (valO (g_Ls_FroOk_2 y1 y2 y3 y0)))]))]) (.leaf (.exit 2) [(.T 2,.t (.val false [.undef]))])))
 | b,h => Os_FroOk_1 b h
theorem bs_FroOk_2 (y0:Int) (y1:tL0) (y2:Int) (y3:tL1):Tr.bt Es_FroOk Os_FroOk_1 (exec Es_FroOk 2 cs_FroOk_2 (St.of (hs_FroOk_2 y0 y1 y2 y3)) (leafRd Es_FroOk 2)) = (g_Ss_FroOk_2 y1 y2 y3 y0).bt (fun (y0:Int) => (hs_FroOk_2 y0 y1 y2 y3)) (xs_FroOk_2 y1 y2 y3) := by kernel_rfl
theorem ks_FroOk_2:OrcOk Es_FroOk Os_FroOk_2 lss_FroOk 2 := orc_add ks_FroOk_1 (fun n p hp h ex h' ho => by
 obtain ⟨b,c⟩ := p
 obtain ⟨xt,h1,h2⟩ := ho
 have h1:Os_FroOk_2 b h = some (true,xt) := h1
 unfold Os_FroOk_2 at h1
 split at h1
 ·injection h1 with h1
  injection h1 with e1 e2
  subst e2
  have hc:c = cs_FroOk_2 := ms_FroOk_2 _ hp rfl
  subst hc
  right
  rename_i y0 y1 y2 y3
  have key := LT_step ks_FroOk_1 hp (fun q hq => loopsAll_in _ _ _ _ hp hq) (fun (y0:Int) => (hs_FroOk_2 y0 y1 y2 y3)) (xs_FroOk_2 y1 y2 y3) (g_Ss_FroOk_2 y1 y2 y3) (fun x => by first | exact bs_FroOk_2 x y1 y2 y3) n (x := y0) (okO_some e1)
  have hx:∀ r,XT.sel (.br (isL r) (.leaf .ret [(.T 2,.t (.val false [.bool (getL r)]))]) (.leaf (.exit 2) [(.T 2,.t (.val false [.undef]))])) = xs_FroOk_2 y1 y2 y3 r := fun r => by first | rfl | rcases r with r | r <;> rfl | rcases r with r | r | r <;> rfl | rcases r with r | r | r | r <;> rfl
  have h3 := (hx (valO (g_Ls_FroOk_2 y1 y2 y3 y0))).symm.trans h2
  have e3 := congrArg Prod.fst h3
  have e4 := congrArg Prod.snd h3
  simp only at e3 e4
  rw [← e3,← e4]
  exact key
 ·exact .inl ⟨xt,h1,h2⟩)
noncomputable def g_As_FroOk (a0:tL0) (a1:Int) (a2:tL1):Bool := g_As_DiskOk a0 a1&&(!g_Vs_DiskOk_0 a0 a1 || (decide ((a2.length:Int) > 30) || okO (g_Ls_FroOk_0 a0 a1 a2 (0:Int))&&(isL (valO (g_Ls_FroOk_0 a0 a1 a2 (0:Int))) || okO (g_Ls_FroOk_2 a0 a1 a2 (0:Int)))))
noncomputable def g_Vs_FroOk_0 (a0:tL0) (a1:Int) (a2:tL1):Bool := bif !g_Vs_DiskOk_0 a0 a1 then false else bif decide ((a2.length:Int) > 30) then false else bif isL (valO (g_Ls_FroOk_0 a0 a1 a2 (0:Int))) then getL (valO (g_Ls_FroOk_0 a0 a1 a2 (0:Int))) else bif isL (valO (g_Ls_FroOk_2 a0 a1 a2 (0:Int))) then getL (valO (g_Ls_FroOk_2 a0 a1 a2 (0:Int))) else true
noncomputable def Fs_FroOk:FSem := fun ys => match ys with
 | [.val true [.sl .any 92 (.pair (.int .i64) (.pair (.int .i64) (.pair (.sl 9 .str) (.sl 155 (.pair .str (.pair .bool (.sl 3 (.int .i64)))))))) a0,.int .i64 a1,.sl .any 73 (.pair (.int .i64) (.pair (.pair (.int .i64) (.pair (.int .i64) (.pair (.int .i64) (.pair (.int .i64) (.pair (.int .i64) (.pair (.int .i64) (.int .i64))))))) (.pair .bool (.pair (.sl 3 (.int .i64)) (.sl 3 (.int .i64)))))) a2]] => some ((g_As_FroOk a0 a1 a2),.val false [.bool (g_Vs_FroOk_0 a0 a1 a2)],[])
 | _ => none
theorem vs_FroOk (a0:tL0) (a1:Int) (a2:tL1):collapseH .std Es_FroOk Os_FroOk_2 (execFn Es_FroOk Tryz.f29 mss_FroOk [.val true [.sl .any 92 (.pair (.int .i64) (.pair (.int .i64) (.pair (.sl 9 .str) (.sl 155 (.pair .str (.pair .bool (.sl 3 (.int .i64)))))))) a0,.int .i64 a1,.sl .any 73 (.pair (.int .i64) (.pair (.pair (.int .i64) (.pair (.int .i64) (.pair (.int .i64) (.pair (.int .i64) (.pair (.int .i64) (.pair (.int .i64) (.int .i64))))))) (.pair .bool (.pair (.sl 3 (.int .i64)) (.sl 3 (.int .i64)))))) a2]]) = some ((g_As_FroOk a0 a1 a2),.val false [.bool (g_Vs_FroOk_0 a0 a1 a2)],[]) := by kernel_rfl
theorem ss_FroOk:Sound Tryz.prog 29 mss_FroOk Fs_FroOk := by
 refine fn_gen goods_FroOk (by kernel_rfl) .std (fn := Tryz.f29) (c := (Tryz.f29.body.getD .skip)) (o := Os_FroOk_2) (k := 2) (by kernel_rfl) (by kernel_rfl) (by kernel_rfl) (by kernel_rfl) (by decide) ks_FroOk_2 ?_
 intro ys r outs h
 unfold Fs_FroOk at h
 split at h
 ·exact (vs_FroOk _ _ _).trans h
 ·cases h
noncomputable def Es_MsgOk:Env where
 tt := mkTI Tryz.prog
 fn := fun f => match f with
  | 55 => some (mss_l1In,FSem.wk mss_l1In Fs_l1In)
  | 56 => some (mss_OpOk,FSem.wk mss_OpOk Fs_OpOk)
  | _ => none
 bxf := fun _ => none
 mv := []
 keep := fun _ => []
 keepB := fun _ => []
 keepX := fun _ => []
 keepXB := fun _ => []
theorem goodFs_MsgOk:∀ f ms F,Es_MsgOk.fn f = some (ms,F) → Sound Tryz.prog f ms F := fun f ms F h => by
 unfold Es_MsgOk at h
 dsimp only at h
 split at h
 ·exact gF ss_l1In h
 ·exact gF ss_OpOk h
 ·cases h
theorem goods_MsgOk:Good Tryz.prog Es_MsgOk := ⟨rfl,goodFs_MsgOk,fun f ms F h => by cases h⟩
noncomputable def Os_MsgOk_0:Orc := fun _ _ => none
noncomputable def mss_MsgOk:List PM := [.own]
noncomputable def lss_MsgOk:List (Nat×Code) := loopsAll 0 (Tryz.f67.body.getD .skip)
theorem ks_MsgOk_0:OrcOk Es_MsgOk Os_MsgOk_0 lss_MsgOk 0 := orcOk_none
noncomputable def g_As_MsgOk (a0:Int) (a1:Int) (a2:Int) (a3:Int) (a4:Int) (a5:Int) (a6:Int) (a7:Int) (a8:Int) (a9:Int) (a10:Int):Bool := g_As_l1In a3 (0:Int) (29:Int)&&(!g_Vs_l1In_0 a3 (0:Int) (29:Int) || bif a0 == 1 then !a2 == 0 || g_As_l1In a1 (1:Int) (3:Int)&&(!g_Vs_l1In_0 a1 (1:Int) (3:Int) || g_As_OpOk a4 a5 a6 a7 a8 a9 a10) else !(a4 == 0&&(a5 == 0&&(a6 == 0&&(a7 == 0&&(a8 == 0&&(a9 == 0&&(a10 == 0&&true))))))) || bif a0 == 2 then !a2 == 0 || g_As_l1In a1 (1:Int) (3:Int) else bif a0 == 3 then !a2 == 0 || g_As_l1In a1 (1:Int) (3:Int) else g_As_l1In a0 (4:Int) (7:Int)&&(!g_Vs_l1In_0 a0 (4:Int) (7:Int) || (!a1 == 0 || g_As_l1In a2 (1:Int) (3:Int))))
noncomputable def g_Vs_MsgOk_0 (a0:Int) (a1:Int) (a2:Int) (a3:Int) (a4:Int) (a5:Int) (a6:Int) (a7:Int) (a8:Int) (a9:Int) (a10:Int):Bool := bif !g_Vs_l1In_0 a3 (0:Int) (29:Int) then false else bif a0 == 1 then bif a2 == 0 then bif g_Vs_l1In_0 a1 (1:Int) (3:Int) then g_Vs_OpOk_0 a4 a5 a6 a7 a8 a9 a10 else false else false else bif !(a4 == 0&&(a5 == 0&&(a6 == 0&&(a7 == 0&&(a8 == 0&&(a9 == 0&&(a10 == 0&&true))))))) then false else bif a0 == 2 then bif a2 == 0 then g_Vs_l1In_0 a1 (1:Int) (3:Int) else false else bif a0 == 3 then bif a2 == 0 then g_Vs_l1In_0 a1 (1:Int) (3:Int) else false else bif g_Vs_l1In_0 a0 (4:Int) (7:Int) then bif a1 == 0 then g_Vs_l1In_0 a2 (1:Int) (3:Int) else false else false
noncomputable def Fs_MsgOk:FSem := fun ys => match ys with
 | [.val true [.int .i64 a0,.int .i64 a1,.int .i64 a2,.int .i64 a3,.int .i64 a4,.int .i64 a5,.int .i64 a6,.int .i64 a7,.int .i64 a8,.int .i64 a9,.int .i64 a10]] => some ((g_As_MsgOk a0 a1 a2 a3 a4 a5 a6 a7 a8 a9 a10),.val false [.bool (g_Vs_MsgOk_0 a0 a1 a2 a3 a4 a5 a6 a7 a8 a9 a10)],[])
 | _ => none
theorem vs_MsgOk (a0:Int) (a1:Int) (a2:Int) (a3:Int) (a4:Int) (a5:Int) (a6:Int) (a7:Int) (a8:Int) (a9:Int) (a10:Int):collapseH .std Es_MsgOk Os_MsgOk_0 (execFn Es_MsgOk Tryz.f67 mss_MsgOk [.val true [.int .i64 a0,.int .i64 a1,.int .i64 a2,.int .i64 a3,.int .i64 a4,.int .i64 a5,.int .i64 a6,.int .i64 a7,.int .i64 a8,.int .i64 a9,.int .i64 a10]]) = some ((g_As_MsgOk a0 a1 a2 a3 a4 a5 a6 a7 a8 a9 a10),.val false [.bool (g_Vs_MsgOk_0 a0 a1 a2 a3 a4 a5 a6 a7 a8 a9 a10)],[]) := by kernel_rfl
theorem ss_MsgOk:Sound Tryz.prog 67 mss_MsgOk Fs_MsgOk := by
 refine fn_gen goods_MsgOk (by kernel_rfl) .std (fn := Tryz.f67) (c := (Tryz.f67.body.getD .skip)) (o := Os_MsgOk_0) (k := 0) (by kernel_rfl) (by kernel_rfl) (by kernel_rfl) (by kernel_rfl) (by decide) ks_MsgOk_0 ?_
 intro ys r outs h
 unfold Fs_MsgOk at h
 split at h
 ·exact (vs_MsgOk _ _ _ _ _ _ _ _ _ _ _).trans h
 ·cases h
noncomputable def Es_StoOk:Env where
 tt := mkTI Tryz.prog
 fn := fun f => match f with
  | 155 => some (mss_l1Key,FSem.wk mss_l1Key Fs_l1Key)
  | 174 => some (mss_l1Val,FSem.wk mss_l1Val Fs_l1Val)
  | _ => none
 bxf := fun _ => none
 mv := []
 keep := fun b => match b with
  | 0 => [(1,false),(3,false)]
  | _ => []
 keepB := fun b => match b with
  | 0 => [(1,false)]
  | _ => []
 keepX := fun b => match b with
  | 0 => [(2,false)]
  | _ => []
 keepXB := fun b => match b with
  | 0 => []
  | _ => []
theorem goodFs_StoOk:∀ f ms F,Es_StoOk.fn f = some (ms,F) → Sound Tryz.prog f ms F := fun f ms F h => by
 unfold Es_StoOk at h
 dsimp only at h
 split at h
 ·exact gF ss_l1Key h
 ·exact gF ss_l1Val h
 ·cases h
theorem goods_StoOk:Good Tryz.prog Es_StoOk := ⟨rfl,goodFs_StoOk,fun f ms F h => by cases h⟩
noncomputable def Os_StoOk_0:Orc := fun _ _ => none
noncomputable def mss_StoOk:List PM := [.rd]
noncomputable def lss_StoOk:List (Nat×Code) := loopsAll 0 (Tryz.f171.body.getD .skip)
noncomputable def cs_StoOk_0:Code := (loopOf 0 (Tryz.f171.body.getD .skip)).getD .skip
theorem lseqs_StoOk:lss_StoOk = [(0,cs_StoOk_0)] := by kernel_rfl
theorem ms_StoOk_0:∀ p,p ∈ lss_StoOk → p.1 = 0 → p.2 = cs_StoOk_0 := by
 intro p hp
 rw [lseqs_StoOk] at hp
 simp only [List.mem_cons,List.not_mem_nil,or_false] at hp
 subst hp; simp
theorem ks_StoOk_0:OrcOk Es_StoOk Os_StoOk_0 lss_StoOk 0 := orcOk_none
noncomputable def hs_StoOk_0 (y0:Int) (y1:tS):List (Pl×LV) := [(.T 1,.t (.val false [.ptr 1 0 0])),(.T 3,.t (.val false [.int .i64 y0])),(.B 1,.b 0 false [.sl .any 158 (.pair .str (.sl 3 (.int .i64))) y1])]
noncomputable def g_Ss_StoOk_0 (y1:tS):(Int) → RT (Int) ((Bool) ⊕ (Unit))
 | y0 => .br (true) (.br (decide (y0 < (y1.length:Int))) (.br (decide (0 ≤ y0 ∧ y0 < (y1.length:Int))) (.br (g_As_l1Key (at_ (.pair .str (.sl (nat_lit 3) (.int .i64))) y1 (Int.toNat y0)).1) (.br (!g_Vs_l1Key_0 (at_ (.pair .str (.sl (nat_lit 3) (.int .i64))) y1 (Int.toNat y0)).1) (.out (.inl false)) (.br (decide (0 ≤ y0 ∧ y0 < (y1.length:Int))) (.br (g_As_l1Val (at_ (.pair .str (.sl (nat_lit 3) (.int .i64))) y1 (Int.toNat y0)).2) (.br (!g_Vs_l1Val_0 (at_ (.pair .str (.sl (nat_lit 3) (.int .i64))) y1 (Int.toNat y0)).2) (.out (.inl false)) (.br (true) (.br (decide (y0 > 0)) (.br (true) (.br (decide (0 ≤ IntKind.i64.wrap (y0 - 1) ∧ IntKind.i64.wrap (y0 - 1) < (y1.length:Int))) (.br (decide (0 ≤ y0 ∧ y0 < (y1.length:Int))) (.br (true) (.br (!Op.bytesLess (ByteArray.toList (at_ (.pair .str (.sl (nat_lit 3) (.int .i64))) y1 (Int.toNat (IntKind.i64.wrap (y0 - 1)))).1) (ByteArray.toList (at_ (.pair .str (.sl (nat_lit 3) (.int .i64))) y1 (Int.toNat y0)).1)) (.out (.inl false)) (.br (true) (.go (IntKind.i64.wrap (y0 + 1))) .bad)) .bad) .bad) .bad) .bad) (.br (true) (.go (IntKind.i64.wrap (y0 + 1))) .bad)) .bad)) .bad) .bad)) .bad) .bad) (.out (.inr (())))) .bad
noncomputable def g_Ls_StoOk_0 (y1:tS) (x:Int):Option ((Bool) ⊕ (Unit)) := loopO (g_Ss_StoOk_0 y1) x
noncomputable def xs_StoOk_0 (y1:tS):((Bool) ⊕ (Unit)) → Ex×List (Pl×LV) := fun
 | .inl r => (.ret,[(.T 2,.t (.val false [.bool r]))])
 | .inr (r) => (.exit 0,[(.T 2,.t (.val false [.undef]))])
noncomputable def Os_StoOk_1:Orc := fun b h => match b,h with
 | 0,[(.T 1,.t (.val false [.ptr 1 0 0])),(.T 3,.t (.val false [.int .i64 y0])),(.B 1,.b 0 false [.sl .any 158 (.pair .str (.sl 3 (.int .i64))) y1])] => some (okO (g_Ls_StoOk_0 y1 y0),(.br (isL (valO (g_Ls_StoOk_0 y1 y0))) (.leaf .ret [(.T 2,.t (.val false [.bool (getL (valO (g_Ls_StoOk_0 y1 y0)))]))]) (.leaf (.exit 0) [(.T 2,.t (.val false [.undef]))])))
 | b,h => Os_StoOk_0 b h
theorem bs_StoOk_0 (y0:Int) (y1:tS):Tr.bt Es_StoOk Os_StoOk_0 (exec Es_StoOk 0 cs_StoOk_0 (St.of (hs_StoOk_0 y0 y1)) (leafRd Es_StoOk 0)) = (g_Ss_StoOk_0 y1 y0).bt (fun (y0:Int) => (hs_StoOk_0 y0 y1)) (xs_StoOk_0 y1) := by kernel_rfl
theorem ks_StoOk_1:OrcOk Es_StoOk Os_StoOk_1 lss_StoOk 1 := orc_add ks_StoOk_0 (fun n p hp h ex h' ho => by
 obtain ⟨b,c⟩ := p
 obtain ⟨xt,h1,h2⟩ := ho
 have h1:Os_StoOk_1 b h = some (true,xt) := h1
 unfold Os_StoOk_1 at h1
 split at h1
 ·injection h1 with h1
  injection h1 with e1 e2
  subst e2
  have hc:c = cs_StoOk_0 := ms_StoOk_0 _ hp rfl
  subst hc
  right
  rename_i y0 y1
  have key := LT_step ks_StoOk_0 hp (fun q hq => loopsAll_in _ _ _ _ hp hq) (fun (y0:Int) => (hs_StoOk_0 y0 y1)) (xs_StoOk_0 y1) (g_Ss_StoOk_0 y1) (fun x => by first | exact bs_StoOk_0 x y1) n (x := y0) (okO_some e1)
  have hx:∀ r,XT.sel (.br (isL r) (.leaf .ret [(.T 2,.t (.val false [.bool (getL r)]))]) (.leaf (.exit 0) [(.T 2,.t (.val false [.undef]))])) = xs_StoOk_0 y1 r := fun r => by first | rfl | rcases r with r | r <;> rfl | rcases r with r | r | r <;> rfl | rcases r with r | r | r | r <;> rfl
  have h3 := (hx (valO (g_Ls_StoOk_0 y1 y0))).symm.trans h2
  have e3 := congrArg Prod.fst h3
  have e4 := congrArg Prod.snd h3
  simp only at e3 e4
  rw [← e3,← e4]
  exact key
 ·exact .inl ⟨xt,h1,h2⟩)
noncomputable def g_As_StoOk (a0:tS):Bool := decide ((a0.length:Int) > 40) || okO (g_Ls_StoOk_0 a0 (0:Int))
noncomputable def g_Vs_StoOk_0 (a0:tS):Bool := bif decide ((a0.length:Int) > 40) then false else bif isL (valO (g_Ls_StoOk_0 a0 (0:Int))) then getL (valO (g_Ls_StoOk_0 a0 (0:Int))) else true
noncomputable def Fs_StoOk:FSem := fun ys => match ys with
 | [.val true [.sl .any 158 (.pair .str (.sl 3 (.int .i64))) a0]] => some ((g_As_StoOk a0),.val false [.bool (g_Vs_StoOk_0 a0)],[])
 | _ => none
theorem vs_StoOk (a0:tS):collapseH .std Es_StoOk Os_StoOk_1 (execFn Es_StoOk Tryz.f171 mss_StoOk [.val true [.sl .any 158 (.pair .str (.sl 3 (.int .i64))) a0]]) = some ((g_As_StoOk a0),.val false [.bool (g_Vs_StoOk_0 a0)],[]) := by kernel_rfl
theorem ss_StoOk:Sound Tryz.prog 171 mss_StoOk Fs_StoOk := by
 refine fn_gen goods_StoOk (by kernel_rfl) .std (fn := Tryz.f171) (c := (Tryz.f171.body.getD .skip)) (o := Os_StoOk_1) (k := 1) (by kernel_rfl) (by kernel_rfl) (by kernel_rfl) (by kernel_rfl) (by decide) ks_StoOk_1 ?_
 intro ys r outs h
 unfold Fs_StoOk at h
 split at h
 ·exact (vs_StoOk _).trans h
 ·cases h
noncomputable def Es_l3Form:Env where
 tt := mkTI Tryz.prog
 fn := fun f => match f with
  | 55 => some (mss_l1In,FSem.wk mss_l1In Fs_l1In)
  | _ => none
 bxf := fun _ => none
 mv := []
 keep := fun b => match b with
  | 0 => [(0,false),(3,false),(5,false)]
  | _ => []
 keepB := fun b => match b with
  | 0 => [(3,false)]
  | _ => []
 keepX := fun b => match b with
  | 0 => [(4,false)]
  | _ => []
 keepXB := fun b => match b with
  | 0 => []
  | _ => []
theorem goodFs_l3Form:∀ f ms F,Es_l3Form.fn f = some (ms,F) → Sound Tryz.prog f ms F := fun f ms F h => by
 unfold Es_l3Form at h
 dsimp only at h
 split at h
 ·exact gF ss_l1In h
 ·cases h
theorem goods_l3Form:Good Tryz.prog Es_l3Form := ⟨rfl,goodFs_l3Form,fun f ms F h => by cases h⟩
noncomputable def Os_l3Form_0:Orc := fun _ _ => none
noncomputable def mss_l3Form:List PM := [.own,.rd]
noncomputable def lss_l3Form:List (Nat×Code) := loopsAll 0 (Tryz.f172.body.getD .skip)
noncomputable def cs_l3Form_0:Code := (loopOf 0 (Tryz.f172.body.getD .skip)).getD .skip
theorem lseqs_l3Form:lss_l3Form = [(0,cs_l3Form_0)] := by kernel_rfl
theorem ms_l3Form_0:∀ p,p ∈ lss_l3Form → p.1 = 0 → p.2 = cs_l3Form_0 := by
 intro p hp
 rw [lseqs_l3Form] at hp
 simp only [List.mem_cons,List.not_mem_nil,or_false] at hp
 subst hp; simp
theorem ks_l3Form_0:OrcOk Es_l3Form Os_l3Form_0 lss_l3Form 0 := orcOk_none
noncomputable def hs_l3Form_0 (y0:Int) (y1:Int) (y2:tS):List (Pl×LV) := [(.T 0,.t (.val false [.int .i64 y0])),(.T 3,.t (.val false [.ptr 3 0 0])),(.T 5,.t (.val false [.int .i64 y1])),(.B 3,.b 0 false [.sl .any 158 (.pair .str (.sl 3 (.int .i64))) y2])]
noncomputable def g_Ss_l3Form_0 (y0:Int) (y2:tS):(Int) → RT (Int) ((Bool) ⊕ (Unit))
 | y1 => .br (true) (.br (decide (y1 < (y2.length:Int))) (.br (decide (0 ≤ y1 ∧ y1 < (y2.length:Int))) (.br (decide ((0:Int) ≤ (0:Int) ∧ 0 < (↑(ByteArray.size (itI y2 y1).1):Int))) (.br (decide ((0:Int) ≤ (0:Int) ∧ 0 < (↑(List.length (itI y2 y1).2):Int))) (.br (true) (.br (y0 == 1) (.br (true) (.br (byteAt (itI y2 y1).1 (nat_lit 0) == 115) (.br (true) (.br ((↑(List.length (itI y2 y1).2):Int) == 1) (.br (true) (.br (decide (at_ (.int .i64) (itI y2 y1).2 (nat_lit 0) ≤ 9)) (.br (false) (.out (.inl false)) (.br (true) (.br (byteAt (itI y2 y1).1 (nat_lit 0) != 97) (.br (true) (.br ((↑(ByteArray.size (itI y2 y1).1):Int) != 2) (.out (.inl false)) (.br (true) (.go (IntKind.i64.wrap (y1 + 1))) .bad)) .bad) (.br (true) (.go (IntKind.i64.wrap (y1 + 1))) .bad)) .bad)) (.br (true) (.br (y0 == 3) (.br (true) (.br (byteAt (itI y2 y1).1 (nat_lit 0) == 97) (.br (true) (.br ((↑(List.length (itI y2 y1).2):Int) == 1) (.br (false) (.out (.inl false)) (.br (true) (.br (byteAt (itI y2 y1).1 (nat_lit 0) != 97) (.br (true) (.br ((↑(ByteArray.size (itI y2 y1).1):Int) != 2) (.out (.inl false)) (.br (true) (.go (IntKind.i64.wrap (y1 + 1))) .bad)) .bad) (.br (true) (.go (IntKind.i64.wrap (y1 + 1))) .bad)) .bad)) (.br (true) (.br (y0 == 2) (.br (true) (.br (decide (at_ (.int .i64) (itI y2 y1).2 (nat_lit 0) ≤ 9)) (.br (true) (.br (byteAt (itI y2 y1).1 (nat_lit 0) == 99) (.br (true) (.br ((↑(List.length (itI y2 y1).2):Int) == 2) (.br (false) (.out (.inl false)) (.br (true) (.br (byteAt (itI y2 y1).1 (nat_lit 0) != 97) (.br (true) (.br ((↑(ByteArray.size (itI y2 y1).1):Int) != 2) (.out (.inl false)) (.br (true) (.go (IntKind.i64.wrap (y1 + 1))) .bad)) .bad) (.br (true) (.go (IntKind.i64.wrap (y1 + 1))) .bad)) .bad)) (.br (true) (.br (byteAt (itI y2 y1).1 (nat_lit 0) == 102) (.br (true) (.br ((↑(List.length (itI y2 y1).2):Int) == 3) (.br (decide ((0:Int) ≤ (1:Int) ∧ 1 < (↑(List.length (itI y2 y1).2):Int))) (.br (g_As_l1In (at_ (.int .i64) (itI y2 y1).2 (nat_lit 1)) (1:Int) (99:Int)) (.br (g_Vs_l1In_0 (at_ (.int .i64) (itI y2 y1).2 (nat_lit 1)) (1:Int) (99:Int)) (.br (decide ((0:Int) ≤ (2:Int) ∧ 2 < (↑(List.length (itI y2 y1).2):Int))) (.br (true) (.br (!decide (at_ (.int .i64) (itI y2 y1).2 (nat_lit 2) ≤ 1)) (.out (.inl false)) (.br (true) (.br (byteAt (itI y2 y1).1 (nat_lit 0) != 97) (.br (true) (.br ((↑(ByteArray.size (itI y2 y1).1):Int) != 2) (.out (.inl false)) (.br (true) (.go (IntKind.i64.wrap (y1 + 1))) .bad)) .bad) (.br (true) (.go (IntKind.i64.wrap (y1 + 1))) .bad)) .bad)) .bad) .bad) (.br (true) (.out (.inl false)) (.br (true) (.br (byteAt (itI y2 y1).1 (nat_lit 0) != 97) (.br (true) (.br ((↑(ByteArray.size (itI y2 y1).1):Int) != 2) (.out (.inl false)) (.br (true) (.go (IntKind.i64.wrap (y1 + 1))) .bad)) .bad) (.br (true) (.go (IntKind.i64.wrap (y1 + 1))) .bad)) .bad))) .bad) .bad) (.br (true) (.out (.inl false)) (.br (true) (.br (byteAt (itI y2 y1).1 (nat_lit 0) != 97) (.br (true) (.br ((↑(ByteArray.size (itI y2 y1).1):Int) != 2) (.out (.inl false)) (.br (true) (.go (IntKind.i64.wrap (y1 + 1))) .bad)) .bad) (.br (true) (.go (IntKind.i64.wrap (y1 + 1))) .bad)) .bad))) .bad) (.br (true) (.out (.inl false)) (.br (true) (.br (byteAt (itI y2 y1).1 (nat_lit 0) != 97) (.br (true) (.br ((↑(ByteArray.size (itI y2 y1).1):Int) != 2) (.out (.inl false)) (.br (true) (.go (IntKind.i64.wrap (y1 + 1))) .bad)) .bad) (.br (true) (.go (IntKind.i64.wrap (y1 + 1))) .bad)) .bad))) .bad)) .bad) (.br (true) (.br (byteAt (itI y2 y1).1 (nat_lit 0) == 102) (.br (true) (.br ((↑(List.length (itI y2 y1).2):Int) == 3) (.br (decide ((0:Int) ≤ (1:Int) ∧ 1 < (↑(List.length (itI y2 y1).2):Int))) (.br (g_As_l1In (at_ (.int .i64) (itI y2 y1).2 (nat_lit 1)) (1:Int) (99:Int)) (.br (g_Vs_l1In_0 (at_ (.int .i64) (itI y2 y1).2 (nat_lit 1)) (1:Int) (99:Int)) (.br (decide ((0:Int) ≤ (2:Int) ∧ 2 < (↑(List.length (itI y2 y1).2):Int))) (.br (true) (.br (!decide (at_ (.int .i64) (itI y2 y1).2 (nat_lit 2) ≤ 1)) (.out (.inl false)) (.br (true) (.br (byteAt (itI y2 y1).1 (nat_lit 0) != 97) (.br (true) (.br ((↑(ByteArray.size (itI y2 y1).1):Int) != 2) (.out (.inl false)) (.br (true) (.go (IntKind.i64.wrap (y1 + 1))) .bad)) .bad) (.br (true) (.go (IntKind.i64.wrap (y1 + 1))) .bad)) .bad)) .bad) .bad) (.br (true) (.out (.inl false)) (.br (true) (.br (byteAt (itI y2 y1).1 (nat_lit 0) != 97) (.br (true) (.br ((↑(ByteArray.size (itI y2 y1).1):Int) != 2) (.out (.inl false)) (.br (true) (.go (IntKind.i64.wrap (y1 + 1))) .bad)) .bad) (.br (true) (.go (IntKind.i64.wrap (y1 + 1))) .bad)) .bad))) .bad) .bad) (.br (true) (.out (.inl false)) (.br (true) (.br (byteAt (itI y2 y1).1 (nat_lit 0) != 97) (.br (true) (.br ((↑(ByteArray.size (itI y2 y1).1):Int) != 2) (.out (.inl false)) (.br (true) (.go (IntKind.i64.wrap (y1 + 1))) .bad)) .bad) (.br (true) (.go (IntKind.i64.wrap (y1 + 1))) .bad)) .bad))) .bad) (.br (true) (.out (.inl false)) (.br (true) (.br (byteAt (itI y2 y1).1 (nat_lit 0) != 97) (.br (true) (.br ((↑(ByteArray.size (itI y2 y1).1):Int) != 2) (.out (.inl false)) (.br (true) (.go (IntKind.i64.wrap (y1 + 1))) .bad)) .bad) (.br (true) (.go (IntKind.i64.wrap (y1 + 1))) .bad)) .bad))) .bad)) .bad) (.br (true) (.out (.inl false)) (.br (true) (.br (byteAt (itI y2 y1).1 (nat_lit 0) != 97) (.br (true) (.br ((↑(ByteArray.size (itI y2 y1).1):Int) != 2) (.out (.inl false)) (.br (true) (.go (IntKind.i64.wrap (y1 + 1))) .bad)) .bad) (.br (true) (.go (IntKind.i64.wrap (y1 + 1))) .bad)) .bad))) .bad) (.br (true) (.out (.inl false)) (.br (true) (.br (byteAt (itI y2 y1).1 (nat_lit 0) != 97) (.br (true) (.br ((↑(ByteArray.size (itI y2 y1).1):Int) != 2) (.out (.inl false)) (.br (true) (.go (IntKind.i64.wrap (y1 + 1))) .bad)) .bad) (.br (true) (.go (IntKind.i64.wrap (y1 + 1))) .bad)) .bad))) .bad)) .bad) (.br (true) (.br (y0 == 2) (.br (true) (.br (decide (at_ (.int .i64) (itI y2 y1).2 (nat_lit 0) ≤ 9)) (.br (true) (.br (byteAt (itI y2 y1).1 (nat_lit 0) == 99) (.br (true) (.br ((↑(List.length (itI y2 y1).2):Int) == 2) (.br (false) (.out (.inl false)) (.br (true) (.br (byteAt (itI y2 y1).1 (nat_lit 0) != 97) (.br (true) (.br ((↑(ByteArray.size (itI y2 y1).1):Int) != 2) (.out (.inl false)) (.br (true) (.go (IntKind.i64.wrap (y1 + 1))) .bad)) .bad) (.br (true) (.go (IntKind.i64.wrap (y1 + 1))) .bad)) .bad)) (.br (true) (.br (byteAt (itI y2 y1).1 (nat_lit 0) == 102) (.br (true) (.br ((↑(List.length (itI y2 y1).2):Int) == 3) (.br (decide ((0:Int) ≤ (1:Int) ∧ 1 < (↑(List.length (itI y2 y1).2):Int))) (.br (g_As_l1In (at_ (.int .i64) (itI y2 y1).2 (nat_lit 1)) (1:Int) (99:Int)) (.br (g_Vs_l1In_0 (at_ (.int .i64) (itI y2 y1).2 (nat_lit 1)) (1:Int) (99:Int)) (.br (decide ((0:Int) ≤ (2:Int) ∧ 2 < (↑(List.length (itI y2 y1).2):Int))) (.br (true) (.br (!decide (at_ (.int .i64) (itI y2 y1).2 (nat_lit 2) ≤ 1)) (.out (.inl false)) (.br (true) (.br (byteAt (itI y2 y1).1 (nat_lit 0) != 97) (.br (true) (.br ((↑(ByteArray.size (itI y2 y1).1):Int) != 2) (.out (.inl false)) (.br (true) (.go (IntKind.i64.wrap (y1 + 1))) .bad)) .bad) (.br (true) (.go (IntKind.i64.wrap (y1 + 1))) .bad)) .bad)) .bad) .bad) (.br (true) (.out (.inl false)) (.br (true) (.br (byteAt (itI y2 y1).1 (nat_lit 0) != 97) (.br (true) (.br ((↑(ByteArray.size (itI y2 y1).1):Int) != 2) (.out (.inl false)) (.br (true) (.go (IntKind.i64.wrap (y1 + 1))) .bad)) .bad) (.br (true) (.go (IntKind.i64.wrap (y1 + 1))) .bad)) .bad))) .bad) .bad) (.br (true) (.out (.inl false)) (.br (true) (.br (byteAt (itI y2 y1).1 (nat_lit 0) != 97) (.br (true) (.br ((↑(ByteArray.size (itI y2 y1).1):Int) != 2) (.out (.inl false)) (.br (true) (.go (IntKind.i64.wrap (y1 + 1))) .bad)) .bad) (.br (true) (.go (IntKind.i64.wrap (y1 + 1))) .bad)) .bad))) .bad) (.br (true) (.out (.inl false)) (.br (true) (.br (byteAt (itI y2 y1).1 (nat_lit 0) != 97) (.br (true) (.br ((↑(ByteArray.size (itI y2 y1).1):Int) != 2) (.out (.inl false)) (.br (true) (.go (IntKind.i64.wrap (y1 + 1))) .bad)) .bad) (.br (true) (.go (IntKind.i64.wrap (y1 + 1))) .bad)) .bad))) .bad)) .bad) (.br (true) (.br (byteAt (itI y2 y1).1 (nat_lit 0) == 102) (.br (true) (.br ((↑(List.length (itI y2 y1).2):Int) == 3) (.br (decide ((0:Int) ≤ (1:Int) ∧ 1 < (↑(List.length (itI y2 y1).2):Int))) (.br (g_As_l1In (at_ (.int .i64) (itI y2 y1).2 (nat_lit 1)) (1:Int) (99:Int)) (.br (g_Vs_l1In_0 (at_ (.int .i64) (itI y2 y1).2 (nat_lit 1)) (1:Int) (99:Int)) (.br (decide ((0:Int) ≤ (2:Int) ∧ 2 < (↑(List.length (itI y2 y1).2):Int))) (.br (true) (.br (!decide (at_ (.int .i64) (itI y2 y1).2 (nat_lit 2) ≤ 1)) (.out (.inl false)) (.br (true) (.br (byteAt (itI y2 y1).1 (nat_lit 0) != 97) (.br (true) (.br ((↑(ByteArray.size (itI y2 y1).1):Int) != 2) (.out (.inl false)) (.br (true) (.go (IntKind.i64.wrap (y1 + 1))) .bad)) .bad) (.br (true) (.go (IntKind.i64.wrap (y1 + 1))) .bad)) .bad)) .bad) .bad) (.br (true) (.out (.inl false)) (.br (true) (.br (byteAt (itI y2 y1).1 (nat_lit 0) != 97) (.br (true) (.br ((↑(ByteArray.size (itI y2 y1).1):Int) != 2) (.out (.inl false)) (.br (true) (.go (IntKind.i64.wrap (y1 + 1))) .bad)) .bad) (.br (true) (.go (IntKind.i64.wrap (y1 + 1))) .bad)) .bad))) .bad) .bad) (.br (true) (.out (.inl false)) (.br (true) (.br (byteAt (itI y2 y1).1 (nat_lit 0) != 97) (.br (true) (.br ((↑(ByteArray.size (itI y2 y1).1):Int) != 2) (.out (.inl false)) (.br (true) (.go (IntKind.i64.wrap (y1 + 1))) .bad)) .bad) (.br (true) (.go (IntKind.i64.wrap (y1 + 1))) .bad)) .bad))) .bad) (.br (true) (.out (.inl false)) (.br (true) (.br (byteAt (itI y2 y1).1 (nat_lit 0) != 97) (.br (true) (.br ((↑(ByteArray.size (itI y2 y1).1):Int) != 2) (.out (.inl false)) (.br (true) (.go (IntKind.i64.wrap (y1 + 1))) .bad)) .bad) (.br (true) (.go (IntKind.i64.wrap (y1 + 1))) .bad)) .bad))) .bad)) .bad) (.br (true) (.out (.inl false)) (.br (true) (.br (byteAt (itI y2 y1).1 (nat_lit 0) != 97) (.br (true) (.br ((↑(ByteArray.size (itI y2 y1).1):Int) != 2) (.out (.inl false)) (.br (true) (.go (IntKind.i64.wrap (y1 + 1))) .bad)) .bad) (.br (true) (.go (IntKind.i64.wrap (y1 + 1))) .bad)) .bad))) .bad) (.br (true) (.out (.inl false)) (.br (true) (.br (byteAt (itI y2 y1).1 (nat_lit 0) != 97) (.br (true) (.br ((↑(ByteArray.size (itI y2 y1).1):Int) != 2) (.out (.inl false)) (.br (true) (.go (IntKind.i64.wrap (y1 + 1))) .bad)) .bad) (.br (true) (.go (IntKind.i64.wrap (y1 + 1))) .bad)) .bad))) .bad)) .bad) (.br (true) (.br (y0 == 2) (.br (true) (.br (decide (at_ (.int .i64) (itI y2 y1).2 (nat_lit 0) ≤ 9)) (.br (true) (.br (byteAt (itI y2 y1).1 (nat_lit 0) == 99) (.br (true) (.br ((↑(List.length (itI y2 y1).2):Int) == 2) (.br (false) (.out (.inl false)) (.br (true) (.br (byteAt (itI y2 y1).1 (nat_lit 0) != 97) (.br (true) (.br ((↑(ByteArray.size (itI y2 y1).1):Int) != 2) (.out (.inl false)) (.br (true) (.go (IntKind.i64.wrap (y1 + 1))) .bad)) .bad) (.br (true) (.go (IntKind.i64.wrap (y1 + 1))) .bad)) .bad)) (.br (true) (.br (byteAt (itI y2 y1).1 (nat_lit 0) == 102) (.br (true) (.br ((↑(List.length (itI y2 y1).2):Int) == 3) (.br (decide ((0:Int) ≤ (1:Int) ∧ 1 < (↑(List.length (itI y2 y1).2):Int))) (.br (g_As_l1In (at_ (.int .i64) (itI y2 y1).2 (nat_lit 1)) (1:Int) (99:Int)) (.br (g_Vs_l1In_0 (at_ (.int .i64) (itI y2 y1).2 (nat_lit 1)) (1:Int) (99:Int)) (.br (decide ((0:Int) ≤ (2:Int) ∧ 2 < (↑(List.length (itI y2 y1).2):Int))) (.br (true) (.br (!decide (at_ (.int .i64) (itI y2 y1).2 (nat_lit 2) ≤ 1)) (.out (.inl false)) (.br (true) (.br (byteAt (itI y2 y1).1 (nat_lit 0) != 97) (.br (true) (.br ((↑(ByteArray.size (itI y2 y1).1):Int) != 2) (.out (.inl false)) (.br (true) (.go (IntKind.i64.wrap (y1 + 1))) .bad)) .bad) (.br (true) (.go (IntKind.i64.wrap (y1 + 1))) .bad)) .bad)) .bad) .bad) (.br (true) (.out (.inl false)) (.br (true) (.br (byteAt (itI y2 y1).1 (nat_lit 0) != 97) (.br (true) (.br ((↑(ByteArray.size (itI y2 y1).1):Int) != 2) (.out (.inl false)) (.br (true) (.go (IntKind.i64.wrap (y1 + 1))) .bad)) .bad) (.br (true) (.go (IntKind.i64.wrap (y1 + 1))) .bad)) .bad))) .bad) .bad) (.br (true) (.out (.inl false)) (.br (true) (.br (byteAt (itI y2 y1).1 (nat_lit 0) != 97) (.br (true) (.br ((↑(ByteArray.size (itI y2 y1).1):Int) != 2) (.out (.inl false)) (.br (true) (.go (IntKind.i64.wrap (y1 + 1))) .bad)) .bad) (.br (true) (.go (IntKind.i64.wrap (y1 + 1))) .bad)) .bad))) .bad) (.br (true) (.out (.inl false)) (.br (true) (.br (byteAt (itI y2 y1).1 (nat_lit 0) != 97) (.br (true) (.br ((↑(ByteArray.size (itI y2 y1).1):Int) != 2) (.out (.inl false)) (.br (true) (.go (IntKind.i64.wrap (y1 + 1))) .bad)) .bad) (.br (true) (.go (IntKind.i64.wrap (y1 + 1))) .bad)) .bad))) .bad)) .bad) (.br (true) (.br (byteAt (itI y2 y1).1 (nat_lit 0) == 102) (.br (true) (.br ((↑(List.length (itI y2 y1).2):Int) == 3) (.br (decide ((0:Int) ≤ (1:Int) ∧ 1 < (↑(List.length (itI y2 y1).2):Int))) (.br (g_As_l1In (at_ (.int .i64) (itI y2 y1).2 (nat_lit 1)) (1:Int) (99:Int)) (.br (g_Vs_l1In_0 (at_ (.int .i64) (itI y2 y1).2 (nat_lit 1)) (1:Int) (99:Int)) (.br (decide ((0:Int) ≤ (2:Int) ∧ 2 < (↑(List.length (itI y2 y1).2):Int))) (.br (true) (.br (!decide (at_ (.int .i64) (itI y2 y1).2 (nat_lit 2) ≤ 1)) (.out (.inl false)) (.br (true) (.br (byteAt (itI y2 y1).1 (nat_lit 0) != 97) (.br (true) (.br ((↑(ByteArray.size (itI y2 y1).1):Int) != 2) (.out (.inl false)) (.br (true) (.go (IntKind.i64.wrap (y1 + 1))) .bad)) .bad) (.br (true) (.go (IntKind.i64.wrap (y1 + 1))) .bad)) .bad)) .bad) .bad) (.br (true) (.out (.inl false)) (.br (true) (.br (byteAt (itI y2 y1).1 (nat_lit 0) != 97) (.br (true) (.br ((↑(ByteArray.size (itI y2 y1).1):Int) != 2) (.out (.inl false)) (.br (true) (.go (IntKind.i64.wrap (y1 + 1))) .bad)) .bad) (.br (true) (.go (IntKind.i64.wrap (y1 + 1))) .bad)) .bad))) .bad) .bad) (.br (true) (.out (.inl false)) (.br (true) (.br (byteAt (itI y2 y1).1 (nat_lit 0) != 97) (.br (true) (.br ((↑(ByteArray.size (itI y2 y1).1):Int) != 2) (.out (.inl false)) (.br (true) (.go (IntKind.i64.wrap (y1 + 1))) .bad)) .bad) (.br (true) (.go (IntKind.i64.wrap (y1 + 1))) .bad)) .bad))) .bad) (.br (true) (.out (.inl false)) (.br (true) (.br (byteAt (itI y2 y1).1 (nat_lit 0) != 97) (.br (true) (.br ((↑(ByteArray.size (itI y2 y1).1):Int) != 2) (.out (.inl false)) (.br (true) (.go (IntKind.i64.wrap (y1 + 1))) .bad)) .bad) (.br (true) (.go (IntKind.i64.wrap (y1 + 1))) .bad)) .bad))) .bad)) .bad) (.br (true) (.out (.inl false)) (.br (true) (.br (byteAt (itI y2 y1).1 (nat_lit 0) != 97) (.br (true) (.br ((↑(ByteArray.size (itI y2 y1).1):Int) != 2) (.out (.inl false)) (.br (true) (.go (IntKind.i64.wrap (y1 + 1))) .bad)) .bad) (.br (true) (.go (IntKind.i64.wrap (y1 + 1))) .bad)) .bad))) .bad) (.br (true) (.out (.inl false)) (.br (true) (.br (byteAt (itI y2 y1).1 (nat_lit 0) != 97) (.br (true) (.br ((↑(ByteArray.size (itI y2 y1).1):Int) != 2) (.out (.inl false)) (.br (true) (.go (IntKind.i64.wrap (y1 + 1))) .bad)) .bad) (.br (true) (.go (IntKind.i64.wrap (y1 + 1))) .bad)) .bad))) .bad)) .bad)) .bad) (.br (true) (.br (y0 == 3) (.br (true) (.br (byteAt (itI y2 y1).1 (nat_lit 0) == 97) (.br (true) (.br ((↑(List.length (itI y2 y1).2):Int) == 1) (.br (false) (.out (.inl false)) (.br (true) (.br (byteAt (itI y2 y1).1 (nat_lit 0) != 97) (.br (true) (.br ((↑(ByteArray.size (itI y2 y1).1):Int) != 2) (.out (.inl false)) (.br (true) (.go (IntKind.i64.wrap (y1 + 1))) .bad)) .bad) (.br (true) (.go (IntKind.i64.wrap (y1 + 1))) .bad)) .bad)) (.br (true) (.br (y0 == 2) (.br (true) (.br (decide (at_ (.int .i64) (itI y2 y1).2 (nat_lit 0) ≤ 9)) (.br (true) (.br (byteAt (itI y2 y1).1 (nat_lit 0) == 99) (.br (true) (.br ((↑(List.length (itI y2 y1).2):Int) == 2) (.br (false) (.out (.inl false)) (.br (true) (.br (byteAt (itI y2 y1).1 (nat_lit 0) != 97) (.br (true) (.br ((↑(ByteArray.size (itI y2 y1).1):Int) != 2) (.out (.inl false)) (.br (true) (.go (IntKind.i64.wrap (y1 + 1))) .bad)) .bad) (.br (true) (.go (IntKind.i64.wrap (y1 + 1))) .bad)) .bad)) (.br (true) (.br (byteAt (itI y2 y1).1 (nat_lit 0) == 102) (.br (true) (.br ((↑(List.length (itI y2 y1).2):Int) == 3) (.br (decide ((0:Int) ≤ (1:Int) ∧ 1 < (↑(List.length (itI y2 y1).2):Int))) (.br (g_As_l1In (at_ (.int .i64) (itI y2 y1).2 (nat_lit 1)) (1:Int) (99:Int)) (.br (g_Vs_l1In_0 (at_ (.int .i64) (itI y2 y1).2 (nat_lit 1)) (1:Int) (99:Int)) (.br (decide ((0:Int) ≤ (2:Int) ∧ 2 < (↑(List.length (itI y2 y1).2):Int))) (.br (true) (.br (!decide (at_ (.int .i64) (itI y2 y1).2 (nat_lit 2) ≤ 1)) (.out (.inl false)) (.br (true) (.br (byteAt (itI y2 y1).1 (nat_lit 0) != 97) (.br (true) (.br ((↑(ByteArray.size (itI y2 y1).1):Int) != 2) (.out (.inl false)) (.br (true) (.go (IntKind.i64.wrap (y1 + 1))) .bad)) .bad) (.br (true) (.go (IntKind.i64.wrap (y1 + 1))) .bad)) .bad)) .bad) .bad) (.br (true) (.out (.inl false)) (.br (true) (.br (byteAt (itI y2 y1).1 (nat_lit 0) != 97) (.br (true) (.br ((↑(ByteArray.size (itI y2 y1).1):Int) != 2) (.out (.inl false)) (.br (true) (.go (IntKind.i64.wrap (y1 + 1))) .bad)) .bad) (.br (true) (.go (IntKind.i64.wrap (y1 + 1))) .bad)) .bad))) .bad) .bad) (.br (true) (.out (.inl false)) (.br (true) (.br (byteAt (itI y2 y1).1 (nat_lit 0) != 97) (.br (true) (.br ((↑(ByteArray.size (itI y2 y1).1):Int) != 2) (.out (.inl false)) (.br (true) (.go (IntKind.i64.wrap (y1 + 1))) .bad)) .bad) (.br (true) (.go (IntKind.i64.wrap (y1 + 1))) .bad)) .bad))) .bad) (.br (true) (.out (.inl false)) (.br (true) (.br (byteAt (itI y2 y1).1 (nat_lit 0) != 97) (.br (true) (.br ((↑(ByteArray.size (itI y2 y1).1):Int) != 2) (.out (.inl false)) (.br (true) (.go (IntKind.i64.wrap (y1 + 1))) .bad)) .bad) (.br (true) (.go (IntKind.i64.wrap (y1 + 1))) .bad)) .bad))) .bad)) .bad) (.br (true) (.br (byteAt (itI y2 y1).1 (nat_lit 0) == 102) (.br (true) (.br ((↑(List.length (itI y2 y1).2):Int) == 3) (.br (decide ((0:Int) ≤ (1:Int) ∧ 1 < (↑(List.length (itI y2 y1).2):Int))) (.br (g_As_l1In (at_ (.int .i64) (itI y2 y1).2 (nat_lit 1)) (1:Int) (99:Int)) (.br (g_Vs_l1In_0 (at_ (.int .i64) (itI y2 y1).2 (nat_lit 1)) (1:Int) (99:Int)) (.br (decide ((0:Int) ≤ (2:Int) ∧ 2 < (↑(List.length (itI y2 y1).2):Int))) (.br (true) (.br (!decide (at_ (.int .i64) (itI y2 y1).2 (nat_lit 2) ≤ 1)) (.out (.inl false)) (.br (true) (.br (byteAt (itI y2 y1).1 (nat_lit 0) != 97) (.br (true) (.br ((↑(ByteArray.size (itI y2 y1).1):Int) != 2) (.out (.inl false)) (.br (true) (.go (IntKind.i64.wrap (y1 + 1))) .bad)) .bad) (.br (true) (.go (IntKind.i64.wrap (y1 + 1))) .bad)) .bad)) .bad) .bad) (.br (true) (.out (.inl false)) (.br (true) (.br (byteAt (itI y2 y1).1 (nat_lit 0) != 97) (.br (true) (.br ((↑(ByteArray.size (itI y2 y1).1):Int) != 2) (.out (.inl false)) (.br (true) (.go (IntKind.i64.wrap (y1 + 1))) .bad)) .bad) (.br (true) (.go (IntKind.i64.wrap (y1 + 1))) .bad)) .bad))) .bad) .bad) (.br (true) (.out (.inl false)) (.br (true) (.br (byteAt (itI y2 y1).1 (nat_lit 0) != 97) (.br (true) (.br ((↑(ByteArray.size (itI y2 y1).1):Int) != 2) (.out (.inl false)) (.br (true) (.go (IntKind.i64.wrap (y1 + 1))) .bad)) .bad) (.br (true) (.go (IntKind.i64.wrap (y1 + 1))) .bad)) .bad))) .bad) (.br (true) (.out (.inl false)) (.br (true) (.br (byteAt (itI y2 y1).1 (nat_lit 0) != 97) (.br (true) (.br ((↑(ByteArray.size (itI y2 y1).1):Int) != 2) (.out (.inl false)) (.br (true) (.go (IntKind.i64.wrap (y1 + 1))) .bad)) .bad) (.br (true) (.go (IntKind.i64.wrap (y1 + 1))) .bad)) .bad))) .bad)) .bad) (.br (true) (.out (.inl false)) (.br (true) (.br (byteAt (itI y2 y1).1 (nat_lit 0) != 97) (.br (true) (.br ((↑(ByteArray.size (itI y2 y1).1):Int) != 2) (.out (.inl false)) (.br (true) (.go (IntKind.i64.wrap (y1 + 1))) .bad)) .bad) (.br (true) (.go (IntKind.i64.wrap (y1 + 1))) .bad)) .bad))) .bad) (.br (true) (.out (.inl false)) (.br (true) (.br (byteAt (itI y2 y1).1 (nat_lit 0) != 97) (.br (true) (.br ((↑(ByteArray.size (itI y2 y1).1):Int) != 2) (.out (.inl false)) (.br (true) (.go (IntKind.i64.wrap (y1 + 1))) .bad)) .bad) (.br (true) (.go (IntKind.i64.wrap (y1 + 1))) .bad)) .bad))) .bad)) .bad) (.br (true) (.br (y0 == 2) (.br (true) (.br (decide (at_ (.int .i64) (itI y2 y1).2 (nat_lit 0) ≤ 9)) (.br (true) (.br (byteAt (itI y2 y1).1 (nat_lit 0) == 99) (.br (true) (.br ((↑(List.length (itI y2 y1).2):Int) == 2) (.br (false) (.out (.inl false)) (.br (true) (.br (byteAt (itI y2 y1).1 (nat_lit 0) != 97) (.br (true) (.br ((↑(ByteArray.size (itI y2 y1).1):Int) != 2) (.out (.inl false)) (.br (true) (.go (IntKind.i64.wrap (y1 + 1))) .bad)) .bad) (.br (true) (.go (IntKind.i64.wrap (y1 + 1))) .bad)) .bad)) (.br (true) (.br (byteAt (itI y2 y1).1 (nat_lit 0) == 102) (.br (true) (.br ((↑(List.length (itI y2 y1).2):Int) == 3) (.br (decide ((0:Int) ≤ (1:Int) ∧ 1 < (↑(List.length (itI y2 y1).2):Int))) (.br (g_As_l1In (at_ (.int .i64) (itI y2 y1).2 (nat_lit 1)) (1:Int) (99:Int)) (.br (g_Vs_l1In_0 (at_ (.int .i64) (itI y2 y1).2 (nat_lit 1)) (1:Int) (99:Int)) (.br (decide ((0:Int) ≤ (2:Int) ∧ 2 < (↑(List.length (itI y2 y1).2):Int))) (.br (true) (.br (!decide (at_ (.int .i64) (itI y2 y1).2 (nat_lit 2) ≤ 1)) (.out (.inl false)) (.br (true) (.br (byteAt (itI y2 y1).1 (nat_lit 0) != 97) (.br (true) (.br ((↑(ByteArray.size (itI y2 y1).1):Int) != 2) (.out (.inl false)) (.br (true) (.go (IntKind.i64.wrap (y1 + 1))) .bad)) .bad) (.br (true) (.go (IntKind.i64.wrap (y1 + 1))) .bad)) .bad)) .bad) .bad) (.br (true) (.out (.inl false)) (.br (true) (.br (byteAt (itI y2 y1).1 (nat_lit 0) != 97) (.br (true) (.br ((↑(ByteArray.size (itI y2 y1).1):Int) != 2) (.out (.inl false)) (.br (true) (.go (IntKind.i64.wrap (y1 + 1))) .bad)) .bad) (.br (true) (.go (IntKind.i64.wrap (y1 + 1))) .bad)) .bad))) .bad) .bad) (.br (true) (.out (.inl false)) (.br (true) (.br (byteAt (itI y2 y1).1 (nat_lit 0) != 97) (.br (true) (.br ((↑(ByteArray.size (itI y2 y1).1):Int) != 2) (.out (.inl false)) (.br (true) (.go (IntKind.i64.wrap (y1 + 1))) .bad)) .bad) (.br (true) (.go (IntKind.i64.wrap (y1 + 1))) .bad)) .bad))) .bad) (.br (true) (.out (.inl false)) (.br (true) (.br (byteAt (itI y2 y1).1 (nat_lit 0) != 97) (.br (true) (.br ((↑(ByteArray.size (itI y2 y1).1):Int) != 2) (.out (.inl false)) (.br (true) (.go (IntKind.i64.wrap (y1 + 1))) .bad)) .bad) (.br (true) (.go (IntKind.i64.wrap (y1 + 1))) .bad)) .bad))) .bad)) .bad) (.br (true) (.br (byteAt (itI y2 y1).1 (nat_lit 0) == 102) (.br (true) (.br ((↑(List.length (itI y2 y1).2):Int) == 3) (.br (decide ((0:Int) ≤ (1:Int) ∧ 1 < (↑(List.length (itI y2 y1).2):Int))) (.br (g_As_l1In (at_ (.int .i64) (itI y2 y1).2 (nat_lit 1)) (1:Int) (99:Int)) (.br (g_Vs_l1In_0 (at_ (.int .i64) (itI y2 y1).2 (nat_lit 1)) (1:Int) (99:Int)) (.br (decide ((0:Int) ≤ (2:Int) ∧ 2 < (↑(List.length (itI y2 y1).2):Int))) (.br (true) (.br (!decide (at_ (.int .i64) (itI y2 y1).2 (nat_lit 2) ≤ 1)) (.out (.inl false)) (.br (true) (.br (byteAt (itI y2 y1).1 (nat_lit 0) != 97) (.br (true) (.br ((↑(ByteArray.size (itI y2 y1).1):Int) != 2) (.out (.inl false)) (.br (true) (.go (IntKind.i64.wrap (y1 + 1))) .bad)) .bad) (.br (true) (.go (IntKind.i64.wrap (y1 + 1))) .bad)) .bad)) .bad) .bad) (.br (true) (.out (.inl false)) (.br (true) (.br (byteAt (itI y2 y1).1 (nat_lit 0) != 97) (.br (true) (.br ((↑(ByteArray.size (itI y2 y1).1):Int) != 2) (.out (.inl false)) (.br (true) (.go (IntKind.i64.wrap (y1 + 1))) .bad)) .bad) (.br (true) (.go (IntKind.i64.wrap (y1 + 1))) .bad)) .bad))) .bad) .bad) (.br (true) (.out (.inl false)) (.br (true) (.br (byteAt (itI y2 y1).1 (nat_lit 0) != 97) (.br (true) (.br ((↑(ByteArray.size (itI y2 y1).1):Int) != 2) (.out (.inl false)) (.br (true) (.go (IntKind.i64.wrap (y1 + 1))) .bad)) .bad) (.br (true) (.go (IntKind.i64.wrap (y1 + 1))) .bad)) .bad))) .bad) (.br (true) (.out (.inl false)) (.br (true) (.br (byteAt (itI y2 y1).1 (nat_lit 0) != 97) (.br (true) (.br ((↑(ByteArray.size (itI y2 y1).1):Int) != 2) (.out (.inl false)) (.br (true) (.go (IntKind.i64.wrap (y1 + 1))) .bad)) .bad) (.br (true) (.go (IntKind.i64.wrap (y1 + 1))) .bad)) .bad))) .bad)) .bad) (.br (true) (.out (.inl false)) (.br (true) (.br (byteAt (itI y2 y1).1 (nat_lit 0) != 97) (.br (true) (.br ((↑(ByteArray.size (itI y2 y1).1):Int) != 2) (.out (.inl false)) (.br (true) (.go (IntKind.i64.wrap (y1 + 1))) .bad)) .bad) (.br (true) (.go (IntKind.i64.wrap (y1 + 1))) .bad)) .bad))) .bad) (.br (true) (.out (.inl false)) (.br (true) (.br (byteAt (itI y2 y1).1 (nat_lit 0) != 97) (.br (true) (.br ((↑(ByteArray.size (itI y2 y1).1):Int) != 2) (.out (.inl false)) (.br (true) (.go (IntKind.i64.wrap (y1 + 1))) .bad)) .bad) (.br (true) (.go (IntKind.i64.wrap (y1 + 1))) .bad)) .bad))) .bad)) .bad) (.br (true) (.br (y0 == 2) (.br (true) (.br (decide (at_ (.int .i64) (itI y2 y1).2 (nat_lit 0) ≤ 9)) (.br (true) (.br (byteAt (itI y2 y1).1 (nat_lit 0) == 99) (.br (true) (.br ((↑(List.length (itI y2 y1).2):Int) == 2) (.br (false) (.out (.inl false)) (.br (true) (.br (byteAt (itI y2 y1).1 (nat_lit 0) != 97) (.br (true) (.br ((↑(ByteArray.size (itI y2 y1).1):Int) != 2) (.out (.inl false)) (.br (true) (.go (IntKind.i64.wrap (y1 + 1))) .bad)) .bad) (.br (true) (.go (IntKind.i64.wrap (y1 + 1))) .bad)) .bad)) (.br (true) (.br (byteAt (itI y2 y1).1 (nat_lit 0) == 102) (.br (true) (.br ((↑(List.length (itI y2 y1).2):Int) == 3) (.br (decide ((0:Int) ≤ (1:Int) ∧ 1 < (↑(List.length (itI y2 y1).2):Int))) (.br (g_As_l1In (at_ (.int .i64) (itI y2 y1).2 (nat_lit 1)) (1:Int) (99:Int)) (.br (g_Vs_l1In_0 (at_ (.int .i64) (itI y2 y1).2 (nat_lit 1)) (1:Int) (99:Int)) (.br (decide ((0:Int) ≤ (2:Int) ∧ 2 < (↑(List.length (itI y2 y1).2):Int))) (.br (true) (.br (!decide (at_ (.int .i64) (itI y2 y1).2 (nat_lit 2) ≤ 1)) (.out (.inl false)) (.br (true) (.br (byteAt (itI y2 y1).1 (nat_lit 0) != 97) (.br (true) (.br ((↑(ByteArray.size (itI y2 y1).1):Int) != 2) (.out (.inl false)) (.br (true) (.go (IntKind.i64.wrap (y1 + 1))) .bad)) .bad) (.br (true) (.go (IntKind.i64.wrap (y1 + 1))) .bad)) .bad)) .bad) .bad) (.br (true) (.out (.inl false)) (.br (true) (.br (byteAt (itI y2 y1).1 (nat_lit 0) != 97) (.br (true) (.br ((↑(ByteArray.size (itI y2 y1).1):Int) != 2) (.out (.inl false)) (.br (true) (.go (IntKind.i64.wrap (y1 + 1))) .bad)) .bad) (.br (true) (.go (IntKind.i64.wrap (y1 + 1))) .bad)) .bad))) .bad) .bad) (.br (true) (.out (.inl false)) (.br (true) (.br (byteAt (itI y2 y1).1 (nat_lit 0) != 97) (.br (true) (.br ((↑(ByteArray.size (itI y2 y1).1):Int) != 2) (.out (.inl false)) (.br (true) (.go (IntKind.i64.wrap (y1 + 1))) .bad)) .bad) (.br (true) (.go (IntKind.i64.wrap (y1 + 1))) .bad)) .bad))) .bad) (.br (true) (.out (.inl false)) (.br (true) (.br (byteAt (itI y2 y1).1 (nat_lit 0) != 97) (.br (true) (.br ((↑(ByteArray.size (itI y2 y1).1):Int) != 2) (.out (.inl false)) (.br (true) (.go (IntKind.i64.wrap (y1 + 1))) .bad)) .bad) (.br (true) (.go (IntKind.i64.wrap (y1 + 1))) .bad)) .bad))) .bad)) .bad) (.br (true) (.br (byteAt (itI y2 y1).1 (nat_lit 0) == 102) (.br (true) (.br ((↑(List.length (itI y2 y1).2):Int) == 3) (.br (decide ((0:Int) ≤ (1:Int) ∧ 1 < (↑(List.length (itI y2 y1).2):Int))) (.br (g_As_l1In (at_ (.int .i64) (itI y2 y1).2 (nat_lit 1)) (1:Int) (99:Int)) (.br (g_Vs_l1In_0 (at_ (.int .i64) (itI y2 y1).2 (nat_lit 1)) (1:Int) (99:Int)) (.br (decide ((0:Int) ≤ (2:Int) ∧ 2 < (↑(List.length (itI y2 y1).2):Int))) (.br (true) (.br (!decide (at_ (.int .i64) (itI y2 y1).2 (nat_lit 2) ≤ 1)) (.out (.inl false)) (.br (true) (.br (byteAt (itI y2 y1).1 (nat_lit 0) != 97) (.br (true) (.br ((↑(ByteArray.size (itI y2 y1).1):Int) != 2) (.out (.inl false)) (.br (true) (.go (IntKind.i64.wrap (y1 + 1))) .bad)) .bad) (.br (true) (.go (IntKind.i64.wrap (y1 + 1))) .bad)) .bad)) .bad) .bad) (.br (true) (.out (.inl false)) (.br (true) (.br (byteAt (itI y2 y1).1 (nat_lit 0) != 97) (.br (true) (.br ((↑(ByteArray.size (itI y2 y1).1):Int) != 2) (.out (.inl false)) (.br (true) (.go (IntKind.i64.wrap (y1 + 1))) .bad)) .bad) (.br (true) (.go (IntKind.i64.wrap (y1 + 1))) .bad)) .bad))) .bad) .bad) (.br (true) (.out (.inl false)) (.br (true) (.br (byteAt (itI y2 y1).1 (nat_lit 0) != 97) (.br (true) (.br ((↑(ByteArray.size (itI y2 y1).1):Int) != 2) (.out (.inl false)) (.br (true) (.go (IntKind.i64.wrap (y1 + 1))) .bad)) .bad) (.br (true) (.go (IntKind.i64.wrap (y1 + 1))) .bad)) .bad))) .bad) (.br (true) (.out (.inl false)) (.br (true) (.br (byteAt (itI y2 y1).1 (nat_lit 0) != 97) (.br (true) (.br ((↑(ByteArray.size (itI y2 y1).1):Int) != 2) (.out (.inl false)) (.br (true) (.go (IntKind.i64.wrap (y1 + 1))) .bad)) .bad) (.br (true) (.go (IntKind.i64.wrap (y1 + 1))) .bad)) .bad))) .bad)) .bad) (.br (true) (.out (.inl false)) (.br (true) (.br (byteAt (itI y2 y1).1 (nat_lit 0) != 97) (.br (true) (.br ((↑(ByteArray.size (itI y2 y1).1):Int) != 2) (.out (.inl false)) (.br (true) (.go (IntKind.i64.wrap (y1 + 1))) .bad)) .bad) (.br (true) (.go (IntKind.i64.wrap (y1 + 1))) .bad)) .bad))) .bad) (.br (true) (.out (.inl false)) (.br (true) (.br (byteAt (itI y2 y1).1 (nat_lit 0) != 97) (.br (true) (.br ((↑(ByteArray.size (itI y2 y1).1):Int) != 2) (.out (.inl false)) (.br (true) (.go (IntKind.i64.wrap (y1 + 1))) .bad)) .bad) (.br (true) (.go (IntKind.i64.wrap (y1 + 1))) .bad)) .bad))) .bad)) .bad)) .bad) (.br (true) (.br (y0 == 3) (.br (true) (.br (byteAt (itI y2 y1).1 (nat_lit 0) == 97) (.br (true) (.br ((↑(List.length (itI y2 y1).2):Int) == 1) (.br (false) (.out (.inl false)) (.br (true) (.br (byteAt (itI y2 y1).1 (nat_lit 0) != 97) (.br (true) (.br ((↑(ByteArray.size (itI y2 y1).1):Int) != 2) (.out (.inl false)) (.br (true) (.go (IntKind.i64.wrap (y1 + 1))) .bad)) .bad) (.br (true) (.go (IntKind.i64.wrap (y1 + 1))) .bad)) .bad)) (.br (true) (.br (y0 == 2) (.br (true) (.br (decide (at_ (.int .i64) (itI y2 y1).2 (nat_lit 0) ≤ 9)) (.br (true) (.br (byteAt (itI y2 y1).1 (nat_lit 0) == 99) (.br (true) (.br ((↑(List.length (itI y2 y1).2):Int) == 2) (.br (false) (.out (.inl false)) (.br (true) (.br (byteAt (itI y2 y1).1 (nat_lit 0) != 97) (.br (true) (.br ((↑(ByteArray.size (itI y2 y1).1):Int) != 2) (.out (.inl false)) (.br (true) (.go (IntKind.i64.wrap (y1 + 1))) .bad)) .bad) (.br (true) (.go (IntKind.i64.wrap (y1 + 1))) .bad)) .bad)) (.br (true) (.br (byteAt (itI y2 y1).1 (nat_lit 0) == 102) (.br (true) (.br ((↑(List.length (itI y2 y1).2):Int) == 3) (.br (decide ((0:Int) ≤ (1:Int) ∧ 1 < (↑(List.length (itI y2 y1).2):Int))) (.br (g_As_l1In (at_ (.int .i64) (itI y2 y1).2 (nat_lit 1)) (1:Int) (99:Int)) (.br (g_Vs_l1In_0 (at_ (.int .i64) (itI y2 y1).2 (nat_lit 1)) (1:Int) (99:Int)) (.br (decide ((0:Int) ≤ (2:Int) ∧ 2 < (↑(List.length (itI y2 y1).2):Int))) (.br (true) (.br (!decide (at_ (.int .i64) (itI y2 y1).2 (nat_lit 2) ≤ 1)) (.out (.inl false)) (.br (true) (.br (byteAt (itI y2 y1).1 (nat_lit 0) != 97) (.br (true) (.br ((↑(ByteArray.size (itI y2 y1).1):Int) != 2) (.out (.inl false)) (.br (true) (.go (IntKind.i64.wrap (y1 + 1))) .bad)) .bad) (.br (true) (.go (IntKind.i64.wrap (y1 + 1))) .bad)) .bad)) .bad) .bad) (.br (true) (.out (.inl false)) (.br (true) (.br (byteAt (itI y2 y1).1 (nat_lit 0) != 97) (.br (true) (.br ((↑(ByteArray.size (itI y2 y1).1):Int) != 2) (.out (.inl false)) (.br (true) (.go (IntKind.i64.wrap (y1 + 1))) .bad)) .bad) (.br (true) (.go (IntKind.i64.wrap (y1 + 1))) .bad)) .bad))) .bad) .bad) (.br (true) (.out (.inl false)) (.br (true) (.br (byteAt (itI y2 y1).1 (nat_lit 0) != 97) (.br (true) (.br ((↑(ByteArray.size (itI y2 y1).1):Int) != 2) (.out (.inl false)) (.br (true) (.go (IntKind.i64.wrap (y1 + 1))) .bad)) .bad) (.br (true) (.go (IntKind.i64.wrap (y1 + 1))) .bad)) .bad))) .bad) (.br (true) (.out (.inl false)) (.br (true) (.br (byteAt (itI y2 y1).1 (nat_lit 0) != 97) (.br (true) (.br ((↑(ByteArray.size (itI y2 y1).1):Int) != 2) (.out (.inl false)) (.br (true) (.go (IntKind.i64.wrap (y1 + 1))) .bad)) .bad) (.br (true) (.go (IntKind.i64.wrap (y1 + 1))) .bad)) .bad))) .bad)) .bad) (.br (true) (.br (byteAt (itI y2 y1).1 (nat_lit 0) == 102) (.br (true) (.br ((↑(List.length (itI y2 y1).2):Int) == 3) (.br (decide ((0:Int) ≤ (1:Int) ∧ 1 < (↑(List.length (itI y2 y1).2):Int))) (.br (g_As_l1In (at_ (.int .i64) (itI y2 y1).2 (nat_lit 1)) (1:Int) (99:Int)) (.br (g_Vs_l1In_0 (at_ (.int .i64) (itI y2 y1).2 (nat_lit 1)) (1:Int) (99:Int)) (.br (decide ((0:Int) ≤ (2:Int) ∧ 2 < (↑(List.length (itI y2 y1).2):Int))) (.br (true) (.br (!decide (at_ (.int .i64) (itI y2 y1).2 (nat_lit 2) ≤ 1)) (.out (.inl false)) (.br (true) (.br (byteAt (itI y2 y1).1 (nat_lit 0) != 97) (.br (true) (.br ((↑(ByteArray.size (itI y2 y1).1):Int) != 2) (.out (.inl false)) (.br (true) (.go (IntKind.i64.wrap (y1 + 1))) .bad)) .bad) (.br (true) (.go (IntKind.i64.wrap (y1 + 1))) .bad)) .bad)) .bad) .bad) (.br (true) (.out (.inl false)) (.br (true) (.br (byteAt (itI y2 y1).1 (nat_lit 0) != 97) (.br (true) (.br ((↑(ByteArray.size (itI y2 y1).1):Int) != 2) (.out (.inl false)) (.br (true) (.go (IntKind.i64.wrap (y1 + 1))) .bad)) .bad) (.br (true) (.go (IntKind.i64.wrap (y1 + 1))) .bad)) .bad))) .bad) .bad) (.br (true) (.out (.inl false)) (.br (true) (.br (byteAt (itI y2 y1).1 (nat_lit 0) != 97) (.br (true) (.br ((↑(ByteArray.size (itI y2 y1).1):Int) != 2) (.out (.inl false)) (.br (true) (.go (IntKind.i64.wrap (y1 + 1))) .bad)) .bad) (.br (true) (.go (IntKind.i64.wrap (y1 + 1))) .bad)) .bad))) .bad) (.br (true) (.out (.inl false)) (.br (true) (.br (byteAt (itI y2 y1).1 (nat_lit 0) != 97) (.br (true) (.br ((↑(ByteArray.size (itI y2 y1).1):Int) != 2) (.out (.inl false)) (.br (true) (.go (IntKind.i64.wrap (y1 + 1))) .bad)) .bad) (.br (true) (.go (IntKind.i64.wrap (y1 + 1))) .bad)) .bad))) .bad)) .bad) (.br (true) (.out (.inl false)) (.br (true) (.br (byteAt (itI y2 y1).1 (nat_lit 0) != 97) (.br (true) (.br ((↑(ByteArray.size (itI y2 y1).1):Int) != 2) (.out (.inl false)) (.br (true) (.go (IntKind.i64.wrap (y1 + 1))) .bad)) .bad) (.br (true) (.go (IntKind.i64.wrap (y1 + 1))) .bad)) .bad))) .bad) (.br (true) (.out (.inl false)) (.br (true) (.br (byteAt (itI y2 y1).1 (nat_lit 0) != 97) (.br (true) (.br ((↑(ByteArray.size (itI y2 y1).1):Int) != 2) (.out (.inl false)) (.br (true) (.go (IntKind.i64.wrap (y1 + 1))) .bad)) .bad) (.br (true) (.go (IntKind.i64.wrap (y1 + 1))) .bad)) .bad))) .bad)) .bad) (.br (true) (.br (y0 == 2) (.br (true) (.br (decide (at_ (.int .i64) (itI y2 y1).2 (nat_lit 0) ≤ 9)) (.br (true) (.br (byteAt (itI y2 y1).1 (nat_lit 0) == 99) (.br (true) (.br ((↑(List.length (itI y2 y1).2):Int) == 2) (.br (false) (.out (.inl false)) (.br (true) (.br (byteAt (itI y2 y1).1 (nat_lit 0) != 97) (.br (true) (.br ((↑(ByteArray.size (itI y2 y1).1):Int) != 2) (.out (.inl false)) (.br (true) (.go (IntKind.i64.wrap (y1 + 1))) .bad)) .bad) (.br (true) (.go (IntKind.i64.wrap (y1 + 1))) .bad)) .bad)) (.br (true) (.br (byteAt (itI y2 y1).1 (nat_lit 0) == 102) (.br (true) (.br ((↑(List.length (itI y2 y1).2):Int) == 3) (.br (decide ((0:Int) ≤ (1:Int) ∧ 1 < (↑(List.length (itI y2 y1).2):Int))) (.br (g_As_l1In (at_ (.int .i64) (itI y2 y1).2 (nat_lit 1)) (1:Int) (99:Int)) (.br (g_Vs_l1In_0 (at_ (.int .i64) (itI y2 y1).2 (nat_lit 1)) (1:Int) (99:Int)) (.br (decide ((0:Int) ≤ (2:Int) ∧ 2 < (↑(List.length (itI y2 y1).2):Int))) (.br (true) (.br (!decide (at_ (.int .i64) (itI y2 y1).2 (nat_lit 2) ≤ 1)) (.out (.inl false)) (.br (true) (.br (byteAt (itI y2 y1).1 (nat_lit 0) != 97) (.br (true) (.br ((↑(ByteArray.size (itI y2 y1).1):Int) != 2) (.out (.inl false)) (.br (true) (.go (IntKind.i64.wrap (y1 + 1))) .bad)) .bad) (.br (true) (.go (IntKind.i64.wrap (y1 + 1))) .bad)) .bad)) .bad) .bad) (.br (true) (.out (.inl false)) (.br (true) (.br (byteAt (itI y2 y1).1 (nat_lit 0) != 97) (.br (true) (.br ((↑(ByteArray.size (itI y2 y1).1):Int) != 2) (.out (.inl false)) (.br (true) (.go (IntKind.i64.wrap (y1 + 1))) .bad)) .bad) (.br (true) (.go (IntKind.i64.wrap (y1 + 1))) .bad)) .bad))) .bad) .bad) (.br (true) (.out (.inl false)) (.br (true) (.br (byteAt (itI y2 y1).1 (nat_lit 0) != 97) (.br (true) (.br ((↑(ByteArray.size (itI y2 y1).1):Int) != 2) (.out (.inl false)) (.br (true) (.go (IntKind.i64.wrap (y1 + 1))) .bad)) .bad) (.br (true) (.go (IntKind.i64.wrap (y1 + 1))) .bad)) .bad))) .bad) (.br (true) (.out (.inl false)) (.br (true) (.br (byteAt (itI y2 y1).1 (nat_lit 0) != 97) (.br (true) (.br ((↑(ByteArray.size (itI y2 y1).1):Int) != 2) (.out (.inl false)) (.br (true) (.go (IntKind.i64.wrap (y1 + 1))) .bad)) .bad) (.br (true) (.go (IntKind.i64.wrap (y1 + 1))) .bad)) .bad))) .bad)) .bad) (.br (true) (.br (byteAt (itI y2 y1).1 (nat_lit 0) == 102) (.br (true) (.br ((↑(List.length (itI y2 y1).2):Int) == 3) (.br (decide ((0:Int) ≤ (1:Int) ∧ 1 < (↑(List.length (itI y2 y1).2):Int))) (.br (g_As_l1In (at_ (.int .i64) (itI y2 y1).2 (nat_lit 1)) (1:Int) (99:Int)) (.br (g_Vs_l1In_0 (at_ (.int .i64) (itI y2 y1).2 (nat_lit 1)) (1:Int) (99:Int)) (.br (decide ((0:Int) ≤ (2:Int) ∧ 2 < (↑(List.length (itI y2 y1).2):Int))) (.br (true) (.br (!decide (at_ (.int .i64) (itI y2 y1).2 (nat_lit 2) ≤ 1)) (.out (.inl false)) (.br (true) (.br (byteAt (itI y2 y1).1 (nat_lit 0) != 97) (.br (true) (.br ((↑(ByteArray.size (itI y2 y1).1):Int) != 2) (.out (.inl false)) (.br (true) (.go (IntKind.i64.wrap (y1 + 1))) .bad)) .bad) (.br (true) (.go (IntKind.i64.wrap (y1 + 1))) .bad)) .bad)) .bad) .bad) (.br (true) (.out (.inl false)) (.br (true) (.br (byteAt (itI y2 y1).1 (nat_lit 0) != 97) (.br (true) (.br ((↑(ByteArray.size (itI y2 y1).1):Int) != 2) (.out (.inl false)) (.br (true) (.go (IntKind.i64.wrap (y1 + 1))) .bad)) .bad) (.br (true) (.go (IntKind.i64.wrap (y1 + 1))) .bad)) .bad))) .bad) .bad) (.br (true) (.out (.inl false)) (.br (true) (.br (byteAt (itI y2 y1).1 (nat_lit 0) != 97) (.br (true) (.br ((↑(ByteArray.size (itI y2 y1).1):Int) != 2) (.out (.inl false)) (.br (true) (.go (IntKind.i64.wrap (y1 + 1))) .bad)) .bad) (.br (true) (.go (IntKind.i64.wrap (y1 + 1))) .bad)) .bad))) .bad) (.br (true) (.out (.inl false)) (.br (true) (.br (byteAt (itI y2 y1).1 (nat_lit 0) != 97) (.br (true) (.br ((↑(ByteArray.size (itI y2 y1).1):Int) != 2) (.out (.inl false)) (.br (true) (.go (IntKind.i64.wrap (y1 + 1))) .bad)) .bad) (.br (true) (.go (IntKind.i64.wrap (y1 + 1))) .bad)) .bad))) .bad)) .bad) (.br (true) (.out (.inl false)) (.br (true) (.br (byteAt (itI y2 y1).1 (nat_lit 0) != 97) (.br (true) (.br ((↑(ByteArray.size (itI y2 y1).1):Int) != 2) (.out (.inl false)) (.br (true) (.go (IntKind.i64.wrap (y1 + 1))) .bad)) .bad) (.br (true) (.go (IntKind.i64.wrap (y1 + 1))) .bad)) .bad))) .bad) (.br (true) (.out (.inl false)) (.br (true) (.br (byteAt (itI y2 y1).1 (nat_lit 0) != 97) (.br (true) (.br ((↑(ByteArray.size (itI y2 y1).1):Int) != 2) (.out (.inl false)) (.br (true) (.go (IntKind.i64.wrap (y1 + 1))) .bad)) .bad) (.br (true) (.go (IntKind.i64.wrap (y1 + 1))) .bad)) .bad))) .bad)) .bad) (.br (true) (.br (y0 == 2) (.br (true) (.br (decide (at_ (.int .i64) (itI y2 y1).2 (nat_lit 0) ≤ 9)) (.br (true) (.br (byteAt (itI y2 y1).1 (nat_lit 0) == 99) (.br (true) (.br ((↑(List.length (itI y2 y1).2):Int) == 2) (.br (false) (.out (.inl false)) (.br (true) (.br (byteAt (itI y2 y1).1 (nat_lit 0) != 97) (.br (true) (.br ((↑(ByteArray.size (itI y2 y1).1):Int) != 2) (.out (.inl false)) (.br (true) (.go (IntKind.i64.wrap (y1 + 1))) .bad)) .bad) (.br (true) (.go (IntKind.i64.wrap (y1 + 1))) .bad)) .bad)) (.br (true) (.br (byteAt (itI y2 y1).1 (nat_lit 0) == 102) (.br (true) (.br ((↑(List.length (itI y2 y1).2):Int) == 3) (.br (decide ((0:Int) ≤ (1:Int) ∧ 1 < (↑(List.length (itI y2 y1).2):Int))) (.br (g_As_l1In (at_ (.int .i64) (itI y2 y1).2 (nat_lit 1)) (1:Int) (99:Int)) (.br (g_Vs_l1In_0 (at_ (.int .i64) (itI y2 y1).2 (nat_lit 1)) (1:Int) (99:Int)) (.br (decide ((0:Int) ≤ (2:Int) ∧ 2 < (↑(List.length (itI y2 y1).2):Int))) (.br (true) (.br (!decide (at_ (.int .i64) (itI y2 y1).2 (nat_lit 2) ≤ 1)) (.out (.inl false)) (.br (true) (.br (byteAt (itI y2 y1).1 (nat_lit 0) != 97) (.br (true) (.br ((↑(ByteArray.size (itI y2 y1).1):Int) != 2) (.out (.inl false)) (.br (true) (.go (IntKind.i64.wrap (y1 + 1))) .bad)) .bad) (.br (true) (.go (IntKind.i64.wrap (y1 + 1))) .bad)) .bad)) .bad) .bad) (.br (true) (.out (.inl false)) (.br (true) (.br (byteAt (itI y2 y1).1 (nat_lit 0) != 97) (.br (true) (.br ((↑(ByteArray.size (itI y2 y1).1):Int) != 2) (.out (.inl false)) (.br (true) (.go (IntKind.i64.wrap (y1 + 1))) .bad)) .bad) (.br (true) (.go (IntKind.i64.wrap (y1 + 1))) .bad)) .bad))) .bad) .bad) (.br (true) (.out (.inl false)) (.br (true) (.br (byteAt (itI y2 y1).1 (nat_lit 0) != 97) (.br (true) (.br ((↑(ByteArray.size (itI y2 y1).1):Int) != 2) (.out (.inl false)) (.br (true) (.go (IntKind.i64.wrap (y1 + 1))) .bad)) .bad) (.br (true) (.go (IntKind.i64.wrap (y1 + 1))) .bad)) .bad))) .bad) (.br (true) (.out (.inl false)) (.br (true) (.br (byteAt (itI y2 y1).1 (nat_lit 0) != 97) (.br (true) (.br ((↑(ByteArray.size (itI y2 y1).1):Int) != 2) (.out (.inl false)) (.br (true) (.go (IntKind.i64.wrap (y1 + 1))) .bad)) .bad) (.br (true) (.go (IntKind.i64.wrap (y1 + 1))) .bad)) .bad))) .bad)) .bad) (.br (true) (.br (byteAt (itI y2 y1).1 (nat_lit 0) == 102) (.br (true) (.br ((↑(List.length (itI y2 y1).2):Int) == 3) (.br (decide ((0:Int) ≤ (1:Int) ∧ 1 < (↑(List.length (itI y2 y1).2):Int))) (.br (g_As_l1In (at_ (.int .i64) (itI y2 y1).2 (nat_lit 1)) (1:Int) (99:Int)) (.br (g_Vs_l1In_0 (at_ (.int .i64) (itI y2 y1).2 (nat_lit 1)) (1:Int) (99:Int)) (.br (decide ((0:Int) ≤ (2:Int) ∧ 2 < (↑(List.length (itI y2 y1).2):Int))) (.br (true) (.br (!decide (at_ (.int .i64) (itI y2 y1).2 (nat_lit 2) ≤ 1)) (.out (.inl false)) (.br (true) (.br (byteAt (itI y2 y1).1 (nat_lit 0) != 97) (.br (true) (.br ((↑(ByteArray.size (itI y2 y1).1):Int) != 2) (.out (.inl false)) (.br (true) (.go (IntKind.i64.wrap (y1 + 1))) .bad)) .bad) (.br (true) (.go (IntKind.i64.wrap (y1 + 1))) .bad)) .bad)) .bad) .bad) (.br (true) (.out (.inl false)) (.br (true) (.br (byteAt (itI y2 y1).1 (nat_lit 0) != 97) (.br (true) (.br ((↑(ByteArray.size (itI y2 y1).1):Int) != 2) (.out (.inl false)) (.br (true) (.go (IntKind.i64.wrap (y1 + 1))) .bad)) .bad) (.br (true) (.go (IntKind.i64.wrap (y1 + 1))) .bad)) .bad))) .bad) .bad) (.br (true) (.out (.inl false)) (.br (true) (.br (byteAt (itI y2 y1).1 (nat_lit 0) != 97) (.br (true) (.br ((↑(ByteArray.size (itI y2 y1).1):Int) != 2) (.out (.inl false)) (.br (true) (.go (IntKind.i64.wrap (y1 + 1))) .bad)) .bad) (.br (true) (.go (IntKind.i64.wrap (y1 + 1))) .bad)) .bad))) .bad) (.br (true) (.out (.inl false)) (.br (true) (.br (byteAt (itI y2 y1).1 (nat_lit 0) != 97) (.br (true) (.br ((↑(ByteArray.size (itI y2 y1).1):Int) != 2) (.out (.inl false)) (.br (true) (.go (IntKind.i64.wrap (y1 + 1))) .bad)) .bad) (.br (true) (.go (IntKind.i64.wrap (y1 + 1))) .bad)) .bad))) .bad)) .bad) (.br (true) (.out (.inl false)) (.br (true) (.br (byteAt (itI y2 y1).1 (nat_lit 0) != 97) (.br (true) (.br ((↑(ByteArray.size (itI y2 y1).1):Int) != 2) (.out (.inl false)) (.br (true) (.go (IntKind.i64.wrap (y1 + 1))) .bad)) .bad) (.br (true) (.go (IntKind.i64.wrap (y1 + 1))) .bad)) .bad))) .bad) (.br (true) (.out (.inl false)) (.br (true) (.br (byteAt (itI y2 y1).1 (nat_lit 0) != 97) (.br (true) (.br ((↑(ByteArray.size (itI y2 y1).1):Int) != 2) (.out (.inl false)) (.br (true) (.go (IntKind.i64.wrap (y1 + 1))) .bad)) .bad) (.br (true) (.go (IntKind.i64.wrap (y1 + 1))) .bad)) .bad))) .bad)) .bad)) .bad) (.br (true) (.br (y0 == 3) (.br (true) (.br (byteAt (itI y2 y1).1 (nat_lit 0) == 97) (.br (true) (.br ((↑(List.length (itI y2 y1).2):Int) == 1) (.br (false) (.out (.inl false)) (.br (true) (.br (byteAt (itI y2 y1).1 (nat_lit 0) != 97) (.br (true) (.br ((↑(ByteArray.size (itI y2 y1).1):Int) != 2) (.out (.inl false)) (.br (true) (.go (IntKind.i64.wrap (y1 + 1))) .bad)) .bad) (.br (true) (.go (IntKind.i64.wrap (y1 + 1))) .bad)) .bad)) (.br (true) (.br (y0 == 2) (.br (true) (.br (decide (at_ (.int .i64) (itI y2 y1).2 (nat_lit 0) ≤ 9)) (.br (true) (.br (byteAt (itI y2 y1).1 (nat_lit 0) == 99) (.br (true) (.br ((↑(List.length (itI y2 y1).2):Int) == 2) (.br (false) (.out (.inl false)) (.br (true) (.br (byteAt (itI y2 y1).1 (nat_lit 0) != 97) (.br (true) (.br ((↑(ByteArray.size (itI y2 y1).1):Int) != 2) (.out (.inl false)) (.br (true) (.go (IntKind.i64.wrap (y1 + 1))) .bad)) .bad) (.br (true) (.go (IntKind.i64.wrap (y1 + 1))) .bad)) .bad)) (.br (true) (.br (byteAt (itI y2 y1).1 (nat_lit 0) == 102) (.br (true) (.br ((↑(List.length (itI y2 y1).2):Int) == 3) (.br (decide ((0:Int) ≤ (1:Int) ∧ 1 < (↑(List.length (itI y2 y1).2):Int))) (.br (g_As_l1In (at_ (.int .i64) (itI y2 y1).2 (nat_lit 1)) (1:Int) (99:Int)) (.br (g_Vs_l1In_0 (at_ (.int .i64) (itI y2 y1).2 (nat_lit 1)) (1:Int) (99:Int)) (.br (decide ((0:Int) ≤ (2:Int) ∧ 2 < (↑(List.length (itI y2 y1).2):Int))) (.br (true) (.br (!decide (at_ (.int .i64) (itI y2 y1).2 (nat_lit 2) ≤ 1)) (.out (.inl false)) (.br (true) (.br (byteAt (itI y2 y1).1 (nat_lit 0) != 97) (.br (true) (.br ((↑(ByteArray.size (itI y2 y1).1):Int) != 2) (.out (.inl false)) (.br (true) (.go (IntKind.i64.wrap (y1 + 1))) .bad)) .bad) (.br (true) (.go (IntKind.i64.wrap (y1 + 1))) .bad)) .bad)) .bad) .bad) (.br (true) (.out (.inl false)) (.br (true) (.br (byteAt (itI y2 y1).1 (nat_lit 0) != 97) (.br (true) (.br ((↑(ByteArray.size (itI y2 y1).1):Int) != 2) (.out (.inl false)) (.br (true) (.go (IntKind.i64.wrap (y1 + 1))) .bad)) .bad) (.br (true) (.go (IntKind.i64.wrap (y1 + 1))) .bad)) .bad))) .bad) .bad) (.br (true) (.out (.inl false)) (.br (true) (.br (byteAt (itI y2 y1).1 (nat_lit 0) != 97) (.br (true) (.br ((↑(ByteArray.size (itI y2 y1).1):Int) != 2) (.out (.inl false)) (.br (true) (.go (IntKind.i64.wrap (y1 + 1))) .bad)) .bad) (.br (true) (.go (IntKind.i64.wrap (y1 + 1))) .bad)) .bad))) .bad) (.br (true) (.out (.inl false)) (.br (true) (.br (byteAt (itI y2 y1).1 (nat_lit 0) != 97) (.br (true) (.br ((↑(ByteArray.size (itI y2 y1).1):Int) != 2) (.out (.inl false)) (.br (true) (.go (IntKind.i64.wrap (y1 + 1))) .bad)) .bad) (.br (true) (.go (IntKind.i64.wrap (y1 + 1))) .bad)) .bad))) .bad)) .bad) (.br (true) (.br (byteAt (itI y2 y1).1 (nat_lit 0) == 102) (.br (true) (.br ((↑(List.length (itI y2 y1).2):Int) == 3) (.br (decide ((0:Int) ≤ (1:Int) ∧ 1 < (↑(List.length (itI y2 y1).2):Int))) (.br (g_As_l1In (at_ (.int .i64) (itI y2 y1).2 (nat_lit 1)) (1:Int) (99:Int)) (.br (g_Vs_l1In_0 (at_ (.int .i64) (itI y2 y1).2 (nat_lit 1)) (1:Int) (99:Int)) (.br (decide ((0:Int) ≤ (2:Int) ∧ 2 < (↑(List.length (itI y2 y1).2):Int))) (.br (true) (.br (!decide (at_ (.int .i64) (itI y2 y1).2 (nat_lit 2) ≤ 1)) (.out (.inl false)) (.br (true) (.br (byteAt (itI y2 y1).1 (nat_lit 0) != 97) (.br (true) (.br ((↑(ByteArray.size (itI y2 y1).1):Int) != 2) (.out (.inl false)) (.br (true) (.go (IntKind.i64.wrap (y1 + 1))) .bad)) .bad) (.br (true) (.go (IntKind.i64.wrap (y1 + 1))) .bad)) .bad)) .bad) .bad) (.br (true) (.out (.inl false)) (.br (true) (.br (byteAt (itI y2 y1).1 (nat_lit 0) != 97) (.br (true) (.br ((↑(ByteArray.size (itI y2 y1).1):Int) != 2) (.out (.inl false)) (.br (true) (.go (IntKind.i64.wrap (y1 + 1))) .bad)) .bad) (.br (true) (.go (IntKind.i64.wrap (y1 + 1))) .bad)) .bad))) .bad) .bad) (.br (true) (.out (.inl false)) (.br (true) (.br (byteAt (itI y2 y1).1 (nat_lit 0) != 97) (.br (true) (.br ((↑(ByteArray.size (itI y2 y1).1):Int) != 2) (.out (.inl false)) (.br (true) (.go (IntKind.i64.wrap (y1 + 1))) .bad)) .bad) (.br (true) (.go (IntKind.i64.wrap (y1 + 1))) .bad)) .bad))) .bad) (.br (true) (.out (.inl false)) (.br (true) (.br (byteAt (itI y2 y1).1 (nat_lit 0) != 97) (.br (true) (.br ((↑(ByteArray.size (itI y2 y1).1):Int) != 2) (.out (.inl false)) (.br (true) (.go (IntKind.i64.wrap (y1 + 1))) .bad)) .bad) (.br (true) (.go (IntKind.i64.wrap (y1 + 1))) .bad)) .bad))) .bad)) .bad) (.br (true) (.out (.inl false)) (.br (true) (.br (byteAt (itI y2 y1).1 (nat_lit 0) != 97) (.br (true) (.br ((↑(ByteArray.size (itI y2 y1).1):Int) != 2) (.out (.inl false)) (.br (true) (.go (IntKind.i64.wrap (y1 + 1))) .bad)) .bad) (.br (true) (.go (IntKind.i64.wrap (y1 + 1))) .bad)) .bad))) .bad) (.br (true) (.out (.inl false)) (.br (true) (.br (byteAt (itI y2 y1).1 (nat_lit 0) != 97) (.br (true) (.br ((↑(ByteArray.size (itI y2 y1).1):Int) != 2) (.out (.inl false)) (.br (true) (.go (IntKind.i64.wrap (y1 + 1))) .bad)) .bad) (.br (true) (.go (IntKind.i64.wrap (y1 + 1))) .bad)) .bad))) .bad)) .bad) (.br (true) (.br (y0 == 2) (.br (true) (.br (decide (at_ (.int .i64) (itI y2 y1).2 (nat_lit 0) ≤ 9)) (.br (true) (.br (byteAt (itI y2 y1).1 (nat_lit 0) == 99) (.br (true) (.br ((↑(List.length (itI y2 y1).2):Int) == 2) (.br (false) (.out (.inl false)) (.br (true) (.br (byteAt (itI y2 y1).1 (nat_lit 0) != 97) (.br (true) (.br ((↑(ByteArray.size (itI y2 y1).1):Int) != 2) (.out (.inl false)) (.br (true) (.go (IntKind.i64.wrap (y1 + 1))) .bad)) .bad) (.br (true) (.go (IntKind.i64.wrap (y1 + 1))) .bad)) .bad)) (.br (true) (.br (byteAt (itI y2 y1).1 (nat_lit 0) == 102) (.br (true) (.br ((↑(List.length (itI y2 y1).2):Int) == 3) (.br (decide ((0:Int) ≤ (1:Int) ∧ 1 < (↑(List.length (itI y2 y1).2):Int))) (.br (g_As_l1In (at_ (.int .i64) (itI y2 y1).2 (nat_lit 1)) (1:Int) (99:Int)) (.br (g_Vs_l1In_0 (at_ (.int .i64) (itI y2 y1).2 (nat_lit 1)) (1:Int) (99:Int)) (.br (decide ((0:Int) ≤ (2:Int) ∧ 2 < (↑(List.length (itI y2 y1).2):Int))) (.br (true) (.br (!decide (at_ (.int .i64) (itI y2 y1).2 (nat_lit 2) ≤ 1)) (.out (.inl false)) (.br (true) (.br (byteAt (itI y2 y1).1 (nat_lit 0) != 97) (.br (true) (.br ((↑(ByteArray.size (itI y2 y1).1):Int) != 2) (.out (.inl false)) (.br (true) (.go (IntKind.i64.wrap (y1 + 1))) .bad)) .bad) (.br (true) (.go (IntKind.i64.wrap (y1 + 1))) .bad)) .bad)) .bad) .bad) (.br (true) (.out (.inl false)) (.br (true) (.br (byteAt (itI y2 y1).1 (nat_lit 0) != 97) (.br (true) (.br ((↑(ByteArray.size (itI y2 y1).1):Int) != 2) (.out (.inl false)) (.br (true) (.go (IntKind.i64.wrap (y1 + 1))) .bad)) .bad) (.br (true) (.go (IntKind.i64.wrap (y1 + 1))) .bad)) .bad))) .bad) .bad) (.br (true) (.out (.inl false)) (.br (true) (.br (byteAt (itI y2 y1).1 (nat_lit 0) != 97) (.br (true) (.br ((↑(ByteArray.size (itI y2 y1).1):Int) != 2) (.out (.inl false)) (.br (true) (.go (IntKind.i64.wrap (y1 + 1))) .bad)) .bad) (.br (true) (.go (IntKind.i64.wrap (y1 + 1))) .bad)) .bad))) .bad) (.br (true) (.out (.inl false)) (.br (true) (.br (byteAt (itI y2 y1).1 (nat_lit 0) != 97) (.br (true) (.br ((↑(ByteArray.size (itI y2 y1).1):Int) != 2) (.out (.inl false)) (.br (true) (.go (IntKind.i64.wrap (y1 + 1))) .bad)) .bad) (.br (true) (.go (IntKind.i64.wrap (y1 + 1))) .bad)) .bad))) .bad)) .bad) (.br (true) (.br (byteAt (itI y2 y1).1 (nat_lit 0) == 102) (.br (true) (.br ((↑(List.length (itI y2 y1).2):Int) == 3) (.br (decide ((0:Int) ≤ (1:Int) ∧ 1 < (↑(List.length (itI y2 y1).2):Int))) (.br (g_As_l1In (at_ (.int .i64) (itI y2 y1).2 (nat_lit 1)) (1:Int) (99:Int)) (.br (g_Vs_l1In_0 (at_ (.int .i64) (itI y2 y1).2 (nat_lit 1)) (1:Int) (99:Int)) (.br (decide ((0:Int) ≤ (2:Int) ∧ 2 < (↑(List.length (itI y2 y1).2):Int))) (.br (true) (.br (!decide (at_ (.int .i64) (itI y2 y1).2 (nat_lit 2) ≤ 1)) (.out (.inl false)) (.br (true) (.br (byteAt (itI y2 y1).1 (nat_lit 0) != 97) (.br (true) (.br ((↑(ByteArray.size (itI y2 y1).1):Int) != 2) (.out (.inl false)) (.br (true) (.go (IntKind.i64.wrap (y1 + 1))) .bad)) .bad) (.br (true) (.go (IntKind.i64.wrap (y1 + 1))) .bad)) .bad)) .bad) .bad) (.br (true) (.out (.inl false)) (.br (true) (.br (byteAt (itI y2 y1).1 (nat_lit 0) != 97) (.br (true) (.br ((↑(ByteArray.size (itI y2 y1).1):Int) != 2) (.out (.inl false)) (.br (true) (.go (IntKind.i64.wrap (y1 + 1))) .bad)) .bad) (.br (true) (.go (IntKind.i64.wrap (y1 + 1))) .bad)) .bad))) .bad) .bad) (.br (true) (.out (.inl false)) (.br (true) (.br (byteAt (itI y2 y1).1 (nat_lit 0) != 97) (.br (true) (.br ((↑(ByteArray.size (itI y2 y1).1):Int) != 2) (.out (.inl false)) (.br (true) (.go (IntKind.i64.wrap (y1 + 1))) .bad)) .bad) (.br (true) (.go (IntKind.i64.wrap (y1 + 1))) .bad)) .bad))) .bad) (.br (true) (.out (.inl false)) (.br (true) (.br (byteAt (itI y2 y1).1 (nat_lit 0) != 97) (.br (true) (.br ((↑(ByteArray.size (itI y2 y1).1):Int) != 2) (.out (.inl false)) (.br (true) (.go (IntKind.i64.wrap (y1 + 1))) .bad)) .bad) (.br (true) (.go (IntKind.i64.wrap (y1 + 1))) .bad)) .bad))) .bad)) .bad) (.br (true) (.out (.inl false)) (.br (true) (.br (byteAt (itI y2 y1).1 (nat_lit 0) != 97) (.br (true) (.br ((↑(ByteArray.size (itI y2 y1).1):Int) != 2) (.out (.inl false)) (.br (true) (.go (IntKind.i64.wrap (y1 + 1))) .bad)) .bad) (.br (true) (.go (IntKind.i64.wrap (y1 + 1))) .bad)) .bad))) .bad) (.br (true) (.out (.inl false)) (.br (true) (.br (byteAt (itI y2 y1).1 (nat_lit 0) != 97) (.br (true) (.br ((↑(ByteArray.size (itI y2 y1).1):Int) != 2) (.out (.inl false)) (.br (true) (.go (IntKind.i64.wrap (y1 + 1))) .bad)) .bad) (.br (true) (.go (IntKind.i64.wrap (y1 + 1))) .bad)) .bad))) .bad)) .bad) (.br (true) (.br (y0 == 2) (.br (true) (.br (decide (at_ (.int .i64) (itI y2 y1).2 (nat_lit 0) ≤ 9)) (.br (true) (.br (byteAt (itI y2 y1).1 (nat_lit 0) == 99) (.br (true) (.br ((↑(List.length (itI y2 y1).2):Int) == 2) (.br (false) (.out (.inl false)) (.br (true) (.br (byteAt (itI y2 y1).1 (nat_lit 0) != 97) (.br (true) (.br ((↑(ByteArray.size (itI y2 y1).1):Int) != 2) (.out (.inl false)) (.br (true) (.go (IntKind.i64.wrap (y1 + 1))) .bad)) .bad) (.br (true) (.go (IntKind.i64.wrap (y1 + 1))) .bad)) .bad)) (.br (true) (.br (byteAt (itI y2 y1).1 (nat_lit 0) == 102) (.br (true) (.br ((↑(List.length (itI y2 y1).2):Int) == 3) (.br (decide ((0:Int) ≤ (1:Int) ∧ 1 < (↑(List.length (itI y2 y1).2):Int))) (.br (g_As_l1In (at_ (.int .i64) (itI y2 y1).2 (nat_lit 1)) (1:Int) (99:Int)) (.br (g_Vs_l1In_0 (at_ (.int .i64) (itI y2 y1).2 (nat_lit 1)) (1:Int) (99:Int)) (.br (decide ((0:Int) ≤ (2:Int) ∧ 2 < (↑(List.length (itI y2 y1).2):Int))) (.br (true) (.br (!decide (at_ (.int .i64) (itI y2 y1).2 (nat_lit 2) ≤ 1)) (.out (.inl false)) (.br (true) (.br (byteAt (itI y2 y1).1 (nat_lit 0) != 97) (.br (true) (.br ((↑(ByteArray.size (itI y2 y1).1):Int) != 2) (.out (.inl false)) (.br (true) (.go (IntKind.i64.wrap (y1 + 1))) .bad)) .bad) (.br (true) (.go (IntKind.i64.wrap (y1 + 1))) .bad)) .bad)) .bad) .bad) (.br (true) (.out (.inl false)) (.br (true) (.br (byteAt (itI y2 y1).1 (nat_lit 0) != 97) (.br (true) (.br ((↑(ByteArray.size (itI y2 y1).1):Int) != 2) (.out (.inl false)) (.br (true) (.go (IntKind.i64.wrap (y1 + 1))) .bad)) .bad) (.br (true) (.go (IntKind.i64.wrap (y1 + 1))) .bad)) .bad))) .bad) .bad) (.br (true) (.out (.inl false)) (.br (true) (.br (byteAt (itI y2 y1).1 (nat_lit 0) != 97) (.br (true) (.br ((↑(ByteArray.size (itI y2 y1).1):Int) != 2) (.out (.inl false)) (.br (true) (.go (IntKind.i64.wrap (y1 + 1))) .bad)) .bad) (.br (true) (.go (IntKind.i64.wrap (y1 + 1))) .bad)) .bad))) .bad) (.br (true) (.out (.inl false)) (.br (true) (.br (byteAt (itI y2 y1).1 (nat_lit 0) != 97) (.br (true) (.br ((↑(ByteArray.size (itI y2 y1).1):Int) != 2) (.out (.inl false)) (.br (true) (.go (IntKind.i64.wrap (y1 + 1))) .bad)) .bad) (.br (true) (.go (IntKind.i64.wrap (y1 + 1))) .bad)) .bad))) .bad)) .bad) (.br (true) (.br (byteAt (itI y2 y1).1 (nat_lit 0) == 102) (.br (true) (.br ((↑(List.length (itI y2 y1).2):Int) == 3) (.br (decide ((0:Int) ≤ (1:Int) ∧ 1 < (↑(List.length (itI y2 y1).2):Int))) (.br (g_As_l1In (at_ (.int .i64) (itI y2 y1).2 (nat_lit 1)) (1:Int) (99:Int)) (.br (g_Vs_l1In_0 (at_ (.int .i64) (itI y2 y1).2 (nat_lit 1)) (1:Int) (99:Int)) (.br (decide ((0:Int) ≤ (2:Int) ∧ 2 < (↑(List.length (itI y2 y1).2):Int))) (.br (true) (.br (!decide (at_ (.int .i64) (itI y2 y1).2 (nat_lit 2) ≤ 1)) (.out (.inl false)) (.br (true) (.br (byteAt (itI y2 y1).1 (nat_lit 0) != 97) (.br (true) (.br ((↑(ByteArray.size (itI y2 y1).1):Int) != 2) (.out (.inl false)) (.br (true) (.go (IntKind.i64.wrap (y1 + 1))) .bad)) .bad) (.br (true) (.go (IntKind.i64.wrap (y1 + 1))) .bad)) .bad)) .bad) .bad) (.br (true) (.out (.inl false)) (.br (true) (.br (byteAt (itI y2 y1).1 (nat_lit 0) != 97) (.br (true) (.br ((↑(ByteArray.size (itI y2 y1).1):Int) != 2) (.out (.inl false)) (.br (true) (.go (IntKind.i64.wrap (y1 + 1))) .bad)) .bad) (.br (true) (.go (IntKind.i64.wrap (y1 + 1))) .bad)) .bad))) .bad) .bad) (.br (true) (.out (.inl false)) (.br (true) (.br (byteAt (itI y2 y1).1 (nat_lit 0) != 97) (.br (true) (.br ((↑(ByteArray.size (itI y2 y1).1):Int) != 2) (.out (.inl false)) (.br (true) (.go (IntKind.i64.wrap (y1 + 1))) .bad)) .bad) (.br (true) (.go (IntKind.i64.wrap (y1 + 1))) .bad)) .bad))) .bad) (.br (true) (.out (.inl false)) (.br (true) (.br (byteAt (itI y2 y1).1 (nat_lit 0) != 97) (.br (true) (.br ((↑(ByteArray.size (itI y2 y1).1):Int) != 2) (.out (.inl false)) (.br (true) (.go (IntKind.i64.wrap (y1 + 1))) .bad)) .bad) (.br (true) (.go (IntKind.i64.wrap (y1 + 1))) .bad)) .bad))) .bad)) .bad) (.br (true) (.out (.inl false)) (.br (true) (.br (byteAt (itI y2 y1).1 (nat_lit 0) != 97) (.br (true) (.br ((↑(ByteArray.size (itI y2 y1).1):Int) != 2) (.out (.inl false)) (.br (true) (.go (IntKind.i64.wrap (y1 + 1))) .bad)) .bad) (.br (true) (.go (IntKind.i64.wrap (y1 + 1))) .bad)) .bad))) .bad) (.br (true) (.out (.inl false)) (.br (true) (.br (byteAt (itI y2 y1).1 (nat_lit 0) != 97) (.br (true) (.br ((↑(ByteArray.size (itI y2 y1).1):Int) != 2) (.out (.inl false)) (.br (true) (.go (IntKind.i64.wrap (y1 + 1))) .bad)) .bad) (.br (true) (.go (IntKind.i64.wrap (y1 + 1))) .bad)) .bad))) .bad)) .bad)) .bad) .bad) .bad) .bad) (.out (.inr (())))) .bad
noncomputable def g_Ls_l3Form_0 (y0:Int) (y2:tS) (x:Int):Option ((Bool) ⊕ (Unit)) := loopO (g_Ss_l3Form_0 y0 y2) x
noncomputable def xs_l3Form_0 (y0:Int) (y2:tS):((Bool) ⊕ (Unit)) → Ex×List (Pl×LV) := fun
 | .inl r => (.ret,[(.T 4,.t (.val false [.bool r]))])
 | .inr (r) => (.exit 0,[(.T 4,.t (.val false [.undef]))])
noncomputable def Os_l3Form_1:Orc := fun b h => match b,h with
 | 0,[(.T 0,.t (.val false [.int .i64 y0])),(.T 3,.t (.val false [.ptr 3 0 0])),(.T 5,.t (.val false [.int .i64 y1])),(.B 3,.b 0 false [.sl .any 158 (.pair .str (.sl 3 (.int .i64))) y2])] => some (okO (g_Ls_l3Form_0 y0 y2 y1),(.br (isL (valO (g_Ls_l3Form_0 y0 y2 y1))) (.leaf .ret [(.T 4,.t (.val false [.bool (getL (valO (g_Ls_l3Form_0 y0 y2 y1)))]))]) (.leaf (.exit 0) [(.T 4,.t (.val false [.undef]))])))
 | b,h => Os_l3Form_0 b h
theorem bs_l3Form_0 (y0:Int) (y1:Int) (y2:tS):Tr.bt Es_l3Form Os_l3Form_0 (exec Es_l3Form 0 cs_l3Form_0 (St.of (hs_l3Form_0 y0 y1 y2)) (leafRd Es_l3Form 0)) = (g_Ss_l3Form_0 y0 y2 y1).bt (fun (y1:Int) => (hs_l3Form_0 y0 y1 y2)) (xs_l3Form_0 y0 y2) := by kernel_rfl
theorem ks_l3Form_1:OrcOk Es_l3Form Os_l3Form_1 lss_l3Form 1 := orc_add ks_l3Form_0 (fun n p hp h ex h' ho => by
 obtain ⟨b,c⟩ := p
 obtain ⟨xt,h1,h2⟩ := ho
 have h1:Os_l3Form_1 b h = some (true,xt) := h1
 unfold Os_l3Form_1 at h1
 split at h1
 ·injection h1 with h1
  injection h1 with e1 e2
  subst e2
  have hc:c = cs_l3Form_0 := ms_l3Form_0 _ hp rfl
  subst hc
  right
  rename_i y0 y1 y2
  have key := LT_step ks_l3Form_0 hp (fun q hq => loopsAll_in _ _ _ _ hp hq) (fun (y1:Int) => (hs_l3Form_0 y0 y1 y2)) (xs_l3Form_0 y0 y2) (g_Ss_l3Form_0 y0 y2) (fun x => by first | exact bs_l3Form_0 y0 x y2) n (x := y1) (okO_some e1)
  have hx:∀ r,XT.sel (.br (isL r) (.leaf .ret [(.T 4,.t (.val false [.bool (getL r)]))]) (.leaf (.exit 0) [(.T 4,.t (.val false [.undef]))])) = xs_l3Form_0 y0 y2 r := fun r => by first | rfl | rcases r with r | r <;> rfl | rcases r with r | r | r <;> rfl | rcases r with r | r | r | r <;> rfl
  have h3 := (hx (valO (g_Ls_l3Form_0 y0 y2 y1))).symm.trans h2
  have e3 := congrArg Prod.fst h3
  have e4 := congrArg Prod.snd h3
  simp only at e3 e4
  rw [← e3,← e4]
  exact key
 ·exact .inl ⟨xt,h1,h2⟩)
noncomputable def g_As_l3Form (a0:Int) (a1:tS):Bool := okO (g_Ls_l3Form_0 a0 a1 (0:Int))
noncomputable def g_Vs_l3Form_0 (a0:Int) (a1:tS):Bool := bif isL (valO (g_Ls_l3Form_0 a0 a1 (0:Int))) then getL (valO (g_Ls_l3Form_0 a0 a1 (0:Int))) else true
noncomputable def Fs_l3Form:FSem := fun ys => match ys with
 | [.val false [.int .i64 a0],.val true [.sl .any 158 (.pair .str (.sl 3 (.int .i64))) a1]] => some ((g_As_l3Form a0 a1),.val false [.bool (g_Vs_l3Form_0 a0 a1)],[])
 | _ => none
theorem vs_l3Form (a0:Int) (a1:tS):collapseH .std Es_l3Form Os_l3Form_1 (execFn Es_l3Form Tryz.f172 mss_l3Form [.val false [.int .i64 a0],.val true [.sl .any 158 (.pair .str (.sl 3 (.int .i64))) a1]]) = some ((g_As_l3Form a0 a1),.val false [.bool (g_Vs_l3Form_0 a0 a1)],[]) := by kernel_rfl
theorem ss_l3Form:Sound Tryz.prog 172 mss_l3Form Fs_l3Form := by
 refine fn_gen goods_l3Form (by kernel_rfl) .std (fn := Tryz.f172) (c := (Tryz.f172.body.getD .skip)) (o := Os_l3Form_1) (k := 1) (by kernel_rfl) (by kernel_rfl) (by kernel_rfl) (by kernel_rfl) (by decide) ks_l3Form_1 ?_
 intro ys r outs h
 unfold Fs_l3Form at h
 split at h
 ·exact (vs_l3Form _ _).trans h
 ·cases h
noncomputable def Es_PlcOk:Env where
 tt := mkTI Tryz.prog
 fn := fun f => match f with
  | 55 => some (mss_l1In,FSem.wk mss_l1In Fs_l1In)
  | 171 => some (mss_StoOk,FSem.wk mss_StoOk Fs_StoOk)
  | 172 => some (mss_l3Form,FSem.wk mss_l3Form Fs_l3Form)
  | _ => none
 bxf := fun _ => none
 mv := []
 keep := fun _ => []
 keepB := fun _ => []
 keepX := fun _ => []
 keepXB := fun _ => []
theorem goodFs_PlcOk:∀ f ms F,Es_PlcOk.fn f = some (ms,F) → Sound Tryz.prog f ms F := fun f ms F h => by
 unfold Es_PlcOk at h
 dsimp only at h
 split at h
 ·exact gF ss_l1In h
 ·exact gF ss_StoOk h
 ·exact gF ss_l3Form h
 ·cases h
theorem goods_PlcOk:Good Tryz.prog Es_PlcOk := ⟨rfl,goodFs_PlcOk,fun f ms F h => by cases h⟩
noncomputable def Os_PlcOk_0:Orc := fun _ _ => none
noncomputable def mss_PlcOk:List PM := [.own,.rd]
noncomputable def lss_PlcOk:List (Nat×Code) := loopsAll 0 (Tryz.f151.body.getD .skip)
theorem ks_PlcOk_0:OrcOk Es_PlcOk Os_PlcOk_0 lss_PlcOk 0 := orcOk_none
noncomputable def g_As_PlcOk (a0:Int) (a1:tS):Bool := g_As_l1In a0 (1:Int) (3:Int)&&(!g_Vs_l1In_0 a0 (1:Int) (3:Int) || g_As_StoOk a1&&(!g_Vs_StoOk_0 a1 || g_As_l3Form a0 a1))
noncomputable def g_Vs_PlcOk_0 (a0:Int) (a1:tS):Bool := bif g_Vs_l1In_0 a0 (1:Int) (3:Int) then bif g_Vs_StoOk_0 a1 then g_Vs_l3Form_0 a0 a1 else false else false
noncomputable def Fs_PlcOk:FSem := fun ys => match ys with
 | [.val false [.int .i64 a0],.val true [.sl .any 158 (.pair .str (.sl 3 (.int .i64))) a1]] => some ((g_As_PlcOk a0 a1),.val false [.bool (g_Vs_PlcOk_0 a0 a1)],[])
 | _ => none
theorem vs_PlcOk (a0:Int) (a1:tS):collapseH .std Es_PlcOk Os_PlcOk_0 (execFn Es_PlcOk Tryz.f151 mss_PlcOk [.val false [.int .i64 a0],.val true [.sl .any 158 (.pair .str (.sl 3 (.int .i64))) a1]]) = some ((g_As_PlcOk a0 a1),.val false [.bool (g_Vs_PlcOk_0 a0 a1)],[]) := by kernel_rfl
theorem ss_PlcOk:Sound Tryz.prog 151 mss_PlcOk Fs_PlcOk := by
 refine fn_gen goods_PlcOk (by kernel_rfl) .std (fn := Tryz.f151) (c := (Tryz.f151.body.getD .skip)) (o := Os_PlcOk_0) (k := 0) (by kernel_rfl) (by kernel_rfl) (by kernel_rfl) (by kernel_rfl) (by decide) ks_PlcOk_0 ?_
 intro ys r outs h
 unfold Fs_PlcOk at h
 split at h
 ·exact (vs_PlcOk _ _).trans h
 ·cases h
noncomputable def EZ71:Env where
 tt := mkTI Tryz.prog
 fn := fun f => match f with
  | 151 => some (mss_PlcOk,FSem.wk mss_PlcOk Fs_PlcOk)
  | _ => none
 bxf := fun _ => none
 mv := []
 keep := fun b => match b with
  | 0 => [(0,false),(1,false),(5,false)]
  | _ => []
 keepB := fun b => match b with
  | 0 => []
  | _ => []
 keepX := fun b => match b with
  | 0 => [(4,false)]
  | _ => []
 keepXB := fun b => match b with
  | 0 => []
  | _ => []
theorem goodFZ71:∀ f ms F,EZ71.fn f = some (ms,F) → Sound Tryz.prog f ms F := fun f ms F h => by
 unfold EZ71 at h
 dsimp only at h
 split at h
 ·exact gF ss_PlcOk h
 ·cases h
theorem goodZ71:Good Tryz.prog EZ71 := ⟨rfl,goodFZ71,fun f ms F h => by cases h⟩
noncomputable def OZ71_0:Orc := fun _ _ => none
noncomputable def msZ71:List PM := [.own,.rd]
noncomputable def lsZ71:List (Nat×Code) := loopsAll 0 (Tryz.f118.body.getD .skip)
noncomputable def cZ71_0:Code := (loopOf 0 (Tryz.f118.body.getD .skip)).getD .skip
theorem lseqZ71:lsZ71 = [(0,cZ71_0)] := by kernel_rfl
theorem mZ71_0:∀ p,p ∈ lsZ71 → p.1 = 0 → p.2 = cZ71_0 := by
 intro p hp
 rw [lseqZ71] at hp
 simp only [List.mem_cons,List.not_mem_nil,or_false] at hp
 subst hp; simp
theorem kZ71_0:OrcOk EZ71 OZ71_0 lsZ71 0 := orcOk_none
noncomputable def hZ71_0 (y0:Int) (y1:tL4) (y2:Int):List (Pl×LV) := [(.T 0,.t (.val false [.int .i64 y0])),(.T 1,.t (.val false [.sl .any 155 (.pair .str (.pair .bool (.sl 3 (.int .i64)))) y1])),(.T 5,.t (.val false [.int .i64 y2]))]
noncomputable def g_SZ71_0 (y0:Int) (y1:tL4):(Int) → RT (Int) ((Bool) ⊕ (Unit))
 | y2 => .br (true) (.br (decide (y2 < (y1.length:Int))) (.br (decide (0 ≤ y2 ∧ y2 < (y1.length:Int))) (.br (!(at_ yT6 y1 (Int.toNat y2)).2.1) (.br (g_As_PlcOk y0 [((at_ yT6 y1 (Int.toNat y2)).1,(at_ yT6 y1 (Int.toNat y2)).2.2)]) (.br (!g_Vs_PlcOk_0 y0 [((at_ yT6 y1 (Int.toNat y2)).1,(at_ yT6 y1 (Int.toNat y2)).2.2)]) (.out (.inl false)) (.br (true) (.go (IntKind.i64.wrap (y2 + 1))) .bad)) .bad) (.br (true) (.go (IntKind.i64.wrap (y2 + 1))) .bad)) .bad) (.out (.inr (())))) .bad
noncomputable def g_LZ71_0 (y0:Int) (y1:tL4) (x:Int):Option ((Bool) ⊕ (Unit)) := loopO (g_SZ71_0 y0 y1) x
noncomputable def xZ71_0 (y0:Int) (y1:tL4):((Bool) ⊕ (Unit)) → Ex×List (Pl×LV) := fun
 | .inl r => (.ret,[(.T 4,.t (.val false [.bool r]))])
 | .inr (r) => (.exit 0,[(.T 4,.t (.val false [.undef]))])
noncomputable def OZ71_1:Orc := fun b h => match b,h with
 | 0,[(.T 0,.t (.val false [.int .i64 y0])),(.T 1,.t (.val false [.sl .any 155 (.pair .str (.pair .bool (.sl 3 (.int .i64)))) y1])),(.T 5,.t (.val false [.int .i64 y2]))] => some (okO (g_LZ71_0 y0 y1 y2),(.br (isL (valO (g_LZ71_0 y0 y1 y2))) (.leaf .ret [(.T 4,.t (.val false [.bool (getL (valO (g_LZ71_0 y0 y1 y2)))]))]) (.leaf (.exit 0) [(.T 4,.t (.val false [.undef]))])))
 | b,h => OZ71_0 b h
theorem bZ71_0 (y0:Int) (y1:tL4) (y2:Int):Tr.bt EZ71 OZ71_0 (exec EZ71 0 cZ71_0 (St.of (hZ71_0 y0 y1 y2)) (leafRd EZ71 0)) = (g_SZ71_0 y0 y1 y2).bt (fun (y2:Int) => (hZ71_0 y0 y1 y2)) (xZ71_0 y0 y1) := by kernel_rfl
theorem kZ71_1:OrcOk EZ71 OZ71_1 lsZ71 1 := orc_add kZ71_0 (fun n p hp h ex h' ho => by
 obtain ⟨b,c⟩ := p
 obtain ⟨xt,h1,h2⟩ := ho
 have h1:OZ71_1 b h = some (true,xt) := h1
 unfold OZ71_1 at h1
 split at h1
 ·injection h1 with h1
  injection h1 with e1 e2
  subst e2
  have hc:c = cZ71_0 := mZ71_0 _ hp rfl
  subst hc
  right
  rename_i y0 y1 y2
  have key := LT_step kZ71_0 hp (fun q hq => loopsAll_in _ _ _ _ hp hq) (fun (y2:Int) => (hZ71_0 y0 y1 y2)) (xZ71_0 y0 y1) (g_SZ71_0 y0 y1) (fun x => by first | exact bZ71_0 y0 y1 x) n (x := y2) (okO_some e1)
  have hx:∀ r,XT.sel (.br (isL r) (.leaf .ret [(.T 4,.t (.val false [.bool (getL r)]))]) (.leaf (.exit 0) [(.T 4,.t (.val false [.undef]))])) = xZ71_0 y0 y1 r := fun r => by first | rfl | rcases r with r | r <;> rfl | rcases r with r | r | r <;> rfl | rcases r with r | r | r | r <;> rfl
  have h3 := (hx (valO (g_LZ71_0 y0 y1 y2))).symm.trans h2
  have e3 := congrArg Prod.fst h3
  have e4 := congrArg Prod.snd h3
  simp only at e3 e4
  rw [← e3,← e4]
  exact key
 ·exact .inl ⟨xt,h1,h2⟩)
noncomputable def g_AZ71 (a0:Int) (a1:tL4):Bool := okO (g_LZ71_0 a0 a1 (0:Int))
noncomputable def g_VZ71_0 (a0:Int) (a1:tL4):Bool := bif isL (valO (g_LZ71_0 a0 a1 (0:Int))) then getL (valO (g_LZ71_0 a0 a1 (0:Int))) else true
noncomputable def FZ71:FSem := fun ys => match ys with
 | [.val false [.int .i64 a0],.val false [.sl .any 155 (.pair .str (.pair .bool (.sl 3 (.int .i64)))) a1]] => some ((g_AZ71 a0 a1),.val false [.bool (g_VZ71_0 a0 a1)],[])
 | _ => none
theorem vZ71 (a0:Int) (a1:tL4):collapseH .std EZ71 OZ71_1 (execFn EZ71 Tryz.f118 msZ71 [.val false [.int .i64 a0],.val false [.sl .any 155 (.pair .str (.pair .bool (.sl 3 (.int .i64)))) a1]]) = some ((g_AZ71 a0 a1),.val false [.bool (g_VZ71_0 a0 a1)],[]) := by kernel_rfl
theorem sZ71:Sound Tryz.prog 118 msZ71 FZ71 := by
 refine fn_gen goodZ71 (by kernel_rfl) .std (fn := Tryz.f118) (c := (Tryz.f118.body.getD .skip)) (o := OZ71_1) (k := 1) (by kernel_rfl) (by kernel_rfl) (by kernel_rfl) (by kernel_rfl) (by decide) kZ71_1 ?_
 intro ys r outs h
 unfold FZ71 at h
 split at h
 ·exact (vZ71 _ _).trans h
 ·cases h
noncomputable def EZ72:Env where
 tt := mkTI Tryz.prog
 fn := fun f => match f with
  | 90 => some (mss_DiskOk,FSem.wk mss_DiskOk Fs_DiskOk)
  | 118 => some (msZ71,FSem.wk msZ71 FZ71)
  | _ => none
 bxf := fun _ => none
 mv := []
 keep := fun b => match b with
  | 0 => [(1,false),(3,false)]
  | 2 => [(1,false),(3,false),(4,false)]
  | _ => []
 keepB := fun b => match b with
  | 0 => [(1,false)]
  | 2 => [(1,false)]
  | _ => []
 keepX := fun b => match b with
  | 0 => [(2,false)]
  | 2 => [(1,false),(2,false),(3,false)]
  | _ => []
 keepXB := fun b => match b with
  | 0 => []
  | 2 => [(1,false)]
  | _ => []
theorem goodFZ72:∀ f ms F,EZ72.fn f = some (ms,F) → Sound Tryz.prog f ms F := fun f ms F h => by
 unfold EZ72 at h
 dsimp only at h
 split at h
 ·exact gF ss_DiskOk h
 ·exact gF sZ71 h
 ·cases h
theorem goodZ72:Good Tryz.prog EZ72 := ⟨rfl,goodFZ72,fun f ms F h => by cases h⟩
noncomputable def OZ72_0:Orc := fun _ _ => none
noncomputable def msZ72:List PM := [.rd]
noncomputable def lsZ72:List (Nat×Code) := loopsAll 0 (Tryz.f66.body.getD .skip)
noncomputable def cZ72_0:Code := (loopOf 0 (Tryz.f66.body.getD .skip)).getD .skip
noncomputable def cZ72_2:Code := (loopOf 2 (Tryz.f66.body.getD .skip)).getD .skip
theorem lseqZ72:lsZ72 = [(0,cZ72_0),(2,cZ72_2)] := by kernel_rfl
theorem mZ72_0:∀ p,p ∈ lsZ72 → p.1 = 0 → p.2 = cZ72_0 := by
 intro p hp
 rw [lseqZ72] at hp
 simp only [List.mem_cons,List.not_mem_nil,or_false] at hp
 rcases hp with rfl | rfl <;> simp
theorem mZ72_2:∀ p,p ∈ lsZ72 → p.1 = 2 → p.2 = cZ72_2 := by
 intro p hp
 rw [lseqZ72] at hp
 simp only [List.mem_cons,List.not_mem_nil,or_false] at hp
 rcases hp with rfl | rfl <;> simp
theorem kZ72_0:OrcOk EZ72 OZ72_0 lsZ72 0 := orcOk_none
noncomputable def hZ72_0 (y0:Int) (y1:tL0) (y2:Int) (y3:tL1) (y4:List (tL0×Int)) (y5:tL2) (y6:tL3) (y7:List (Int×Bool)):List (Pl×LV) := [(.T 1,.t (.val false [.ptr 1 0 0])),(.T 3,.t (.val false [.int .i64 y0])),(.B 1,.b 0 false [.sl .any 92 (.pair (.int .i64) (.pair (.int .i64) (.pair (.sl 9 .str) (.sl 155 (.pair .str (.pair .bool (.sl 3 (.int .i64)))))))) y1,.int .i64 y2,.sl .any 73 (.pair (.int .i64) (.pair (.pair (.int .i64) (.pair (.int .i64) (.pair (.int .i64) (.pair (.int .i64) (.pair (.int .i64) (.pair (.int .i64) (.int .i64))))))) (.pair .bool (.pair (.sl 3 (.int .i64)) (.sl 3 (.int .i64)))))) y3,.sl .any 33 (.pair (.sl 92 (.pair (.int .i64) (.pair (.int .i64) (.pair (.sl 9 .str) (.sl 155 (.pair .str (.pair .bool (.sl 3 (.int .i64))))))))) (.int .i64)) y4,.sl .any 83 (.pair (.int .i64) (.pair (.int .i64) (.pair (.int .i64) (.pair (.int .i64) (.pair (.int .i64) (.pair (.int .i64) (.pair (.int .i64) (.pair (.int .i64) (.pair (.int .i64) (.pair (.int .i64) (.int .i64))))))))))) y5,.sl .any 49 (.pair (.int .i64) (.pair (.int .i64) (.pair (.int .i64) (.pair (.int .i64) (.pair (.int .i64) (.pair (.int .i64) (.int .i64))))))) y6,.sl .any 110 (.pair (.int .i64) .bool) y7])]
noncomputable def hZ72_2 (y0:Int) (y1:Int) (y2:tL0) (y3:Int) (y4:tL1) (y5:List (tL0×Int)) (y6:tL2) (y7:tL3) (y8:List (Int×Bool)):List (Pl×LV) := [(.T 1,.t (.val false [.ptr 1 0 0])),(.T 3,.t (.val false [.int .i64 y0])),(.T 4,.t (.val false [.int .i64 y1])),(.B 1,.b 0 false [.sl .any 92 (.pair (.int .i64) (.pair (.int .i64) (.pair (.sl 9 .str) (.sl 155 (.pair .str (.pair .bool (.sl 3 (.int .i64)))))))) y2,.int .i64 y3,.sl .any 73 (.pair (.int .i64) (.pair (.pair (.int .i64) (.pair (.int .i64) (.pair (.int .i64) (.pair (.int .i64) (.pair (.int .i64) (.pair (.int .i64) (.int .i64))))))) (.pair .bool (.pair (.sl 3 (.int .i64)) (.sl 3 (.int .i64)))))) y4,.sl .any 33 (.pair (.sl 92 (.pair (.int .i64) (.pair (.int .i64) (.pair (.sl 9 .str) (.sl 155 (.pair .str (.pair .bool (.sl 3 (.int .i64))))))))) (.int .i64)) y5,.sl .any 83 (.pair (.int .i64) (.pair (.int .i64) (.pair (.int .i64) (.pair (.int .i64) (.pair (.int .i64) (.pair (.int .i64) (.pair (.int .i64) (.pair (.int .i64) (.pair (.int .i64) (.pair (.int .i64) (.int .i64))))))))))) y6,.sl .any 49 (.pair (.int .i64) (.pair (.int .i64) (.pair (.int .i64) (.pair (.int .i64) (.pair (.int .i64) (.pair (.int .i64) (.int .i64))))))) y7,.sl .any 110 (.pair (.int .i64) .bool) y8])]
noncomputable def g_SZ72_2 (y0:Int) (y2:tL0) (y3:Int) (y4:tL1) (y5:List (tL0×Int)) (y6:tL2) (y7:tL3) (y8:List (Int×Bool)):(Int) → RT (Int) ((Bool) ⊕ (Unit))
 | y1 => .br (decide (0 ≤ y0 ∧ y0 < (y5.length:Int))) (.br (true) (.br (decide (y1 < (↑(List.length (at_ yT4 y5 (Int.toNat y0)).1):Int))) (.br (decide (0 ≤ y0 ∧ y0 < (y5.length:Int))) (.br (decide (0 ≤ y1 ∧ y1 < (↑(List.length (at_ yT4 y5 (Int.toNat y0)).1):Int))) (.br (true) (.br ((at_ yT3 (at_ yT4 y5 (Int.toNat y0)).1 (Int.toNat y1)).1 == 4) (.out (.inl false)) (.br (true) (.br (decide ((at_ yT3 (at_ yT4 y5 (Int.toNat y0)).1 (Int.toNat y1)).2.1 ≥ (y7.length:Int))) (.out (.inl false)) (.br (true) (.br (g_AZ71 (IntKind.i64.wrap (y0 + 1)) (at_ yT3 (at_ yT4 y5 (Int.toNat y0)).1 (Int.toNat y1)).2.2.2) (.br (!g_VZ71_0 (IntKind.i64.wrap (y0 + 1)) (at_ yT3 (at_ yT4 y5 (Int.toNat y0)).1 (Int.toNat y1)).2.2.2) (.out (.inl false)) (.br (true) (.go (IntKind.i64.wrap (y1 + 1))) .bad)) .bad) .bad)) .bad)) .bad) .bad) .bad) (.out (.inr (())))) .bad) .bad
noncomputable def g_LZ72_2 (y0:Int) (y2:tL0) (y3:Int) (y4:tL1) (y5:List (tL0×Int)) (y6:tL2) (y7:tL3) (y8:List (Int×Bool)) (x:Int):Option ((Bool) ⊕ (Unit)) := loopO (g_SZ72_2 y0 y2 y3 y4 y5 y6 y7 y8) x
noncomputable def xZ72_2 (y0:Int) (y2:tL0) (y3:Int) (y4:tL1) (y5:List (tL0×Int)) (y6:tL2) (y7:tL3) (y8:List (Int×Bool)):((Bool) ⊕ (Unit)) → Ex×List (Pl×LV) := fun
 | .inl r => (.ret,[(.T 1,.t (.val false [.ptr 1 0 0])),(.T 2,.t (.val false [.bool r])),(.T 3,.t (.val false [.int .i64 y0])),(.B 1,.b 0 false [.sl .any 92 (.pair (.int .i64) (.pair (.int .i64) (.pair (.sl 9 .str) (.sl 155 (.pair .str (.pair .bool (.sl 3 (.int .i64)))))))) y2,.int .i64 y3,.sl .any 73 (.pair (.int .i64) (.pair (.pair (.int .i64) (.pair (.int .i64) (.pair (.int .i64) (.pair (.int .i64) (.pair (.int .i64) (.pair (.int .i64) (.int .i64))))))) (.pair .bool (.pair (.sl 3 (.int .i64)) (.sl 3 (.int .i64)))))) y4,.sl .any 33 (.pair (.sl 92 (.pair (.int .i64) (.pair (.int .i64) (.pair (.sl 9 .str) (.sl 155 (.pair .str (.pair .bool (.sl 3 (.int .i64))))))))) (.int .i64)) y5,.sl .any 83 (.pair (.int .i64) (.pair (.int .i64) (.pair (.int .i64) (.pair (.int .i64) (.pair (.int .i64) (.pair (.int .i64) (.pair (.int .i64) (.pair (.int .i64) (.pair (.int .i64) (.pair (.int .i64) (.int .i64))))))))))) y6,.sl .any 49 (.pair (.int .i64) (.pair (.int .i64) (.pair (.int .i64) (.pair (.int .i64) (.pair (.int .i64) (.pair (.int .i64) (.int .i64))))))) y7,.sl .any 110 (.pair (.int .i64) .bool) y8])])
 | .inr (r) => (.exit 2,[(.T 1,.t (.val false [.ptr 1 0 0])),(.T 2,.t (.val false [.undef])),(.T 3,.t (.val false [.int .i64 y0])),(.B 1,.b 0 false [.sl .any 92 (.pair (.int .i64) (.pair (.int .i64) (.pair (.sl 9 .str) (.sl 155 (.pair .str (.pair .bool (.sl 3 (.int .i64)))))))) y2,.int .i64 y3,.sl .any 73 (.pair (.int .i64) (.pair (.pair (.int .i64) (.pair (.int .i64) (.pair (.int .i64) (.pair (.int .i64) (.pair (.int .i64) (.pair (.int .i64) (.int .i64))))))) (.pair .bool (.pair (.sl 3 (.int .i64)) (.sl 3 (.int .i64)))))) y4,.sl .any 33 (.pair (.sl 92 (.pair (.int .i64) (.pair (.int .i64) (.pair (.sl 9 .str) (.sl 155 (.pair .str (.pair .bool (.sl 3 (.int .i64))))))))) (.int .i64)) y5,.sl .any 83 (.pair (.int .i64) (.pair (.int .i64) (.pair (.int .i64) (.pair (.int .i64) (.pair (.int .i64) (.pair (.int .i64) (.pair (.int .i64) (.pair (.int .i64) (.pair (.int .i64) (.pair (.int .i64) (.int .i64))))))))))) y6,.sl .any 49 (.pair (.int .i64) (.pair (.int .i64) (.pair (.int .i64) (.pair (.int .i64) (.pair (.int .i64) (.pair (.int .i64) (.int .i64))))))) y7,.sl .any 110 (.pair (.int .i64) .bool) y8])])
noncomputable def OZ72_1:Orc := fun b h => match b,h with
 | 2,[(.T 1,.t (.val false [.ptr 1 0 0])),(.T 3,.t (.val false [.int .i64 y0])),(.T 4,.t (.val false [.int .i64 y1])),(.B 1,.b 0 false [.sl .any 92 (.pair (.int .i64) (.pair (.int .i64) (.pair (.sl 9 .str) (.sl 155 (.pair .str (.pair .bool (.sl 3 (.int .i64)))))))) y2,.int .i64 y3,.sl .any 73 (.pair (.int .i64) (.pair (.pair (.int .i64) (.pair (.int .i64) (.pair (.int .i64) (.pair (.int .i64) (.pair (.int .i64) (.pair (.int .i64) (.int .i64))))))) (.pair .bool (.pair (.sl 3 (.int .i64)) (.sl 3 (.int .i64)))))) y4,.sl .any 33 (.pair (.sl 92 (.pair (.int .i64) (.pair (.int .i64) (.pair (.sl 9 .str) (.sl 155 (.pair .str (.pair .bool (.sl 3 (.int .i64))))))))) (.int .i64)) y5,.sl .any 83 (.pair (.int .i64) (.pair (.int .i64) (.pair (.int .i64) (.pair (.int .i64) (.pair (.int .i64) (.pair (.int .i64) (.pair (.int .i64) (.pair (.int .i64) (.pair (.int .i64) (.pair (.int .i64) (.int .i64))))))))))) y6,.sl .any 49 (.pair (.int .i64) (.pair (.int .i64) (.pair (.int .i64) (.pair (.int .i64) (.pair (.int .i64) (.pair (.int .i64) (.int .i64))))))) y7,.sl .any 110 (.pair (.int .i64) .bool) y8])] => some (okO (g_LZ72_2 y0 y2 y3 y4 y5 y6 y7 y8 y1),(.br (isL (valO (g_LZ72_2 y0 y2 y3 y4 y5 y6 y7 y8 y1))) (.leaf .ret [(.T 1,.t (.val false [.ptr 1 0 0])),(.T 2,.t (.val false [.bool (getL (valO (g_LZ72_2 y0 y2 y3 y4 y5 y6 y7 y8 y1)))])),(.T 3,.t (.val false [.int .i64 y0])),(.B 1,.b 0 false [.sl .any 92 (.pair (.int .i64) (.pair (.int .i64) (.pair (.sl 9 .str) (.sl 155 (.pair .str (.pair .bool (.sl 3 (.int .i64)))))))) y2,.int .i64 y3,.sl .any 73 (.pair (.int .i64) (.pair (.pair (.int .i64) (.pair (.int .i64) (.pair (.int .i64) (.pair (.int .i64) (.pair (.int .i64) (.pair (.int .i64) (.int .i64))))))) (.pair .bool (.pair (.sl 3 (.int .i64)) (.sl 3 (.int .i64)))))) y4,.sl .any 33 (.pair (.sl 92 (.pair (.int .i64) (.pair (.int .i64) (.pair (.sl 9 .str) (.sl 155 (.pair .str (.pair .bool (.sl 3 (.int .i64))))))))) (.int .i64)) y5,.sl .any 83 (.pair (.int .i64) (.pair (.int .i64) (.pair (.int .i64) (.pair (.int .i64) (.pair (.int .i64) (.pair (.int .i64) (.pair (.int .i64) (.pair (.int .i64) (.pair (.int .i64) (.pair (.int .i64) (.int .i64))))))))))) y6,.sl .any 49 (.pair (.int .i64) (.pair (.int .i64) (.pair (.int .i64) (.pair (.int .i64) (.pair (.int .i64) (.pair (.int .i64) (.int .i64))))))) y7,.sl .any 110 (.pair (.int .i64) .bool) y8])]) (.leaf (.exit 2) [(.T 1,.t (.val false [.ptr 1 0 0])),(.T 2,.t (.val false [.undef])),(.T 3,.t (.val false [.int .i64 y0])),(.B 1,.b 0 false [.sl .any 92 (.pair (.int .i64) (.pair (.int .i64) (.pair (.sl 9 .str) (.sl 155 (.pair .str (.pair .bool (.sl 3 (.int .i64)))))))) y2,.int .i64 y3,.sl .any 73 (.pair (.int .i64) (.pair (.pair (.int .i64) (.pair (.int .i64) (.pair (.int .i64) (.pair (.int .i64) (.pair (.int .i64) (.pair (.int .i64) (.int .i64))))))) (.pair .bool (.pair (.sl 3 (.int .i64)) (.sl 3 (.int .i64)))))) y4,.sl .any 33 (.pair (.sl 92 (.pair (.int .i64) (.pair (.int .i64) (.pair (.sl 9 .str) (.sl 155 (.pair .str (.pair .bool (.sl 3 (.int .i64))))))))) (.int .i64)) y5,.sl .any 83 (.pair (.int .i64) (.pair (.int .i64) (.pair (.int .i64) (.pair (.int .i64) (.pair (.int .i64) (.pair (.int .i64) (.pair (.int .i64) (.pair (.int .i64) (.pair (.int .i64) (.pair (.int .i64) (.int .i64))))))))))) y6,.sl .any 49 (.pair (.int .i64) (.pair (.int .i64) (.pair (.int .i64) (.pair (.int .i64) (.pair (.int .i64) (.pair (.int .i64) (.int .i64))))))) y7,.sl .any 110 (.pair (.int .i64) .bool) y8])])))
 | b,h => OZ72_0 b h
theorem bZ72_2 (y0:Int) (y1:Int) (y2:tL0) (y3:Int) (y4:tL1) (y5:List (tL0×Int)) (y6:tL2) (y7:tL3) (y8:List (Int×Bool)):Tr.bt EZ72 OZ72_0 (exec EZ72 2 cZ72_2 (St.of (hZ72_2 y0 y1 y2 y3 y4 y5 y6 y7 y8)) (leafRd EZ72 2)) = (g_SZ72_2 y0 y2 y3 y4 y5 y6 y7 y8 y1).bt (fun (y1:Int) => (hZ72_2 y0 y1 y2 y3 y4 y5 y6 y7 y8)) (xZ72_2 y0 y2 y3 y4 y5 y6 y7 y8) := by kernel_rfl
theorem kZ72_1:OrcOk EZ72 OZ72_1 lsZ72 1 := orc_add kZ72_0 (fun n p hp h ex h' ho => by
 obtain ⟨b,c⟩ := p
 obtain ⟨xt,h1,h2⟩ := ho
 have h1:OZ72_1 b h = some (true,xt) := h1
 unfold OZ72_1 at h1
 split at h1
 ·injection h1 with h1
  injection h1 with e1 e2
  subst e2
  have hc:c = cZ72_2 := mZ72_2 _ hp rfl
  subst hc
  right
  rename_i y0 y1 y2 y3 y4 y5 y6 y7 y8
  have key := LT_step kZ72_0 hp (fun q hq => loopsAll_in _ _ _ _ hp hq) (fun (y1:Int) => (hZ72_2 y0 y1 y2 y3 y4 y5 y6 y7 y8)) (xZ72_2 y0 y2 y3 y4 y5 y6 y7 y8) (g_SZ72_2 y0 y2 y3 y4 y5 y6 y7 y8) (fun x => by first | exact bZ72_2 y0 x y2 y3 y4 y5 y6 y7 y8) n (x := y1) (okO_some e1)
  have hx:∀ r,XT.sel (.br (isL r) (.leaf .ret [(.T 1,.t (.val false [.ptr 1 0 0])),(.T 2,.t (.val false [.bool (getL r)])),(.T 3,.t (.val false [.int .i64 y0])),(.B 1,.b 0 false [.sl .any 92 (.pair (.int .i64) (.pair (.int .i64) (.pair (.sl 9 .str) (.sl 155 (.pair .str (.pair .bool (.sl 3 (.int .i64)))))))) y2,.int .i64 y3,.sl .any 73 (.pair (.int .i64) (.pair (.pair (.int .i64) (.pair (.int .i64) (.pair (.int .i64) (.pair (.int .i64) (.pair (.int .i64) (.pair (.int .i64) (.int .i64))))))) (.pair .bool (.pair (.sl 3 (.int .i64)) (.sl 3 (.int .i64)))))) y4,.sl .any 33 (.pair (.sl 92 (.pair (.int .i64) (.pair (.int .i64) (.pair (.sl 9 .str) (.sl 155 (.pair .str (.pair .bool (.sl 3 (.int .i64))))))))) (.int .i64)) y5,.sl .any 83 (.pair (.int .i64) (.pair (.int .i64) (.pair (.int .i64) (.pair (.int .i64) (.pair (.int .i64) (.pair (.int .i64) (.pair (.int .i64) (.pair (.int .i64) (.pair (.int .i64) (.pair (.int .i64) (.int .i64))))))))))) y6,.sl .any 49 (.pair (.int .i64) (.pair (.int .i64) (.pair (.int .i64) (.pair (.int .i64) (.pair (.int .i64) (.pair (.int .i64) (.int .i64))))))) y7,.sl .any 110 (.pair (.int .i64) .bool) y8])]) (.leaf (.exit 2) [(.T 1,.t (.val false [.ptr 1 0 0])),(.T 2,.t (.val false [.undef])),(.T 3,.t (.val false [.int .i64 y0])),(.B 1,.b 0 false [.sl .any 92 (.pair (.int .i64) (.pair (.int .i64) (.pair (.sl 9 .str) (.sl 155 (.pair .str (.pair .bool (.sl 3 (.int .i64)))))))) y2,.int .i64 y3,.sl .any 73 (.pair (.int .i64) (.pair (.pair (.int .i64) (.pair (.int .i64) (.pair (.int .i64) (.pair (.int .i64) (.pair (.int .i64) (.pair (.int .i64) (.int .i64))))))) (.pair .bool (.pair (.sl 3 (.int .i64)) (.sl 3 (.int .i64)))))) y4,.sl .any 33 (.pair (.sl 92 (.pair (.int .i64) (.pair (.int .i64) (.pair (.sl 9 .str) (.sl 155 (.pair .str (.pair .bool (.sl 3 (.int .i64))))))))) (.int .i64)) y5,.sl .any 83 (.pair (.int .i64) (.pair (.int .i64) (.pair (.int .i64) (.pair (.int .i64) (.pair (.int .i64) (.pair (.int .i64) (.pair (.int .i64) (.pair (.int .i64) (.pair (.int .i64) (.pair (.int .i64) (.int .i64))))))))))) y6,.sl .any 49 (.pair (.int .i64) (.pair (.int .i64) (.pair (.int .i64) (.pair (.int .i64) (.pair (.int .i64) (.pair (.int .i64) (.int .i64))))))) y7,.sl .any 110 (.pair (.int .i64) .bool) y8])])) = xZ72_2 y0 y2 y3 y4 y5 y6 y7 y8 r := fun r => by first | rfl | rcases r with r | r <;> rfl | rcases r with r | r | r <;> rfl | rcases r with r | r | r | r <;> rfl
  have h3 := (hx (valO (g_LZ72_2 y0 y2 y3 y4 y5 y6 y7 y8 y1))).symm.trans h2
  have e3 := congrArg Prod.fst h3
  have e4 := congrArg Prod.snd h3
  simp only at e3 e4
  rw [← e3,← e4]
  exact key
 ·exact .inl ⟨xt,h1,h2⟩)
noncomputable def g_SZ72_0 (y1:tL0) (y2:Int) (y3:tL1) (y4:List (tL0×Int)) (y5:tL2) (y6:tL3) (y7:List (Int×Bool)):(Int) → RT (Int) ((Bool) ⊕ (Unit))
 | y0 => .br (true) (.br (decide (y0 < (y4.length:Int))) (.br (decide (0 ≤ y0 ∧ y0 < (y4.length:Int))) (.br (g_As_DiskOk (at_ yT4 y4 (Int.toNat y0)).1 (at_ yT4 y4 (Int.toNat y0)).2) (.br (!g_Vs_DiskOk_0 (at_ yT4 y4 (Int.toNat y0)).1 (at_ yT4 y4 (Int.toNat y0)).2) (.out (.inl false)) (.br (okO (g_LZ72_2 y0 y1 y2 y3 y4 y5 y6 y7 (0:Int))) (.br (isL (valO (g_LZ72_2 y0 y1 y2 y3 y4 y5 y6 y7 (0:Int)))) (.out (.inl (getL (valO (g_LZ72_2 y0 y1 y2 y3 y4 y5 y6 y7 (0:Int)))))) (.br (true) (.go (IntKind.i64.wrap (y0 + 1))) .bad)) .bad)) .bad) .bad) (.out (.inr (())))) .bad
noncomputable def g_LZ72_0 (y1:tL0) (y2:Int) (y3:tL1) (y4:List (tL0×Int)) (y5:tL2) (y6:tL3) (y7:List (Int×Bool)) (x:Int):Option ((Bool) ⊕ (Unit)) := loopO (g_SZ72_0 y1 y2 y3 y4 y5 y6 y7) x
noncomputable def xZ72_0 (y1:tL0) (y2:Int) (y3:tL1) (y4:List (tL0×Int)) (y5:tL2) (y6:tL3) (y7:List (Int×Bool)):((Bool) ⊕ (Unit)) → Ex×List (Pl×LV) := fun
 | .inl r => (.ret,[(.T 2,.t (.val false [.bool r]))])
 | .inr (r) => (.exit 0,[(.T 2,.t (.val false [.undef]))])
noncomputable def OZ72_2:Orc := fun b h => match b,h with
 | 0,[(.T 1,.t (.val false [.ptr 1 0 0])),(.T 3,.t (.val false [.int .i64 y0])),(.B 1,.b 0 false [.sl .any 92 (.pair (.int .i64) (.pair (.int .i64) (.pair (.sl 9 .str) (.sl 155 (.pair .str (.pair .bool (.sl 3 (.int .i64)))))))) y1,.int .i64 y2,.sl .any 73 (.pair (.int .i64) (.pair (.pair (.int .i64) (.pair (.int .i64) (.pair (.int .i64) (.pair (.int .i64) (.pair (.int .i64) (.pair (.int .i64) (.int .i64))))))) (.pair .bool (.pair (.sl 3 (.int .i64)) (.sl 3 (.int .i64)))))) y3,.sl .any 33 (.pair (.sl 92 (.pair (.int .i64) (.pair (.int .i64) (.pair (.sl 9 .str) (.sl 155 (.pair .str (.pair .bool (.sl 3 (.int .i64))))))))) (.int .i64)) y4,.sl .any 83 (.pair (.int .i64) (.pair (.int .i64) (.pair (.int .i64) (.pair (.int .i64) (.pair (.int .i64) (.pair (.int .i64) (.pair (.int .i64) (.pair (.int .i64) (.pair (.int .i64) (.pair (.int .i64) (.int .i64))))))))))) y5,.sl .any 49 (.pair (.int .i64) (.pair (.int .i64) (.pair (.int .i64) (.pair (.int .i64) (.pair (.int .i64) (.pair (.int .i64) (.int .i64))))))) y6,.sl .any 110 (.pair (.int .i64) .bool) y7])] => some (okO (g_LZ72_0 y1 y2 y3 y4 y5 y6 y7 y0),(.br (isL (valO (g_LZ72_0 y1 y2 y3 y4 y5 y6 y7 y0))) (.leaf .ret [(.T 2,.t (.val false [.bool (getL (valO (g_LZ72_0 y1 y2 y3 y4 y5 y6 y7 y0)))]))]) (.leaf (.exit 0) [(.T 2,.t (.val false [.undef]))])))
 | b,h => OZ72_1 b h
theorem bZ72_0 (y0:Int) (y1:tL0) (y2:Int) (y3:tL1) (y4:List (tL0×Int)) (y5:tL2) (y6:tL3) (y7:List (Int×Bool)):Tr.bt EZ72 OZ72_1 (exec EZ72 0 cZ72_0 (St.of (hZ72_0 y0 y1 y2 y3 y4 y5 y6 y7)) (leafRd EZ72 0)) = (g_SZ72_0 y1 y2 y3 y4 y5 y6 y7 y0).bt (fun (y0:Int) => (hZ72_0 y0 y1 y2 y3 y4 y5 y6 y7)) (xZ72_0 y1 y2 y3 y4 y5 y6 y7) := by kernel_rfl
theorem kZ72_2:OrcOk EZ72 OZ72_2 lsZ72 2 := orc_add kZ72_1 (fun n p hp h ex h' ho => by
 obtain ⟨b,c⟩ := p
 obtain ⟨xt,h1,h2⟩ := ho
 have h1:OZ72_2 b h = some (true,xt) := h1
 unfold OZ72_2 at h1
 split at h1
 ·injection h1 with h1
  injection h1 with e1 e2
  subst e2
  have hc:c = cZ72_0 := mZ72_0 _ hp rfl
  subst hc
  right
  rename_i y0 y1 y2 y3 y4 y5 y6 y7
  have key := LT_step kZ72_1 hp (fun q hq => loopsAll_in _ _ _ _ hp hq) (fun (y0:Int) => (hZ72_0 y0 y1 y2 y3 y4 y5 y6 y7)) (xZ72_0 y1 y2 y3 y4 y5 y6 y7) (g_SZ72_0 y1 y2 y3 y4 y5 y6 y7) (fun x => by first | exact bZ72_0 x y1 y2 y3 y4 y5 y6 y7) n (x := y0) (okO_some e1)
  have hx:∀ r,XT.sel (.br (isL r) (.leaf .ret [(.T 2,.t (.val false [.bool (getL r)]))]) (.leaf (.exit 0) [(.T 2,.t (.val false [.undef]))])) = xZ72_0 y1 y2 y3 y4 y5 y6 y7 r := fun r => by first | rfl | rcases r with r | r <;> rfl | rcases r with r | r | r <;> rfl | rcases r with r | r | r | r <;> rfl
  have h3 := (hx (valO (g_LZ72_0 y1 y2 y3 y4 y5 y6 y7 y0))).symm.trans h2
  have e3 := congrArg Prod.fst h3
  have e4 := congrArg Prod.snd h3
  simp only at e3 e4
  rw [← e3,← e4]
  exact key
 ·exact .inl ⟨xt,h1,h2⟩)
noncomputable def g_AZ72 (a0:tL0) (a1:Int) (a2:tL1) (a3:List (tL0×Int)) (a4:tL2) (a5:tL3) (a6:List (Int×Bool)):Bool := (a3.length:Int) != 3 || okO (g_LZ72_0 a0 a1 a2 a3 a4 a5 a6 (0:Int))
noncomputable def g_VZ72_0 (a0:tL0) (a1:Int) (a2:tL1) (a3:List (tL0×Int)) (a4:tL2) (a5:tL3) (a6:List (Int×Bool)):Bool := bif (a3.length:Int) != 3 then false else bif isL (valO (g_LZ72_0 a0 a1 a2 a3 a4 a5 a6 (0:Int))) then getL (valO (g_LZ72_0 a0 a1 a2 a3 a4 a5 a6 (0:Int))) else true
noncomputable def FZ72:FSem := fun ys => match ys with
 | [.val true [.sl .any 92 (.pair (.int .i64) (.pair (.int .i64) (.pair (.sl 9 .str) (.sl 155 (.pair .str (.pair .bool (.sl 3 (.int .i64)))))))) a0,.int .i64 a1,.sl .any 73 (.pair (.int .i64) (.pair (.pair (.int .i64) (.pair (.int .i64) (.pair (.int .i64) (.pair (.int .i64) (.pair (.int .i64) (.pair (.int .i64) (.int .i64))))))) (.pair .bool (.pair (.sl 3 (.int .i64)) (.sl 3 (.int .i64)))))) a2,.sl .any 33 (.pair (.sl 92 (.pair (.int .i64) (.pair (.int .i64) (.pair (.sl 9 .str) (.sl 155 (.pair .str (.pair .bool (.sl 3 (.int .i64))))))))) (.int .i64)) a3,.sl .any 83 (.pair (.int .i64) (.pair (.int .i64) (.pair (.int .i64) (.pair (.int .i64) (.pair (.int .i64) (.pair (.int .i64) (.pair (.int .i64) (.pair (.int .i64) (.pair (.int .i64) (.pair (.int .i64) (.int .i64))))))))))) a4,.sl .any 49 (.pair (.int .i64) (.pair (.int .i64) (.pair (.int .i64) (.pair (.int .i64) (.pair (.int .i64) (.pair (.int .i64) (.int .i64))))))) a5,.sl .any 110 (.pair (.int .i64) .bool) a6]] => some ((g_AZ72 a0 a1 a2 a3 a4 a5 a6),.val false [.bool (g_VZ72_0 a0 a1 a2 a3 a4 a5 a6)],[])
 | _ => none
theorem vZ72 (a0:tL0) (a1:Int) (a2:tL1) (a3:List (tL0×Int)) (a4:tL2) (a5:tL3) (a6:List (Int×Bool)):collapseH .std EZ72 OZ72_2 (execFn EZ72 Tryz.f66 msZ72 [.val true [.sl .any 92 (.pair (.int .i64) (.pair (.int .i64) (.pair (.sl 9 .str) (.sl 155 (.pair .str (.pair .bool (.sl 3 (.int .i64)))))))) a0,.int .i64 a1,.sl .any 73 (.pair (.int .i64) (.pair (.pair (.int .i64) (.pair (.int .i64) (.pair (.int .i64) (.pair (.int .i64) (.pair (.int .i64) (.pair (.int .i64) (.int .i64))))))) (.pair .bool (.pair (.sl 3 (.int .i64)) (.sl 3 (.int .i64)))))) a2,.sl .any 33 (.pair (.sl 92 (.pair (.int .i64) (.pair (.int .i64) (.pair (.sl 9 .str) (.sl 155 (.pair .str (.pair .bool (.sl 3 (.int .i64))))))))) (.int .i64)) a3,.sl .any 83 (.pair (.int .i64) (.pair (.int .i64) (.pair (.int .i64) (.pair (.int .i64) (.pair (.int .i64) (.pair (.int .i64) (.pair (.int .i64) (.pair (.int .i64) (.pair (.int .i64) (.pair (.int .i64) (.int .i64))))))))))) a4,.sl .any 49 (.pair (.int .i64) (.pair (.int .i64) (.pair (.int .i64) (.pair (.int .i64) (.pair (.int .i64) (.pair (.int .i64) (.int .i64))))))) a5,.sl .any 110 (.pair (.int .i64) .bool) a6]]) = some ((g_AZ72 a0 a1 a2 a3 a4 a5 a6),.val false [.bool (g_VZ72_0 a0 a1 a2 a3 a4 a5 a6)],[]) := by kernel_rfl
theorem sZ72:Sound Tryz.prog 66 msZ72 FZ72 := by
 refine fn_gen goodZ72 (by kernel_rfl) .std (fn := Tryz.f66) (c := (Tryz.f66.body.getD .skip)) (o := OZ72_2) (k := 2) (by kernel_rfl) (by kernel_rfl) (by kernel_rfl) (by kernel_rfl) (by decide) kZ72_2 ?_
 intro ys r outs h
 unfold FZ72 at h
 split at h
 ·exact (vZ72 _ _ _ _ _ _ _).trans h
 ·cases h
noncomputable def Es_WldOk:Env where
 tt := mkTI Tryz.prog
 fn := fun f => match f with
  | 29 => some (mss_FroOk,FSem.wk mss_FroOk Fs_FroOk)
  | 55 => some (mss_l1In,FSem.wk mss_l1In Fs_l1In)
  | 56 => some (mss_OpOk,FSem.wk mss_OpOk Fs_OpOk)
  | 66 => some (msZ72,FSem.wk msZ72 FZ72)
  | 67 => some (mss_MsgOk,FSem.wk mss_MsgOk Fs_MsgOk)
  | _ => none
 bxf := fun _ => none
 mv := []
 keep := fun b => match b with
  | 0 => [(1,false),(3,false)]
  | 2 => [(1,false),(4,false)]
  | 4 => [(1,false),(5,false)]
  | 6 => [(1,false),(6,false)]
  | 8 => [(1,false),(7,false)]
  | _ => []
 keepB := fun b => match b with
  | 0 => [(1,false)]
  | 2 => [(1,false)]
  | 4 => [(1,false)]
  | 6 => [(1,false)]
  | 8 => [(1,false)]
  | _ => []
 keepX := fun b => match b with
  | 0 => [(1,false),(2,false)]
  | 2 => [(1,false),(2,false)]
  | 4 => [(1,false),(2,false)]
  | 6 => [(1,false),(2,false)]
  | 8 => [(2,false)]
  | _ => []
 keepXB := fun b => match b with
  | 0 => [(1,false)]
  | 2 => [(1,false)]
  | 4 => [(1,false)]
  | 6 => [(1,false)]
  | 8 => []
  | _ => []
theorem goodFs_WldOk:∀ f ms F,Es_WldOk.fn f = some (ms,F) → Sound Tryz.prog f ms F := fun f ms F h => by
 unfold Es_WldOk at h
 dsimp only at h
 split at h
 ·exact gF ss_FroOk h
 ·exact gF ss_l1In h
 ·exact gF ss_OpOk h
 ·exact gF sZ72 h
 ·exact gF ss_MsgOk h
 ·cases h
theorem goods_WldOk:Good Tryz.prog Es_WldOk := ⟨rfl,goodFs_WldOk,fun f ms F h => by cases h⟩
noncomputable def Os_WldOk_0:Orc := fun _ _ => none
noncomputable def mss_WldOk:List PM := [.rd]
noncomputable def lss_WldOk:List (Nat×Code) := loopsAll 0 (Tryz.f23.body.getD .skip)
noncomputable def cs_WldOk_0:Code := (loopOf 0 (Tryz.f23.body.getD .skip)).getD .skip
noncomputable def cs_WldOk_2:Code := (loopOf 2 (Tryz.f23.body.getD .skip)).getD .skip
noncomputable def cs_WldOk_4:Code := (loopOf 4 (Tryz.f23.body.getD .skip)).getD .skip
noncomputable def cs_WldOk_6:Code := (loopOf 6 (Tryz.f23.body.getD .skip)).getD .skip
noncomputable def cs_WldOk_8:Code := (loopOf 8 (Tryz.f23.body.getD .skip)).getD .skip
theorem lseqs_WldOk:lss_WldOk = [(0,cs_WldOk_0),(2,cs_WldOk_2),(4,cs_WldOk_4),(6,cs_WldOk_6),(8,cs_WldOk_8)] := by kernel_rfl
theorem ms_WldOk_0:∀ p,p ∈ lss_WldOk → p.1 = 0 → p.2 = cs_WldOk_0 := by
 intro p hp
 rw [lseqs_WldOk] at hp
 simp only [List.mem_cons,List.not_mem_nil,or_false] at hp
 rcases hp with rfl | rfl | rfl | rfl | rfl <;> simp
theorem ms_WldOk_2:∀ p,p ∈ lss_WldOk → p.1 = 2 → p.2 = cs_WldOk_2 := by
 intro p hp
 rw [lseqs_WldOk] at hp
 simp only [List.mem_cons,List.not_mem_nil,or_false] at hp
 rcases hp with rfl | rfl | rfl | rfl | rfl <;> simp
theorem ms_WldOk_4:∀ p,p ∈ lss_WldOk → p.1 = 4 → p.2 = cs_WldOk_4 := by
 intro p hp
 rw [lseqs_WldOk] at hp
 simp only [List.mem_cons,List.not_mem_nil,or_false] at hp
 rcases hp with rfl | rfl | rfl | rfl | rfl <;> simp
theorem ms_WldOk_6:∀ p,p ∈ lss_WldOk → p.1 = 6 → p.2 = cs_WldOk_6 := by
 intro p hp
 rw [lseqs_WldOk] at hp
 simp only [List.mem_cons,List.not_mem_nil,or_false] at hp
 rcases hp with rfl | rfl | rfl | rfl | rfl <;> simp
theorem ms_WldOk_8:∀ p,p ∈ lss_WldOk → p.1 = 8 → p.2 = cs_WldOk_8 := by
 intro p hp
 rw [lseqs_WldOk] at hp
 simp only [List.mem_cons,List.not_mem_nil,or_false] at hp
 rcases hp with rfl | rfl | rfl | rfl | rfl <;> simp
theorem ks_WldOk_0:OrcOk Es_WldOk Os_WldOk_0 lss_WldOk 0 := orcOk_none
noncomputable def hs_WldOk_0 (y0:Int) (y1:tL0) (y2:Int) (y3:tL1) (y4:List (tL0×Int)) (y5:tL2) (y6:tL3) (y7:List (Int×Bool)):List (Pl×LV) := [(.T 1,.t (.val false [.ptr 1 0 0])),(.T 3,.t (.val false [.int .i64 y0])),(.B 1,.b 0 false [.sl .any 92 (.pair (.int .i64) (.pair (.int .i64) (.pair (.sl 9 .str) (.sl 155 (.pair .str (.pair .bool (.sl 3 (.int .i64)))))))) y1,.int .i64 y2,.sl .any 73 (.pair (.int .i64) (.pair (.pair (.int .i64) (.pair (.int .i64) (.pair (.int .i64) (.pair (.int .i64) (.pair (.int .i64) (.pair (.int .i64) (.int .i64))))))) (.pair .bool (.pair (.sl 3 (.int .i64)) (.sl 3 (.int .i64)))))) y3,.sl .any 33 (.pair (.sl 92 (.pair (.int .i64) (.pair (.int .i64) (.pair (.sl 9 .str) (.sl 155 (.pair .str (.pair .bool (.sl 3 (.int .i64))))))))) (.int .i64)) y4,.sl .any 83 (.pair (.int .i64) (.pair (.int .i64) (.pair (.int .i64) (.pair (.int .i64) (.pair (.int .i64) (.pair (.int .i64) (.pair (.int .i64) (.pair (.int .i64) (.pair (.int .i64) (.pair (.int .i64) (.int .i64))))))))))) y5,.sl .any 49 (.pair (.int .i64) (.pair (.int .i64) (.pair (.int .i64) (.pair (.int .i64) (.pair (.int .i64) (.pair (.int .i64) (.int .i64))))))) y6,.sl .any 110 (.pair (.int .i64) .bool) y7])]
noncomputable def g_Ss_WldOk_0 (y1:tL0) (y2:Int) (y3:tL1) (y4:List (tL0×Int)) (y5:tL2) (y6:tL3) (y7:List (Int×Bool)):(Int) → RT (Int) ((Bool) ⊕ (Unit))
 | y0 => .br (true) (.br (decide (y0 < (y5.length:Int))) (.br (decide (0 ≤ y0 ∧ y0 < (y5.length:Int))) (.br (g_As_MsgOk (at_ yT1 y5 (Int.toNat y0)).1 (at_ yT1 y5 (Int.toNat y0)).2.1 (at_ yT1 y5 (Int.toNat y0)).2.2.1 (at_ yT1 y5 (Int.toNat y0)).2.2.2.1 (at_ yT1 y5 (Int.toNat y0)).2.2.2.2.1 (at_ yT1 y5 (Int.toNat y0)).2.2.2.2.2.1 (at_ yT1 y5 (Int.toNat y0)).2.2.2.2.2.2.1 (at_ yT1 y5 (Int.toNat y0)).2.2.2.2.2.2.2.1 (at_ yT1 y5 (Int.toNat y0)).2.2.2.2.2.2.2.2.1 (at_ yT1 y5 (Int.toNat y0)).2.2.2.2.2.2.2.2.2.1 (at_ yT1 y5 (Int.toNat y0)).2.2.2.2.2.2.2.2.2.2) (.br (!g_Vs_MsgOk_0 (at_ yT1 y5 (Int.toNat y0)).1 (at_ yT1 y5 (Int.toNat y0)).2.1 (at_ yT1 y5 (Int.toNat y0)).2.2.1 (at_ yT1 y5 (Int.toNat y0)).2.2.2.1 (at_ yT1 y5 (Int.toNat y0)).2.2.2.2.1 (at_ yT1 y5 (Int.toNat y0)).2.2.2.2.2.1 (at_ yT1 y5 (Int.toNat y0)).2.2.2.2.2.2.1 (at_ yT1 y5 (Int.toNat y0)).2.2.2.2.2.2.2.1 (at_ yT1 y5 (Int.toNat y0)).2.2.2.2.2.2.2.2.1 (at_ yT1 y5 (Int.toNat y0)).2.2.2.2.2.2.2.2.2.1 (at_ yT1 y5 (Int.toNat y0)).2.2.2.2.2.2.2.2.2.2) (.out (.inl false)) (.br (decide (0 ≤ y0 ∧ y0 < (y5.length:Int))) (.br (true) (.br (decide ((at_ yT1 y5 (Int.toNat y0)).2.2.2.1 ≥ (y6.length:Int))) (.out (.inl false)) (.br (true) (.go (IntKind.i64.wrap (y0 + 1))) .bad)) .bad) .bad)) .bad) .bad) (.out (.inr (())))) .bad
noncomputable def g_Ls_WldOk_0 (y1:tL0) (y2:Int) (y3:tL1) (y4:List (tL0×Int)) (y5:tL2) (y6:tL3) (y7:List (Int×Bool)) (x:Int):Option ((Bool) ⊕ (Unit)) := loopO (g_Ss_WldOk_0 y1 y2 y3 y4 y5 y6 y7) x
noncomputable def xs_WldOk_0 (y1:tL0) (y2:Int) (y3:tL1) (y4:List (tL0×Int)) (y5:tL2) (y6:tL3) (y7:List (Int×Bool)):((Bool) ⊕ (Unit)) → Ex×List (Pl×LV) := fun
 | .inl r => (.ret,[(.T 1,.t (.val false [.ptr 1 0 0])),(.T 2,.t (.val false [.bool r])),(.B 1,.b 0 false [.sl .any 92 (.pair (.int .i64) (.pair (.int .i64) (.pair (.sl 9 .str) (.sl 155 (.pair .str (.pair .bool (.sl 3 (.int .i64)))))))) y1,.int .i64 y2,.sl .any 73 (.pair (.int .i64) (.pair (.pair (.int .i64) (.pair (.int .i64) (.pair (.int .i64) (.pair (.int .i64) (.pair (.int .i64) (.pair (.int .i64) (.int .i64))))))) (.pair .bool (.pair (.sl 3 (.int .i64)) (.sl 3 (.int .i64)))))) y3,.sl .any 33 (.pair (.sl 92 (.pair (.int .i64) (.pair (.int .i64) (.pair (.sl 9 .str) (.sl 155 (.pair .str (.pair .bool (.sl 3 (.int .i64))))))))) (.int .i64)) y4,.sl .any 83 (.pair (.int .i64) (.pair (.int .i64) (.pair (.int .i64) (.pair (.int .i64) (.pair (.int .i64) (.pair (.int .i64) (.pair (.int .i64) (.pair (.int .i64) (.pair (.int .i64) (.pair (.int .i64) (.int .i64))))))))))) y5,.sl .any 49 (.pair (.int .i64) (.pair (.int .i64) (.pair (.int .i64) (.pair (.int .i64) (.pair (.int .i64) (.pair (.int .i64) (.int .i64))))))) y6,.sl .any 110 (.pair (.int .i64) .bool) y7])])
 | .inr (r) => (.exit 0,[(.T 1,.t (.val false [.ptr 1 0 0])),(.T 2,.t (.val false [.undef])),(.B 1,.b 0 false [.sl .any 92 (.pair (.int .i64) (.pair (.int .i64) (.pair (.sl 9 .str) (.sl 155 (.pair .str (.pair .bool (.sl 3 (.int .i64)))))))) y1,.int .i64 y2,.sl .any 73 (.pair (.int .i64) (.pair (.pair (.int .i64) (.pair (.int .i64) (.pair (.int .i64) (.pair (.int .i64) (.pair (.int .i64) (.pair (.int .i64) (.int .i64))))))) (.pair .bool (.pair (.sl 3 (.int .i64)) (.sl 3 (.int .i64)))))) y3,.sl .any 33 (.pair (.sl 92 (.pair (.int .i64) (.pair (.int .i64) (.pair (.sl 9 .str) (.sl 155 (.pair .str (.pair .bool (.sl 3 (.int .i64))))))))) (.int .i64)) y4,.sl .any 83 (.pair (.int .i64) (.pair (.int .i64) (.pair (.int .i64) (.pair (.int .i64) (.pair (.int .i64) (.pair (.int .i64) (.pair (.int .i64) (.pair (.int .i64) (.pair (.int .i64) (.pair (.int .i64) (.int .i64))))))))))) y5,.sl .any 49 (.pair (.int .i64) (.pair (.int .i64) (.pair (.int .i64) (.pair (.int .i64) (.pair (.int .i64) (.pair (.int .i64) (.int .i64))))))) y6,.sl .any 110 (.pair (.int .i64) .bool) y7])])
noncomputable def Os_WldOk_1:Orc := fun b h => match b,h with
 | 0,[(.T 1,.t (.val false [.ptr 1 0 0])),(.T 3,.t (.val false [.int .i64 y0])),(.B 1,.b 0 false [.sl .any 92 (.pair (.int .i64) (.pair (.int .i64) (.pair (.sl 9 .str) (.sl 155 (.pair .str (.pair .bool (.sl 3 (.int .i64)))))))) y1,.int .i64 y2,.sl .any 73 (.pair (.int .i64) (.pair (.pair (.int .i64) (.pair (.int .i64) (.pair (.int .i64) (.pair (.int .i64) (.pair (.int .i64) (.pair (.int .i64) (.int .i64))))))) (.pair .bool (.pair (.sl 3 (.int .i64)) (.sl 3 (.int .i64)))))) y3,.sl .any 33 (.pair (.sl 92 (.pair (.int .i64) (.pair (.int .i64) (.pair (.sl 9 .str) (.sl 155 (.pair .str (.pair .bool (.sl 3 (.int .i64))))))))) (.int .i64)) y4,.sl .any 83 (.pair (.int .i64) (.pair (.int .i64) (.pair (.int .i64) (.pair (.int .i64) (.pair (.int .i64) (.pair (.int .i64) (.pair (.int .i64) (.pair (.int .i64) (.pair (.int .i64) (.pair (.int .i64) (.int .i64))))))))))) y5,.sl .any 49 (.pair (.int .i64) (.pair (.int .i64) (.pair (.int .i64) (.pair (.int .i64) (.pair (.int .i64) (.pair (.int .i64) (.int .i64))))))) y6,.sl .any 110 (.pair (.int .i64) .bool) y7])] => some (okO (g_Ls_WldOk_0 y1 y2 y3 y4 y5 y6 y7 y0),(.br (isL (valO (g_Ls_WldOk_0 y1 y2 y3 y4 y5 y6 y7 y0))) (.leaf .ret [(.T 1,.t (.val false [.ptr 1 0 0])),(.T 2,.t (.val false [.bool (getL (valO (g_Ls_WldOk_0 y1 y2 y3 y4 y5 y6 y7 y0)))])),(.B 1,.b 0 false [.sl .any 92 (.pair (.int .i64) (.pair (.int .i64) (.pair (.sl 9 .str) (.sl 155 (.pair .str (.pair .bool (.sl 3 (.int .i64)))))))) y1,.int .i64 y2,.sl .any 73 (.pair (.int .i64) (.pair (.pair (.int .i64) (.pair (.int .i64) (.pair (.int .i64) (.pair (.int .i64) (.pair (.int .i64) (.pair (.int .i64) (.int .i64))))))) (.pair .bool (.pair (.sl 3 (.int .i64)) (.sl 3 (.int .i64)))))) y3,.sl .any 33 (.pair (.sl 92 (.pair (.int .i64) (.pair (.int .i64) (.pair (.sl 9 .str) (.sl 155 (.pair .str (.pair .bool (.sl 3 (.int .i64))))))))) (.int .i64)) y4,.sl .any 83 (.pair (.int .i64) (.pair (.int .i64) (.pair (.int .i64) (.pair (.int .i64) (.pair (.int .i64) (.pair (.int .i64) (.pair (.int .i64) (.pair (.int .i64) (.pair (.int .i64) (.pair (.int .i64) (.int .i64))))))))))) y5,.sl .any 49 (.pair (.int .i64) (.pair (.int .i64) (.pair (.int .i64) (.pair (.int .i64) (.pair (.int .i64) (.pair (.int .i64) (.int .i64))))))) y6,.sl .any 110 (.pair (.int .i64) .bool) y7])]) (.leaf (.exit 0) [(.T 1,.t (.val false [.ptr 1 0 0])),(.T 2,.t (.val false [.undef])),(.B 1,.b 0 false [.sl .any 92 (.pair (.int .i64) (.pair (.int .i64) (.pair (.sl 9 .str) (.sl 155 (.pair .str (.pair .bool (.sl 3 (.int .i64)))))))) y1,.int .i64 y2,.sl .any 73 (.pair (.int .i64) (.pair (.pair (.int .i64) (.pair (.int .i64) (.pair (.int .i64) (.pair (.int .i64) (.pair (.int .i64) (.pair (.int .i64) (.int .i64))))))) (.pair .bool (.pair (.sl 3 (.int .i64)) (.sl 3 (.int .i64)))))) y3,.sl .any 33 (.pair (.sl 92 (.pair (.int .i64) (.pair (.int .i64) (.pair (.sl 9 .str) (.sl 155 (.pair .str (.pair .bool (.sl 3 (.int .i64))))))))) (.int .i64)) y4,.sl .any 83 (.pair (.int .i64) (.pair (.int .i64) (.pair (.int .i64) (.pair (.int .i64) (.pair (.int .i64) (.pair (.int .i64) (.pair (.int .i64) (.pair (.int .i64) (.pair (.int .i64) (.pair (.int .i64) (.int .i64))))))))))) y5,.sl .any 49 (.pair (.int .i64) (.pair (.int .i64) (.pair (.int .i64) (.pair (.int .i64) (.pair (.int .i64) (.pair (.int .i64) (.int .i64))))))) y6,.sl .any 110 (.pair (.int .i64) .bool) y7])])))
 | b,h => Os_WldOk_0 b h
theorem bs_WldOk_0 (y0:Int) (y1:tL0) (y2:Int) (y3:tL1) (y4:List (tL0×Int)) (y5:tL2) (y6:tL3) (y7:List (Int×Bool)):Tr.bt Es_WldOk Os_WldOk_0 (exec Es_WldOk 0 cs_WldOk_0 (St.of (hs_WldOk_0 y0 y1 y2 y3 y4 y5 y6 y7)) (leafRd Es_WldOk 0)) = (g_Ss_WldOk_0 y1 y2 y3 y4 y5 y6 y7 y0).bt (fun (y0:Int) => (hs_WldOk_0 y0 y1 y2 y3 y4 y5 y6 y7)) (xs_WldOk_0 y1 y2 y3 y4 y5 y6 y7) := by kernel_rfl
theorem ks_WldOk_1:OrcOk Es_WldOk Os_WldOk_1 lss_WldOk 1 := orc_add ks_WldOk_0 (fun n p hp h ex h' ho => by
 obtain ⟨b,c⟩ := p
 obtain ⟨xt,h1,h2⟩ := ho
 have h1:Os_WldOk_1 b h = some (true,xt) := h1
 unfold Os_WldOk_1 at h1
 split at h1
 ·injection h1 with h1
  injection h1 with e1 e2
  subst e2
  have hc:c = cs_WldOk_0 := ms_WldOk_0 _ hp rfl
  subst hc
  right
  rename_i y0 y1 y2 y3 y4 y5 y6 y7
  have key := LT_step ks_WldOk_0 hp (fun q hq => loopsAll_in _ _ _ _ hp hq) (fun (y0:Int) => (hs_WldOk_0 y0 y1 y2 y3 y4 y5 y6 y7)) (xs_WldOk_0 y1 y2 y3 y4 y5 y6 y7) (g_Ss_WldOk_0 y1 y2 y3 y4 y5 y6 y7) (fun x => by first | exact bs_WldOk_0 x y1 y2 y3 y4 y5 y6 y7) n (x := y0) (okO_some e1)
  have hx:∀ r,XT.sel (.br (isL r) (.leaf .ret [(.T 1,.t (.val false [.ptr 1 0 0])),(.T 2,.t (.val false [.bool (getL r)])),(.B 1,.b 0 false [.sl .any 92 (.pair (.int .i64) (.pair (.int .i64) (.pair (.sl 9 .str) (.sl 155 (.pair .str (.pair .bool (.sl 3 (.int .i64)))))))) y1,.int .i64 y2,.sl .any 73 (.pair (.int .i64) (.pair (.pair (.int .i64) (.pair (.int .i64) (.pair (.int .i64) (.pair (.int .i64) (.pair (.int .i64) (.pair (.int .i64) (.int .i64))))))) (.pair .bool (.pair (.sl 3 (.int .i64)) (.sl 3 (.int .i64)))))) y3,.sl .any 33 (.pair (.sl 92 (.pair (.int .i64) (.pair (.int .i64) (.pair (.sl 9 .str) (.sl 155 (.pair .str (.pair .bool (.sl 3 (.int .i64))))))))) (.int .i64)) y4,.sl .any 83 (.pair (.int .i64) (.pair (.int .i64) (.pair (.int .i64) (.pair (.int .i64) (.pair (.int .i64) (.pair (.int .i64) (.pair (.int .i64) (.pair (.int .i64) (.pair (.int .i64) (.pair (.int .i64) (.int .i64))))))))))) y5,.sl .any 49 (.pair (.int .i64) (.pair (.int .i64) (.pair (.int .i64) (.pair (.int .i64) (.pair (.int .i64) (.pair (.int .i64) (.int .i64))))))) y6,.sl .any 110 (.pair (.int .i64) .bool) y7])]) (.leaf (.exit 0) [(.T 1,.t (.val false [.ptr 1 0 0])),(.T 2,.t (.val false [.undef])),(.B 1,.b 0 false [.sl .any 92 (.pair (.int .i64) (.pair (.int .i64) (.pair (.sl 9 .str) (.sl 155 (.pair .str (.pair .bool (.sl 3 (.int .i64)))))))) y1,.int .i64 y2,.sl .any 73 (.pair (.int .i64) (.pair (.pair (.int .i64) (.pair (.int .i64) (.pair (.int .i64) (.pair (.int .i64) (.pair (.int .i64) (.pair (.int .i64) (.int .i64))))))) (.pair .bool (.pair (.sl 3 (.int .i64)) (.sl 3 (.int .i64)))))) y3,.sl .any 33 (.pair (.sl 92 (.pair (.int .i64) (.pair (.int .i64) (.pair (.sl 9 .str) (.sl 155 (.pair .str (.pair .bool (.sl 3 (.int .i64))))))))) (.int .i64)) y4,.sl .any 83 (.pair (.int .i64) (.pair (.int .i64) (.pair (.int .i64) (.pair (.int .i64) (.pair (.int .i64) (.pair (.int .i64) (.pair (.int .i64) (.pair (.int .i64) (.pair (.int .i64) (.pair (.int .i64) (.int .i64))))))))))) y5,.sl .any 49 (.pair (.int .i64) (.pair (.int .i64) (.pair (.int .i64) (.pair (.int .i64) (.pair (.int .i64) (.pair (.int .i64) (.int .i64))))))) y6,.sl .any 110 (.pair (.int .i64) .bool) y7])])) = xs_WldOk_0 y1 y2 y3 y4 y5 y6 y7 r := fun r => by first | rfl | rcases r with r | r <;> rfl | rcases r with r | r | r <;> rfl | rcases r with r | r | r | r <;> rfl
  have h3 := (hx (valO (g_Ls_WldOk_0 y1 y2 y3 y4 y5 y6 y7 y0))).symm.trans h2
  have e3 := congrArg Prod.fst h3
  have e4 := congrArg Prod.snd h3
  simp only at e3 e4
  rw [← e3,← e4]
  exact key
 ·exact .inl ⟨xt,h1,h2⟩)
noncomputable def hs_WldOk_2 (y0:Int) (y1:tL0) (y2:Int) (y3:tL1) (y4:List (tL0×Int)) (y5:tL2) (y6:tL3) (y7:List (Int×Bool)):List (Pl×LV) := [(.T 1,.t (.val false [.ptr 1 0 0])),(.T 4,.t (.val false [.int .i64 y0])),(.B 1,.b 0 false [.sl .any 92 (.pair (.int .i64) (.pair (.int .i64) (.pair (.sl 9 .str) (.sl 155 (.pair .str (.pair .bool (.sl 3 (.int .i64)))))))) y1,.int .i64 y2,.sl .any 73 (.pair (.int .i64) (.pair (.pair (.int .i64) (.pair (.int .i64) (.pair (.int .i64) (.pair (.int .i64) (.pair (.int .i64) (.pair (.int .i64) (.int .i64))))))) (.pair .bool (.pair (.sl 3 (.int .i64)) (.sl 3 (.int .i64)))))) y3,.sl .any 33 (.pair (.sl 92 (.pair (.int .i64) (.pair (.int .i64) (.pair (.sl 9 .str) (.sl 155 (.pair .str (.pair .bool (.sl 3 (.int .i64))))))))) (.int .i64)) y4,.sl .any 83 (.pair (.int .i64) (.pair (.int .i64) (.pair (.int .i64) (.pair (.int .i64) (.pair (.int .i64) (.pair (.int .i64) (.pair (.int .i64) (.pair (.int .i64) (.pair (.int .i64) (.pair (.int .i64) (.int .i64))))))))))) y5,.sl .any 49 (.pair (.int .i64) (.pair (.int .i64) (.pair (.int .i64) (.pair (.int .i64) (.pair (.int .i64) (.pair (.int .i64) (.int .i64))))))) y6,.sl .any 110 (.pair (.int .i64) .bool) y7])]
noncomputable def g_Ss_WldOk_2 (y1:tL0) (y2:Int) (y3:tL1) (y4:List (tL0×Int)) (y5:tL2) (y6:tL3) (y7:List (Int×Bool)):(Int) → RT (Int) ((Bool) ⊕ (Unit))
 | y0 => .br (true) (.br (decide (y0 < (y6.length:Int))) (.br (decide (0 ≤ y0 ∧ y0 < (y6.length:Int))) (.br (g_As_OpOk (at_ yT2 y6 (Int.toNat y0)).1 (at_ yT2 y6 (Int.toNat y0)).2.1 (at_ yT2 y6 (Int.toNat y0)).2.2.1 (at_ yT2 y6 (Int.toNat y0)).2.2.2.1 (at_ yT2 y6 (Int.toNat y0)).2.2.2.2.1 (at_ yT2 y6 (Int.toNat y0)).2.2.2.2.2.1 (at_ yT2 y6 (Int.toNat y0)).2.2.2.2.2.2) (.br (!g_Vs_OpOk_0 (at_ yT2 y6 (Int.toNat y0)).1 (at_ yT2 y6 (Int.toNat y0)).2.1 (at_ yT2 y6 (Int.toNat y0)).2.2.1 (at_ yT2 y6 (Int.toNat y0)).2.2.2.1 (at_ yT2 y6 (Int.toNat y0)).2.2.2.2.1 (at_ yT2 y6 (Int.toNat y0)).2.2.2.2.2.1 (at_ yT2 y6 (Int.toNat y0)).2.2.2.2.2.2) (.out (.inl false)) (.br (true) (.go (IntKind.i64.wrap (y0 + 1))) .bad)) .bad) .bad) (.out (.inr (())))) .bad
noncomputable def g_Ls_WldOk_2 (y1:tL0) (y2:Int) (y3:tL1) (y4:List (tL0×Int)) (y5:tL2) (y6:tL3) (y7:List (Int×Bool)) (x:Int):Option ((Bool) ⊕ (Unit)) := loopO (g_Ss_WldOk_2 y1 y2 y3 y4 y5 y6 y7) x
noncomputable def xs_WldOk_2 (y1:tL0) (y2:Int) (y3:tL1) (y4:List (tL0×Int)) (y5:tL2) (y6:tL3) (y7:List (Int×Bool)):((Bool) ⊕ (Unit)) → Ex×List (Pl×LV) := fun
 | .inl r => (.ret,[(.T 1,.t (.val false [.ptr 1 0 0])),(.T 2,.t (.val false [.bool r])),(.B 1,.b 0 false [.sl .any 92 (.pair (.int .i64) (.pair (.int .i64) (.pair (.sl 9 .str) (.sl 155 (.pair .str (.pair .bool (.sl 3 (.int .i64)))))))) y1,.int .i64 y2,.sl .any 73 (.pair (.int .i64) (.pair (.pair (.int .i64) (.pair (.int .i64) (.pair (.int .i64) (.pair (.int .i64) (.pair (.int .i64) (.pair (.int .i64) (.int .i64))))))) (.pair .bool (.pair (.sl 3 (.int .i64)) (.sl 3 (.int .i64)))))) y3,.sl .any 33 (.pair (.sl 92 (.pair (.int .i64) (.pair (.int .i64) (.pair (.sl 9 .str) (.sl 155 (.pair .str (.pair .bool (.sl 3 (.int .i64))))))))) (.int .i64)) y4,.sl .any 83 (.pair (.int .i64) (.pair (.int .i64) (.pair (.int .i64) (.pair (.int .i64) (.pair (.int .i64) (.pair (.int .i64) (.pair (.int .i64) (.pair (.int .i64) (.pair (.int .i64) (.pair (.int .i64) (.int .i64))))))))))) y5,.sl .any 49 (.pair (.int .i64) (.pair (.int .i64) (.pair (.int .i64) (.pair (.int .i64) (.pair (.int .i64) (.pair (.int .i64) (.int .i64))))))) y6,.sl .any 110 (.pair (.int .i64) .bool) y7])])
 | .inr (r) => (.exit 2,[(.T 1,.t (.val false [.ptr 1 0 0])),(.T 2,.t (.val false [.undef])),(.B 1,.b 0 false [.sl .any 92 (.pair (.int .i64) (.pair (.int .i64) (.pair (.sl 9 .str) (.sl 155 (.pair .str (.pair .bool (.sl 3 (.int .i64)))))))) y1,.int .i64 y2,.sl .any 73 (.pair (.int .i64) (.pair (.pair (.int .i64) (.pair (.int .i64) (.pair (.int .i64) (.pair (.int .i64) (.pair (.int .i64) (.pair (.int .i64) (.int .i64))))))) (.pair .bool (.pair (.sl 3 (.int .i64)) (.sl 3 (.int .i64)))))) y3,.sl .any 33 (.pair (.sl 92 (.pair (.int .i64) (.pair (.int .i64) (.pair (.sl 9 .str) (.sl 155 (.pair .str (.pair .bool (.sl 3 (.int .i64))))))))) (.int .i64)) y4,.sl .any 83 (.pair (.int .i64) (.pair (.int .i64) (.pair (.int .i64) (.pair (.int .i64) (.pair (.int .i64) (.pair (.int .i64) (.pair (.int .i64) (.pair (.int .i64) (.pair (.int .i64) (.pair (.int .i64) (.int .i64))))))))))) y5,.sl .any 49 (.pair (.int .i64) (.pair (.int .i64) (.pair (.int .i64) (.pair (.int .i64) (.pair (.int .i64) (.pair (.int .i64) (.int .i64))))))) y6,.sl .any 110 (.pair (.int .i64) .bool) y7])])
noncomputable def Os_WldOk_2:Orc := fun b h => match b,h with
 | 2,[(.T 1,.t (.val false [.ptr 1 0 0])),(.T 4,.t (.val false [.int .i64 y0])),(.B 1,.b 0 false [.sl .any 92 (.pair (.int .i64) (.pair (.int .i64) (.pair (.sl 9 .str) (.sl 155 (.pair .str (.pair .bool (.sl 3 (.int .i64)))))))) y1,.int .i64 y2,.sl .any 73 (.pair (.int .i64) (.pair (.pair (.int .i64) (.pair (.int .i64) (.pair (.int .i64) (.pair (.int .i64) (.pair (.int .i64) (.pair (.int .i64) (.int .i64))))))) (.pair .bool (.pair (.sl 3 (.int .i64)) (.sl 3 (.int .i64)))))) y3,.sl .any 33 (.pair (.sl 92 (.pair (.int .i64) (.pair (.int .i64) (.pair (.sl 9 .str) (.sl 155 (.pair .str (.pair .bool (.sl 3 (.int .i64))))))))) (.int .i64)) y4,.sl .any 83 (.pair (.int .i64) (.pair (.int .i64) (.pair (.int .i64) (.pair (.int .i64) (.pair (.int .i64) (.pair (.int .i64) (.pair (.int .i64) (.pair (.int .i64) (.pair (.int .i64) (.pair (.int .i64) (.int .i64))))))))))) y5,.sl .any 49 (.pair (.int .i64) (.pair (.int .i64) (.pair (.int .i64) (.pair (.int .i64) (.pair (.int .i64) (.pair (.int .i64) (.int .i64))))))) y6,.sl .any 110 (.pair (.int .i64) .bool) y7])] => some (okO (g_Ls_WldOk_2 y1 y2 y3 y4 y5 y6 y7 y0),(.br (isL (valO (g_Ls_WldOk_2 y1 y2 y3 y4 y5 y6 y7 y0))) (.leaf .ret [(.T 1,.t (.val false [.ptr 1 0 0])),(.T 2,.t (.val false [.bool (getL (valO (g_Ls_WldOk_2 y1 y2 y3 y4 y5 y6 y7 y0)))])),(.B 1,.b 0 false [.sl .any 92 (.pair (.int .i64) (.pair (.int .i64) (.pair (.sl 9 .str) (.sl 155 (.pair .str (.pair .bool (.sl 3 (.int .i64)))))))) y1,.int .i64 y2,.sl .any 73 (.pair (.int .i64) (.pair (.pair (.int .i64) (.pair (.int .i64) (.pair (.int .i64) (.pair (.int .i64) (.pair (.int .i64) (.pair (.int .i64) (.int .i64))))))) (.pair .bool (.pair (.sl 3 (.int .i64)) (.sl 3 (.int .i64)))))) y3,.sl .any 33 (.pair (.sl 92 (.pair (.int .i64) (.pair (.int .i64) (.pair (.sl 9 .str) (.sl 155 (.pair .str (.pair .bool (.sl 3 (.int .i64))))))))) (.int .i64)) y4,.sl .any 83 (.pair (.int .i64) (.pair (.int .i64) (.pair (.int .i64) (.pair (.int .i64) (.pair (.int .i64) (.pair (.int .i64) (.pair (.int .i64) (.pair (.int .i64) (.pair (.int .i64) (.pair (.int .i64) (.int .i64))))))))))) y5,.sl .any 49 (.pair (.int .i64) (.pair (.int .i64) (.pair (.int .i64) (.pair (.int .i64) (.pair (.int .i64) (.pair (.int .i64) (.int .i64))))))) y6,.sl .any 110 (.pair (.int .i64) .bool) y7])]) (.leaf (.exit 2) [(.T 1,.t (.val false [.ptr 1 0 0])),(.T 2,.t (.val false [.undef])),(.B 1,.b 0 false [.sl .any 92 (.pair (.int .i64) (.pair (.int .i64) (.pair (.sl 9 .str) (.sl 155 (.pair .str (.pair .bool (.sl 3 (.int .i64)))))))) y1,.int .i64 y2,.sl .any 73 (.pair (.int .i64) (.pair (.pair (.int .i64) (.pair (.int .i64) (.pair (.int .i64) (.pair (.int .i64) (.pair (.int .i64) (.pair (.int .i64) (.int .i64))))))) (.pair .bool (.pair (.sl 3 (.int .i64)) (.sl 3 (.int .i64)))))) y3,.sl .any 33 (.pair (.sl 92 (.pair (.int .i64) (.pair (.int .i64) (.pair (.sl 9 .str) (.sl 155 (.pair .str (.pair .bool (.sl 3 (.int .i64))))))))) (.int .i64)) y4,.sl .any 83 (.pair (.int .i64) (.pair (.int .i64) (.pair (.int .i64) (.pair (.int .i64) (.pair (.int .i64) (.pair (.int .i64) (.pair (.int .i64) (.pair (.int .i64) (.pair (.int .i64) (.pair (.int .i64) (.int .i64))))))))))) y5,.sl .any 49 (.pair (.int .i64) (.pair (.int .i64) (.pair (.int .i64) (.pair (.int .i64) (.pair (.int .i64) (.pair (.int .i64) (.int .i64))))))) y6,.sl .any 110 (.pair (.int .i64) .bool) y7])])))
 | b,h => Os_WldOk_1 b h
theorem bs_WldOk_2 (y0:Int) (y1:tL0) (y2:Int) (y3:tL1) (y4:List (tL0×Int)) (y5:tL2) (y6:tL3) (y7:List (Int×Bool)):Tr.bt Es_WldOk Os_WldOk_1 (exec Es_WldOk 2 cs_WldOk_2 (St.of (hs_WldOk_2 y0 y1 y2 y3 y4 y5 y6 y7)) (leafRd Es_WldOk 2)) = (g_Ss_WldOk_2 y1 y2 y3 y4 y5 y6 y7 y0).bt (fun (y0:Int) => (hs_WldOk_2 y0 y1 y2 y3 y4 y5 y6 y7)) (xs_WldOk_2 y1 y2 y3 y4 y5 y6 y7) := by kernel_rfl
theorem ks_WldOk_2:OrcOk Es_WldOk Os_WldOk_2 lss_WldOk 2 := orc_add ks_WldOk_1 (fun n p hp h ex h' ho => by
 obtain ⟨b,c⟩ := p
 obtain ⟨xt,h1,h2⟩ := ho
 have h1:Os_WldOk_2 b h = some (true,xt) := h1
 unfold Os_WldOk_2 at h1
 split at h1
 ·injection h1 with h1
  injection h1 with e1 e2
  subst e2
  have hc:c = cs_WldOk_2 := ms_WldOk_2 _ hp rfl
  subst hc
  right
  rename_i y0 y1 y2 y3 y4 y5 y6 y7
  have key := LT_step ks_WldOk_1 hp (fun q hq => loopsAll_in _ _ _ _ hp hq) (fun (y0:Int) => (hs_WldOk_2 y0 y1 y2 y3 y4 y5 y6 y7)) (xs_WldOk_2 y1 y2 y3 y4 y5 y6 y7) (g_Ss_WldOk_2 y1 y2 y3 y4 y5 y6 y7) (fun x => by first | exact bs_WldOk_2 x y1 y2 y3 y4 y5 y6 y7) n (x := y0) (okO_some e1)
  have hx:∀ r,XT.sel (.br (isL r) (.leaf .ret [(.T 1,.t (.val false [.ptr 1 0 0])),(.T 2,.t (.val false [.bool (getL r)])),(.B 1,.b 0 false [.sl .any 92 (.pair (.int .i64) (.pair (.int .i64) (.pair (.sl 9 .str) (.sl 155 (.pair .str (.pair .bool (.sl 3 (.int .i64)))))))) y1,.int .i64 y2,.sl .any 73 (.pair (.int .i64) (.pair (.pair (.int .i64) (.pair (.int .i64) (.pair (.int .i64) (.pair (.int .i64) (.pair (.int .i64) (.pair (.int .i64) (.int .i64))))))) (.pair .bool (.pair (.sl 3 (.int .i64)) (.sl 3 (.int .i64)))))) y3,.sl .any 33 (.pair (.sl 92 (.pair (.int .i64) (.pair (.int .i64) (.pair (.sl 9 .str) (.sl 155 (.pair .str (.pair .bool (.sl 3 (.int .i64))))))))) (.int .i64)) y4,.sl .any 83 (.pair (.int .i64) (.pair (.int .i64) (.pair (.int .i64) (.pair (.int .i64) (.pair (.int .i64) (.pair (.int .i64) (.pair (.int .i64) (.pair (.int .i64) (.pair (.int .i64) (.pair (.int .i64) (.int .i64))))))))))) y5,.sl .any 49 (.pair (.int .i64) (.pair (.int .i64) (.pair (.int .i64) (.pair (.int .i64) (.pair (.int .i64) (.pair (.int .i64) (.int .i64))))))) y6,.sl .any 110 (.pair (.int .i64) .bool) y7])]) (.leaf (.exit 2) [(.T 1,.t (.val false [.ptr 1 0 0])),(.T 2,.t (.val false [.undef])),(.B 1,.b 0 false [.sl .any 92 (.pair (.int .i64) (.pair (.int .i64) (.pair (.sl 9 .str) (.sl 155 (.pair .str (.pair .bool (.sl 3 (.int .i64)))))))) y1,.int .i64 y2,.sl .any 73 (.pair (.int .i64) (.pair (.pair (.int .i64) (.pair (.int .i64) (.pair (.int .i64) (.pair (.int .i64) (.pair (.int .i64) (.pair (.int .i64) (.int .i64))))))) (.pair .bool (.pair (.sl 3 (.int .i64)) (.sl 3 (.int .i64)))))) y3,.sl .any 33 (.pair (.sl 92 (.pair (.int .i64) (.pair (.int .i64) (.pair (.sl 9 .str) (.sl 155 (.pair .str (.pair .bool (.sl 3 (.int .i64))))))))) (.int .i64)) y4,.sl .any 83 (.pair (.int .i64) (.pair (.int .i64) (.pair (.int .i64) (.pair (.int .i64) (.pair (.int .i64) (.pair (.int .i64) (.pair (.int .i64) (.pair (.int .i64) (.pair (.int .i64) (.pair (.int .i64) (.int .i64))))))))))) y5,.sl .any 49 (.pair (.int .i64) (.pair (.int .i64) (.pair (.int .i64) (.pair (.int .i64) (.pair (.int .i64) (.pair (.int .i64) (.int .i64))))))) y6,.sl .any 110 (.pair (.int .i64) .bool) y7])])) = xs_WldOk_2 y1 y2 y3 y4 y5 y6 y7 r := fun r => by first | rfl | rcases r with r | r <;> rfl | rcases r with r | r | r <;> rfl | rcases r with r | r | r | r <;> rfl
  have h3 := (hx (valO (g_Ls_WldOk_2 y1 y2 y3 y4 y5 y6 y7 y0))).symm.trans h2
  have e3 := congrArg Prod.fst h3
  have e4 := congrArg Prod.snd h3
  simp only at e3 e4
  rw [← e3,← e4]
  exact key
 ·exact .inl ⟨xt,h1,h2⟩)
noncomputable def hs_WldOk_4 (y0:Int) (y1:tL0) (y2:Int) (y3:tL1) (y4:List (tL0×Int)) (y5:tL2) (y6:tL3) (y7:List (Int×Bool)):List (Pl×LV) := [(.T 1,.t (.val false [.ptr 1 0 0])),(.T 5,.t (.val false [.int .i64 y0])),(.B 1,.b 0 false [.sl .any 92 (.pair (.int .i64) (.pair (.int .i64) (.pair (.sl 9 .str) (.sl 155 (.pair .str (.pair .bool (.sl 3 (.int .i64)))))))) y1,.int .i64 y2,.sl .any 73 (.pair (.int .i64) (.pair (.pair (.int .i64) (.pair (.int .i64) (.pair (.int .i64) (.pair (.int .i64) (.pair (.int .i64) (.pair (.int .i64) (.int .i64))))))) (.pair .bool (.pair (.sl 3 (.int .i64)) (.sl 3 (.int .i64)))))) y3,.sl .any 33 (.pair (.sl 92 (.pair (.int .i64) (.pair (.int .i64) (.pair (.sl 9 .str) (.sl 155 (.pair .str (.pair .bool (.sl 3 (.int .i64))))))))) (.int .i64)) y4,.sl .any 83 (.pair (.int .i64) (.pair (.int .i64) (.pair (.int .i64) (.pair (.int .i64) (.pair (.int .i64) (.pair (.int .i64) (.pair (.int .i64) (.pair (.int .i64) (.pair (.int .i64) (.pair (.int .i64) (.int .i64))))))))))) y5,.sl .any 49 (.pair (.int .i64) (.pair (.int .i64) (.pair (.int .i64) (.pair (.int .i64) (.pair (.int .i64) (.pair (.int .i64) (.int .i64))))))) y6,.sl .any 110 (.pair (.int .i64) .bool) y7])]
noncomputable def g_Ss_WldOk_4 (y1:tL0) (y2:Int) (y3:tL1) (y4:List (tL0×Int)) (y5:tL2) (y6:tL3) (y7:List (Int×Bool)):(Int) → RT (Int) ((Bool) ⊕ (Unit))
 | y0 => .br (true) (.br (decide (y0 < (y7.length:Int))) (.br (decide (0 ≤ y0 ∧ y0 < (y7.length:Int))) (.br (true) (.br (g_As_l1In (at_ (.pair (.int .i64) Ty.bool) y7 (Int.toNat y0)).1 (0:Int) (IntKind.i64.wrap ((y6.length:Int) - 1))) (.br (!g_Vs_l1In_0 (at_ (.pair (.int .i64) Ty.bool) y7 (Int.toNat y0)).1 (0:Int) (IntKind.i64.wrap ((y6.length:Int) - 1))) (.out (.inl false)) (.br (true) (.go (IntKind.i64.wrap (y0 + 1))) .bad)) .bad) .bad) .bad) (.out (.inr (())))) .bad
noncomputable def g_Ls_WldOk_4 (y1:tL0) (y2:Int) (y3:tL1) (y4:List (tL0×Int)) (y5:tL2) (y6:tL3) (y7:List (Int×Bool)) (x:Int):Option ((Bool) ⊕ (Unit)) := loopO (g_Ss_WldOk_4 y1 y2 y3 y4 y5 y6 y7) x
noncomputable def xs_WldOk_4 (y1:tL0) (y2:Int) (y3:tL1) (y4:List (tL0×Int)) (y5:tL2) (y6:tL3) (y7:List (Int×Bool)):((Bool) ⊕ (Unit)) → Ex×List (Pl×LV) := fun
 | .inl r => (.ret,[(.T 1,.t (.val false [.ptr 1 0 0])),(.T 2,.t (.val false [.bool r])),(.B 1,.b 0 false [.sl .any 92 (.pair (.int .i64) (.pair (.int .i64) (.pair (.sl 9 .str) (.sl 155 (.pair .str (.pair .bool (.sl 3 (.int .i64)))))))) y1,.int .i64 y2,.sl .any 73 (.pair (.int .i64) (.pair (.pair (.int .i64) (.pair (.int .i64) (.pair (.int .i64) (.pair (.int .i64) (.pair (.int .i64) (.pair (.int .i64) (.int .i64))))))) (.pair .bool (.pair (.sl 3 (.int .i64)) (.sl 3 (.int .i64)))))) y3,.sl .any 33 (.pair (.sl 92 (.pair (.int .i64) (.pair (.int .i64) (.pair (.sl 9 .str) (.sl 155 (.pair .str (.pair .bool (.sl 3 (.int .i64))))))))) (.int .i64)) y4,.sl .any 83 (.pair (.int .i64) (.pair (.int .i64) (.pair (.int .i64) (.pair (.int .i64) (.pair (.int .i64) (.pair (.int .i64) (.pair (.int .i64) (.pair (.int .i64) (.pair (.int .i64) (.pair (.int .i64) (.int .i64))))))))))) y5,.sl .any 49 (.pair (.int .i64) (.pair (.int .i64) (.pair (.int .i64) (.pair (.int .i64) (.pair (.int .i64) (.pair (.int .i64) (.int .i64))))))) y6,.sl .any 110 (.pair (.int .i64) .bool) y7])])
 | .inr (r) => (.exit 4,[(.T 1,.t (.val false [.ptr 1 0 0])),(.T 2,.t (.val false [.undef])),(.B 1,.b 0 false [.sl .any 92 (.pair (.int .i64) (.pair (.int .i64) (.pair (.sl 9 .str) (.sl 155 (.pair .str (.pair .bool (.sl 3 (.int .i64)))))))) y1,.int .i64 y2,.sl .any 73 (.pair (.int .i64) (.pair (.pair (.int .i64) (.pair (.int .i64) (.pair (.int .i64) (.pair (.int .i64) (.pair (.int .i64) (.pair (.int .i64) (.int .i64))))))) (.pair .bool (.pair (.sl 3 (.int .i64)) (.sl 3 (.int .i64)))))) y3,.sl .any 33 (.pair (.sl 92 (.pair (.int .i64) (.pair (.int .i64) (.pair (.sl 9 .str) (.sl 155 (.pair .str (.pair .bool (.sl 3 (.int .i64))))))))) (.int .i64)) y4,.sl .any 83 (.pair (.int .i64) (.pair (.int .i64) (.pair (.int .i64) (.pair (.int .i64) (.pair (.int .i64) (.pair (.int .i64) (.pair (.int .i64) (.pair (.int .i64) (.pair (.int .i64) (.pair (.int .i64) (.int .i64))))))))))) y5,.sl .any 49 (.pair (.int .i64) (.pair (.int .i64) (.pair (.int .i64) (.pair (.int .i64) (.pair (.int .i64) (.pair (.int .i64) (.int .i64))))))) y6,.sl .any 110 (.pair (.int .i64) .bool) y7])])
noncomputable def Os_WldOk_3:Orc := fun b h => match b,h with
 | 4,[(.T 1,.t (.val false [.ptr 1 0 0])),(.T 5,.t (.val false [.int .i64 y0])),(.B 1,.b 0 false [.sl .any 92 (.pair (.int .i64) (.pair (.int .i64) (.pair (.sl 9 .str) (.sl 155 (.pair .str (.pair .bool (.sl 3 (.int .i64)))))))) y1,.int .i64 y2,.sl .any 73 (.pair (.int .i64) (.pair (.pair (.int .i64) (.pair (.int .i64) (.pair (.int .i64) (.pair (.int .i64) (.pair (.int .i64) (.pair (.int .i64) (.int .i64))))))) (.pair .bool (.pair (.sl 3 (.int .i64)) (.sl 3 (.int .i64)))))) y3,.sl .any 33 (.pair (.sl 92 (.pair (.int .i64) (.pair (.int .i64) (.pair (.sl 9 .str) (.sl 155 (.pair .str (.pair .bool (.sl 3 (.int .i64))))))))) (.int .i64)) y4,.sl .any 83 (.pair (.int .i64) (.pair (.int .i64) (.pair (.int .i64) (.pair (.int .i64) (.pair (.int .i64) (.pair (.int .i64) (.pair (.int .i64) (.pair (.int .i64) (.pair (.int .i64) (.pair (.int .i64) (.int .i64))))))))))) y5,.sl .any 49 (.pair (.int .i64) (.pair (.int .i64) (.pair (.int .i64) (.pair (.int .i64) (.pair (.int .i64) (.pair (.int .i64) (.int .i64))))))) y6,.sl .any 110 (.pair (.int .i64) .bool) y7])] => some (okO (g_Ls_WldOk_4 y1 y2 y3 y4 y5 y6 y7 y0),(.br (isL (valO (g_Ls_WldOk_4 y1 y2 y3 y4 y5 y6 y7 y0))) (.leaf .ret [(.T 1,.t (.val false [.ptr 1 0 0])),(.T 2,.t (.val false [.bool (getL (valO (g_Ls_WldOk_4 y1 y2 y3 y4 y5 y6 y7 y0)))])),(.B 1,.b 0 false [.sl .any 92 (.pair (.int .i64) (.pair (.int .i64) (.pair (.sl 9 .str) (.sl 155 (.pair .str (.pair .bool (.sl 3 (.int .i64)))))))) y1,.int .i64 y2,.sl .any 73 (.pair (.int .i64) (.pair (.pair (.int .i64) (.pair (.int .i64) (.pair (.int .i64) (.pair (.int .i64) (.pair (.int .i64) (.pair (.int .i64) (.int .i64))))))) (.pair .bool (.pair (.sl 3 (.int .i64)) (.sl 3 (.int .i64)))))) y3,.sl .any 33 (.pair (.sl 92 (.pair (.int .i64) (.pair (.int .i64) (.pair (.sl 9 .str) (.sl 155 (.pair .str (.pair .bool (.sl 3 (.int .i64))))))))) (.int .i64)) y4,.sl .any 83 (.pair (.int .i64) (.pair (.int .i64) (.pair (.int .i64) (.pair (.int .i64) (.pair (.int .i64) (.pair (.int .i64) (.pair (.int .i64) (.pair (.int .i64) (.pair (.int .i64) (.pair (.int .i64) (.int .i64))))))))))) y5,.sl .any 49 (.pair (.int .i64) (.pair (.int .i64) (.pair (.int .i64) (.pair (.int .i64) (.pair (.int .i64) (.pair (.int .i64) (.int .i64))))))) y6,.sl .any 110 (.pair (.int .i64) .bool) y7])]) (.leaf (.exit 4) [(.T 1,.t (.val false [.ptr 1 0 0])),(.T 2,.t (.val false [.undef])),(.B 1,.b 0 false [.sl .any 92 (.pair (.int .i64) (.pair (.int .i64) (.pair (.sl 9 .str) (.sl 155 (.pair .str (.pair .bool (.sl 3 (.int .i64)))))))) y1,.int .i64 y2,.sl .any 73 (.pair (.int .i64) (.pair (.pair (.int .i64) (.pair (.int .i64) (.pair (.int .i64) (.pair (.int .i64) (.pair (.int .i64) (.pair (.int .i64) (.int .i64))))))) (.pair .bool (.pair (.sl 3 (.int .i64)) (.sl 3 (.int .i64)))))) y3,.sl .any 33 (.pair (.sl 92 (.pair (.int .i64) (.pair (.int .i64) (.pair (.sl 9 .str) (.sl 155 (.pair .str (.pair .bool (.sl 3 (.int .i64))))))))) (.int .i64)) y4,.sl .any 83 (.pair (.int .i64) (.pair (.int .i64) (.pair (.int .i64) (.pair (.int .i64) (.pair (.int .i64) (.pair (.int .i64) (.pair (.int .i64) (.pair (.int .i64) (.pair (.int .i64) (.pair (.int .i64) (.int .i64))))))))))) y5,.sl .any 49 (.pair (.int .i64) (.pair (.int .i64) (.pair (.int .i64) (.pair (.int .i64) (.pair (.int .i64) (.pair (.int .i64) (.int .i64))))))) y6,.sl .any 110 (.pair (.int .i64) .bool) y7])])))
 | b,h => Os_WldOk_2 b h
theorem bs_WldOk_4 (y0:Int) (y1:tL0) (y2:Int) (y3:tL1) (y4:List (tL0×Int)) (y5:tL2) (y6:tL3) (y7:List (Int×Bool)):Tr.bt Es_WldOk Os_WldOk_2 (exec Es_WldOk 4 cs_WldOk_4 (St.of (hs_WldOk_4 y0 y1 y2 y3 y4 y5 y6 y7)) (leafRd Es_WldOk 4)) = (g_Ss_WldOk_4 y1 y2 y3 y4 y5 y6 y7 y0).bt (fun (y0:Int) => (hs_WldOk_4 y0 y1 y2 y3 y4 y5 y6 y7)) (xs_WldOk_4 y1 y2 y3 y4 y5 y6 y7) := by kernel_rfl
theorem ks_WldOk_3:OrcOk Es_WldOk Os_WldOk_3 lss_WldOk 3 := orc_add ks_WldOk_2 (fun n p hp h ex h' ho => by
 obtain ⟨b,c⟩ := p
 obtain ⟨xt,h1,h2⟩ := ho
 have h1:Os_WldOk_3 b h = some (true,xt) := h1
 unfold Os_WldOk_3 at h1
 split at h1
 ·injection h1 with h1
  injection h1 with e1 e2
  subst e2
  have hc:c = cs_WldOk_4 := ms_WldOk_4 _ hp rfl
  subst hc
  right
  rename_i y0 y1 y2 y3 y4 y5 y6 y7
  have key := LT_step ks_WldOk_2 hp (fun q hq => loopsAll_in _ _ _ _ hp hq) (fun (y0:Int) => (hs_WldOk_4 y0 y1 y2 y3 y4 y5 y6 y7)) (xs_WldOk_4 y1 y2 y3 y4 y5 y6 y7) (g_Ss_WldOk_4 y1 y2 y3 y4 y5 y6 y7) (fun x => by first | exact bs_WldOk_4 x y1 y2 y3 y4 y5 y6 y7) n (x := y0) (okO_some e1)
  have hx:∀ r,XT.sel (.br (isL r) (.leaf .ret [(.T 1,.t (.val false [.ptr 1 0 0])),(.T 2,.t (.val false [.bool (getL r)])),(.B 1,.b 0 false [.sl .any 92 (.pair (.int .i64) (.pair (.int .i64) (.pair (.sl 9 .str) (.sl 155 (.pair .str (.pair .bool (.sl 3 (.int .i64)))))))) y1,.int .i64 y2,.sl .any 73 (.pair (.int .i64) (.pair (.pair (.int .i64) (.pair (.int .i64) (.pair (.int .i64) (.pair (.int .i64) (.pair (.int .i64) (.pair (.int .i64) (.int .i64))))))) (.pair .bool (.pair (.sl 3 (.int .i64)) (.sl 3 (.int .i64)))))) y3,.sl .any 33 (.pair (.sl 92 (.pair (.int .i64) (.pair (.int .i64) (.pair (.sl 9 .str) (.sl 155 (.pair .str (.pair .bool (.sl 3 (.int .i64))))))))) (.int .i64)) y4,.sl .any 83 (.pair (.int .i64) (.pair (.int .i64) (.pair (.int .i64) (.pair (.int .i64) (.pair (.int .i64) (.pair (.int .i64) (.pair (.int .i64) (.pair (.int .i64) (.pair (.int .i64) (.pair (.int .i64) (.int .i64))))))))))) y5,.sl .any 49 (.pair (.int .i64) (.pair (.int .i64) (.pair (.int .i64) (.pair (.int .i64) (.pair (.int .i64) (.pair (.int .i64) (.int .i64))))))) y6,.sl .any 110 (.pair (.int .i64) .bool) y7])]) (.leaf (.exit 4) [(.T 1,.t (.val false [.ptr 1 0 0])),(.T 2,.t (.val false [.undef])),(.B 1,.b 0 false [.sl .any 92 (.pair (.int .i64) (.pair (.int .i64) (.pair (.sl 9 .str) (.sl 155 (.pair .str (.pair .bool (.sl 3 (.int .i64)))))))) y1,.int .i64 y2,.sl .any 73 (.pair (.int .i64) (.pair (.pair (.int .i64) (.pair (.int .i64) (.pair (.int .i64) (.pair (.int .i64) (.pair (.int .i64) (.pair (.int .i64) (.int .i64))))))) (.pair .bool (.pair (.sl 3 (.int .i64)) (.sl 3 (.int .i64)))))) y3,.sl .any 33 (.pair (.sl 92 (.pair (.int .i64) (.pair (.int .i64) (.pair (.sl 9 .str) (.sl 155 (.pair .str (.pair .bool (.sl 3 (.int .i64))))))))) (.int .i64)) y4,.sl .any 83 (.pair (.int .i64) (.pair (.int .i64) (.pair (.int .i64) (.pair (.int .i64) (.pair (.int .i64) (.pair (.int .i64) (.pair (.int .i64) (.pair (.int .i64) (.pair (.int .i64) (.pair (.int .i64) (.int .i64))))))))))) y5,.sl .any 49 (.pair (.int .i64) (.pair (.int .i64) (.pair (.int .i64) (.pair (.int .i64) (.pair (.int .i64) (.pair (.int .i64) (.int .i64))))))) y6,.sl .any 110 (.pair (.int .i64) .bool) y7])])) = xs_WldOk_4 y1 y2 y3 y4 y5 y6 y7 r := fun r => by first | rfl | rcases r with r | r <;> rfl | rcases r with r | r | r <;> rfl | rcases r with r | r | r | r <;> rfl
  have h3 := (hx (valO (g_Ls_WldOk_4 y1 y2 y3 y4 y5 y6 y7 y0))).symm.trans h2
  have e3 := congrArg Prod.fst h3
  have e4 := congrArg Prod.snd h3
  simp only at e3 e4
  rw [← e3,← e4]
  exact key
 ·exact .inl ⟨xt,h1,h2⟩)
noncomputable def hs_WldOk_6 (y0:Int) (y1:tL0) (y2:Int) (y3:tL1) (y4:List (tL0×Int)) (y5:tL2) (y6:tL3) (y7:List (Int×Bool)):List (Pl×LV) := [(.T 1,.t (.val false [.ptr 1 0 0])),(.T 6,.t (.val false [.int .i64 y0])),(.B 1,.b 0 false [.sl .any 92 (.pair (.int .i64) (.pair (.int .i64) (.pair (.sl 9 .str) (.sl 155 (.pair .str (.pair .bool (.sl 3 (.int .i64)))))))) y1,.int .i64 y2,.sl .any 73 (.pair (.int .i64) (.pair (.pair (.int .i64) (.pair (.int .i64) (.pair (.int .i64) (.pair (.int .i64) (.pair (.int .i64) (.pair (.int .i64) (.int .i64))))))) (.pair .bool (.pair (.sl 3 (.int .i64)) (.sl 3 (.int .i64)))))) y3,.sl .any 33 (.pair (.sl 92 (.pair (.int .i64) (.pair (.int .i64) (.pair (.sl 9 .str) (.sl 155 (.pair .str (.pair .bool (.sl 3 (.int .i64))))))))) (.int .i64)) y4,.sl .any 83 (.pair (.int .i64) (.pair (.int .i64) (.pair (.int .i64) (.pair (.int .i64) (.pair (.int .i64) (.pair (.int .i64) (.pair (.int .i64) (.pair (.int .i64) (.pair (.int .i64) (.pair (.int .i64) (.int .i64))))))))))) y5,.sl .any 49 (.pair (.int .i64) (.pair (.int .i64) (.pair (.int .i64) (.pair (.int .i64) (.pair (.int .i64) (.pair (.int .i64) (.int .i64))))))) y6,.sl .any 110 (.pair (.int .i64) .bool) y7])]
noncomputable def g_Ss_WldOk_6 (y1:tL0) (y2:Int) (y3:tL1) (y4:List (tL0×Int)) (y5:tL2) (y6:tL3) (y7:List (Int×Bool)):(Int) → RT (Int) ((Bool) ⊕ (Unit))
 | y0 => .br (true) (.br (decide (y0 < (y3.length:Int))) (.br (decide (0 ≤ y0 ∧ y0 < (y3.length:Int))) (.br (true) (.br (decide ((at_ yT0 y3 (Int.toNat y0)).1 ≥ (y6.length:Int))) (.out (.inl false)) (.br (true) (.go (IntKind.i64.wrap (y0 + 1))) .bad)) .bad) .bad) (.out (.inr (())))) .bad
noncomputable def g_Ls_WldOk_6 (y1:tL0) (y2:Int) (y3:tL1) (y4:List (tL0×Int)) (y5:tL2) (y6:tL3) (y7:List (Int×Bool)) (x:Int):Option ((Bool) ⊕ (Unit)) := loopO (g_Ss_WldOk_6 y1 y2 y3 y4 y5 y6 y7) x
noncomputable def xs_WldOk_6 (y1:tL0) (y2:Int) (y3:tL1) (y4:List (tL0×Int)) (y5:tL2) (y6:tL3) (y7:List (Int×Bool)):((Bool) ⊕ (Unit)) → Ex×List (Pl×LV) := fun
 | .inl r => (.ret,[(.T 1,.t (.val false [.ptr 1 0 0])),(.T 2,.t (.val false [.bool r])),(.B 1,.b 0 false [.sl .any 92 (.pair (.int .i64) (.pair (.int .i64) (.pair (.sl 9 .str) (.sl 155 (.pair .str (.pair .bool (.sl 3 (.int .i64)))))))) y1,.int .i64 y2,.sl .any 73 (.pair (.int .i64) (.pair (.pair (.int .i64) (.pair (.int .i64) (.pair (.int .i64) (.pair (.int .i64) (.pair (.int .i64) (.pair (.int .i64) (.int .i64))))))) (.pair .bool (.pair (.sl 3 (.int .i64)) (.sl 3 (.int .i64)))))) y3,.sl .any 33 (.pair (.sl 92 (.pair (.int .i64) (.pair (.int .i64) (.pair (.sl 9 .str) (.sl 155 (.pair .str (.pair .bool (.sl 3 (.int .i64))))))))) (.int .i64)) y4,.sl .any 83 (.pair (.int .i64) (.pair (.int .i64) (.pair (.int .i64) (.pair (.int .i64) (.pair (.int .i64) (.pair (.int .i64) (.pair (.int .i64) (.pair (.int .i64) (.pair (.int .i64) (.pair (.int .i64) (.int .i64))))))))))) y5,.sl .any 49 (.pair (.int .i64) (.pair (.int .i64) (.pair (.int .i64) (.pair (.int .i64) (.pair (.int .i64) (.pair (.int .i64) (.int .i64))))))) y6,.sl .any 110 (.pair (.int .i64) .bool) y7])])
 | .inr (r) => (.exit 6,[(.T 1,.t (.val false [.ptr 1 0 0])),(.T 2,.t (.val false [.undef])),(.B 1,.b 0 false [.sl .any 92 (.pair (.int .i64) (.pair (.int .i64) (.pair (.sl 9 .str) (.sl 155 (.pair .str (.pair .bool (.sl 3 (.int .i64)))))))) y1,.int .i64 y2,.sl .any 73 (.pair (.int .i64) (.pair (.pair (.int .i64) (.pair (.int .i64) (.pair (.int .i64) (.pair (.int .i64) (.pair (.int .i64) (.pair (.int .i64) (.int .i64))))))) (.pair .bool (.pair (.sl 3 (.int .i64)) (.sl 3 (.int .i64)))))) y3,.sl .any 33 (.pair (.sl 92 (.pair (.int .i64) (.pair (.int .i64) (.pair (.sl 9 .str) (.sl 155 (.pair .str (.pair .bool (.sl 3 (.int .i64))))))))) (.int .i64)) y4,.sl .any 83 (.pair (.int .i64) (.pair (.int .i64) (.pair (.int .i64) (.pair (.int .i64) (.pair (.int .i64) (.pair (.int .i64) (.pair (.int .i64) (.pair (.int .i64) (.pair (.int .i64) (.pair (.int .i64) (.int .i64))))))))))) y5,.sl .any 49 (.pair (.int .i64) (.pair (.int .i64) (.pair (.int .i64) (.pair (.int .i64) (.pair (.int .i64) (.pair (.int .i64) (.int .i64))))))) y6,.sl .any 110 (.pair (.int .i64) .bool) y7])])
noncomputable def Os_WldOk_4:Orc := fun b h => match b,h with
 | 6,[(.T 1,.t (.val false [.ptr 1 0 0])),(.T 6,.t (.val false [.int .i64 y0])),(.B 1,.b 0 false [.sl .any 92 (.pair (.int .i64) (.pair (.int .i64) (.pair (.sl 9 .str) (.sl 155 (.pair .str (.pair .bool (.sl 3 (.int .i64)))))))) y1,.int .i64 y2,.sl .any 73 (.pair (.int .i64) (.pair (.pair (.int .i64) (.pair (.int .i64) (.pair (.int .i64) (.pair (.int .i64) (.pair (.int .i64) (.pair (.int .i64) (.int .i64))))))) (.pair .bool (.pair (.sl 3 (.int .i64)) (.sl 3 (.int .i64)))))) y3,.sl .any 33 (.pair (.sl 92 (.pair (.int .i64) (.pair (.int .i64) (.pair (.sl 9 .str) (.sl 155 (.pair .str (.pair .bool (.sl 3 (.int .i64))))))))) (.int .i64)) y4,.sl .any 83 (.pair (.int .i64) (.pair (.int .i64) (.pair (.int .i64) (.pair (.int .i64) (.pair (.int .i64) (.pair (.int .i64) (.pair (.int .i64) (.pair (.int .i64) (.pair (.int .i64) (.pair (.int .i64) (.int .i64))))))))))) y5,.sl .any 49 (.pair (.int .i64) (.pair (.int .i64) (.pair (.int .i64) (.pair (.int .i64) (.pair (.int .i64) (.pair (.int .i64) (.int .i64))))))) y6,.sl .any 110 (.pair (.int .i64) .bool) y7])] => some (okO (g_Ls_WldOk_6 y1 y2 y3 y4 y5 y6 y7 y0),(.br (isL (valO (g_Ls_WldOk_6 y1 y2 y3 y4 y5 y6 y7 y0))) (.leaf .ret [(.T 1,.t (.val false [.ptr 1 0 0])),(.T 2,.t (.val false [.bool (getL (valO (g_Ls_WldOk_6 y1 y2 y3 y4 y5 y6 y7 y0)))])),(.B 1,.b 0 false [.sl .any 92 (.pair (.int .i64) (.pair (.int .i64) (.pair (.sl 9 .str) (.sl 155 (.pair .str (.pair .bool (.sl 3 (.int .i64)))))))) y1,.int .i64 y2,.sl .any 73 (.pair (.int .i64) (.pair (.pair (.int .i64) (.pair (.int .i64) (.pair (.int .i64) (.pair (.int .i64) (.pair (.int .i64) (.pair (.int .i64) (.int .i64))))))) (.pair .bool (.pair (.sl 3 (.int .i64)) (.sl 3 (.int .i64)))))) y3,.sl .any 33 (.pair (.sl 92 (.pair (.int .i64) (.pair (.int .i64) (.pair (.sl 9 .str) (.sl 155 (.pair .str (.pair .bool (.sl 3 (.int .i64))))))))) (.int .i64)) y4,.sl .any 83 (.pair (.int .i64) (.pair (.int .i64) (.pair (.int .i64) (.pair (.int .i64) (.pair (.int .i64) (.pair (.int .i64) (.pair (.int .i64) (.pair (.int .i64) (.pair (.int .i64) (.pair (.int .i64) (.int .i64))))))))))) y5,.sl .any 49 (.pair (.int .i64) (.pair (.int .i64) (.pair (.int .i64) (.pair (.int .i64) (.pair (.int .i64) (.pair (.int .i64) (.int .i64))))))) y6,.sl .any 110 (.pair (.int .i64) .bool) y7])]) (.leaf (.exit 6) [(.T 1,.t (.val false [.ptr 1 0 0])),(.T 2,.t (.val false [.undef])),(.B 1,.b 0 false [.sl .any 92 (.pair (.int .i64) (.pair (.int .i64) (.pair (.sl 9 .str) (.sl 155 (.pair .str (.pair .bool (.sl 3 (.int .i64)))))))) y1,.int .i64 y2,.sl .any 73 (.pair (.int .i64) (.pair (.pair (.int .i64) (.pair (.int .i64) (.pair (.int .i64) (.pair (.int .i64) (.pair (.int .i64) (.pair (.int .i64) (.int .i64))))))) (.pair .bool (.pair (.sl 3 (.int .i64)) (.sl 3 (.int .i64)))))) y3,.sl .any 33 (.pair (.sl 92 (.pair (.int .i64) (.pair (.int .i64) (.pair (.sl 9 .str) (.sl 155 (.pair .str (.pair .bool (.sl 3 (.int .i64))))))))) (.int .i64)) y4,.sl .any 83 (.pair (.int .i64) (.pair (.int .i64) (.pair (.int .i64) (.pair (.int .i64) (.pair (.int .i64) (.pair (.int .i64) (.pair (.int .i64) (.pair (.int .i64) (.pair (.int .i64) (.pair (.int .i64) (.int .i64))))))))))) y5,.sl .any 49 (.pair (.int .i64) (.pair (.int .i64) (.pair (.int .i64) (.pair (.int .i64) (.pair (.int .i64) (.pair (.int .i64) (.int .i64))))))) y6,.sl .any 110 (.pair (.int .i64) .bool) y7])])))
 | b,h => Os_WldOk_3 b h
theorem bs_WldOk_6 (y0:Int) (y1:tL0) (y2:Int) (y3:tL1) (y4:List (tL0×Int)) (y5:tL2) (y6:tL3) (y7:List (Int×Bool)):Tr.bt Es_WldOk Os_WldOk_3 (exec Es_WldOk 6 cs_WldOk_6 (St.of (hs_WldOk_6 y0 y1 y2 y3 y4 y5 y6 y7)) (leafRd Es_WldOk 6)) = (g_Ss_WldOk_6 y1 y2 y3 y4 y5 y6 y7 y0).bt (fun (y0:Int) => (hs_WldOk_6 y0 y1 y2 y3 y4 y5 y6 y7)) (xs_WldOk_6 y1 y2 y3 y4 y5 y6 y7) := by kernel_rfl
theorem ks_WldOk_4:OrcOk Es_WldOk Os_WldOk_4 lss_WldOk 4 := orc_add ks_WldOk_3 (fun n p hp h ex h' ho => by
 obtain ⟨b,c⟩ := p
 obtain ⟨xt,h1,h2⟩ := ho
 have h1:Os_WldOk_4 b h = some (true,xt) := h1
 unfold Os_WldOk_4 at h1
 split at h1
 ·injection h1 with h1
  injection h1 with e1 e2
  subst e2
  have hc:c = cs_WldOk_6 := ms_WldOk_6 _ hp rfl
  subst hc
  right
  rename_i y0 y1 y2 y3 y4 y5 y6 y7
  have key := LT_step ks_WldOk_3 hp (fun q hq => loopsAll_in _ _ _ _ hp hq) (fun (y0:Int) => (hs_WldOk_6 y0 y1 y2 y3 y4 y5 y6 y7)) (xs_WldOk_6 y1 y2 y3 y4 y5 y6 y7) (g_Ss_WldOk_6 y1 y2 y3 y4 y5 y6 y7) (fun x => by first | exact bs_WldOk_6 x y1 y2 y3 y4 y5 y6 y7) n (x := y0) (okO_some e1)
  have hx:∀ r,XT.sel (.br (isL r) (.leaf .ret [(.T 1,.t (.val false [.ptr 1 0 0])),(.T 2,.t (.val false [.bool (getL r)])),(.B 1,.b 0 false [.sl .any 92 (.pair (.int .i64) (.pair (.int .i64) (.pair (.sl 9 .str) (.sl 155 (.pair .str (.pair .bool (.sl 3 (.int .i64)))))))) y1,.int .i64 y2,.sl .any 73 (.pair (.int .i64) (.pair (.pair (.int .i64) (.pair (.int .i64) (.pair (.int .i64) (.pair (.int .i64) (.pair (.int .i64) (.pair (.int .i64) (.int .i64))))))) (.pair .bool (.pair (.sl 3 (.int .i64)) (.sl 3 (.int .i64)))))) y3,.sl .any 33 (.pair (.sl 92 (.pair (.int .i64) (.pair (.int .i64) (.pair (.sl 9 .str) (.sl 155 (.pair .str (.pair .bool (.sl 3 (.int .i64))))))))) (.int .i64)) y4,.sl .any 83 (.pair (.int .i64) (.pair (.int .i64) (.pair (.int .i64) (.pair (.int .i64) (.pair (.int .i64) (.pair (.int .i64) (.pair (.int .i64) (.pair (.int .i64) (.pair (.int .i64) (.pair (.int .i64) (.int .i64))))))))))) y5,.sl .any 49 (.pair (.int .i64) (.pair (.int .i64) (.pair (.int .i64) (.pair (.int .i64) (.pair (.int .i64) (.pair (.int .i64) (.int .i64))))))) y6,.sl .any 110 (.pair (.int .i64) .bool) y7])]) (.leaf (.exit 6) [(.T 1,.t (.val false [.ptr 1 0 0])),(.T 2,.t (.val false [.undef])),(.B 1,.b 0 false [.sl .any 92 (.pair (.int .i64) (.pair (.int .i64) (.pair (.sl 9 .str) (.sl 155 (.pair .str (.pair .bool (.sl 3 (.int .i64)))))))) y1,.int .i64 y2,.sl .any 73 (.pair (.int .i64) (.pair (.pair (.int .i64) (.pair (.int .i64) (.pair (.int .i64) (.pair (.int .i64) (.pair (.int .i64) (.pair (.int .i64) (.int .i64))))))) (.pair .bool (.pair (.sl 3 (.int .i64)) (.sl 3 (.int .i64)))))) y3,.sl .any 33 (.pair (.sl 92 (.pair (.int .i64) (.pair (.int .i64) (.pair (.sl 9 .str) (.sl 155 (.pair .str (.pair .bool (.sl 3 (.int .i64))))))))) (.int .i64)) y4,.sl .any 83 (.pair (.int .i64) (.pair (.int .i64) (.pair (.int .i64) (.pair (.int .i64) (.pair (.int .i64) (.pair (.int .i64) (.pair (.int .i64) (.pair (.int .i64) (.pair (.int .i64) (.pair (.int .i64) (.int .i64))))))))))) y5,.sl .any 49 (.pair (.int .i64) (.pair (.int .i64) (.pair (.int .i64) (.pair (.int .i64) (.pair (.int .i64) (.pair (.int .i64) (.int .i64))))))) y6,.sl .any 110 (.pair (.int .i64) .bool) y7])])) = xs_WldOk_6 y1 y2 y3 y4 y5 y6 y7 r := fun r => by first | rfl | rcases r with r | r <;> rfl | rcases r with r | r | r <;> rfl | rcases r with r | r | r | r <;> rfl
  have h3 := (hx (valO (g_Ls_WldOk_6 y1 y2 y3 y4 y5 y6 y7 y0))).symm.trans h2
  have e3 := congrArg Prod.fst h3
  have e4 := congrArg Prod.snd h3
  simp only at e3 e4
  rw [← e3,← e4]
  exact key
 ·exact .inl ⟨xt,h1,h2⟩)
noncomputable def hs_WldOk_8 (y0:Int) (y1:tL0) (y2:Int) (y3:tL1) (y4:List (tL0×Int)) (y5:tL2) (y6:tL3) (y7:List (Int×Bool)):List (Pl×LV) := [(.T 1,.t (.val false [.ptr 1 0 0])),(.T 7,.t (.val false [.int .i64 y0])),(.B 1,.b 0 false [.sl .any 92 (.pair (.int .i64) (.pair (.int .i64) (.pair (.sl 9 .str) (.sl 155 (.pair .str (.pair .bool (.sl 3 (.int .i64)))))))) y1,.int .i64 y2,.sl .any 73 (.pair (.int .i64) (.pair (.pair (.int .i64) (.pair (.int .i64) (.pair (.int .i64) (.pair (.int .i64) (.pair (.int .i64) (.pair (.int .i64) (.int .i64))))))) (.pair .bool (.pair (.sl 3 (.int .i64)) (.sl 3 (.int .i64)))))) y3,.sl .any 33 (.pair (.sl 92 (.pair (.int .i64) (.pair (.int .i64) (.pair (.sl 9 .str) (.sl 155 (.pair .str (.pair .bool (.sl 3 (.int .i64))))))))) (.int .i64)) y4,.sl .any 83 (.pair (.int .i64) (.pair (.int .i64) (.pair (.int .i64) (.pair (.int .i64) (.pair (.int .i64) (.pair (.int .i64) (.pair (.int .i64) (.pair (.int .i64) (.pair (.int .i64) (.pair (.int .i64) (.int .i64))))))))))) y5,.sl .any 49 (.pair (.int .i64) (.pair (.int .i64) (.pair (.int .i64) (.pair (.int .i64) (.pair (.int .i64) (.pair (.int .i64) (.int .i64))))))) y6,.sl .any 110 (.pair (.int .i64) .bool) y7])]
noncomputable def g_Ss_WldOk_8 (y1:tL0) (y2:Int) (y3:tL1) (y4:List (tL0×Int)) (y5:tL2) (y6:tL3) (y7:List (Int×Bool)):(Int) → RT (Int) ((Bool) ⊕ (Unit))
 | y0 => .br (true) (.br (decide (y0 < (y1.length:Int))) (.br (decide (0 ≤ y0 ∧ y0 < (y1.length:Int))) (.br (true) (.br (decide ((at_ yT3 y1 (Int.toNat y0)).2.1 ≥ (y6.length:Int))) (.out (.inl false)) (.br (true) (.go (IntKind.i64.wrap (y0 + 1))) .bad)) .bad) .bad) (.out (.inr (())))) .bad
noncomputable def g_Ls_WldOk_8 (y1:tL0) (y2:Int) (y3:tL1) (y4:List (tL0×Int)) (y5:tL2) (y6:tL3) (y7:List (Int×Bool)) (x:Int):Option ((Bool) ⊕ (Unit)) := loopO (g_Ss_WldOk_8 y1 y2 y3 y4 y5 y6 y7) x
noncomputable def xs_WldOk_8 (y1:tL0) (y2:Int) (y3:tL1) (y4:List (tL0×Int)) (y5:tL2) (y6:tL3) (y7:List (Int×Bool)):((Bool) ⊕ (Unit)) → Ex×List (Pl×LV) := fun
 | .inl r => (.ret,[(.T 2,.t (.val false [.bool r]))])
 | .inr (r) => (.exit 8,[(.T 2,.t (.val false [.undef]))])
noncomputable def Os_WldOk_5:Orc := fun b h => match b,h with
 | 8,[(.T 1,.t (.val false [.ptr 1 0 0])),(.T 7,.t (.val false [.int .i64 y0])),(.B 1,.b 0 false [.sl .any 92 (.pair (.int .i64) (.pair (.int .i64) (.pair (.sl 9 .str) (.sl 155 (.pair .str (.pair .bool (.sl 3 (.int .i64)))))))) y1,.int .i64 y2,.sl .any 73 (.pair (.int .i64) (.pair (.pair (.int .i64) (.pair (.int .i64) (.pair (.int .i64) (.pair (.int .i64) (.pair (.int .i64) (.pair (.int .i64) (.int .i64))))))) (.pair .bool (.pair (.sl 3 (.int .i64)) (.sl 3 (.int .i64)))))) y3,.sl .any 33 (.pair (.sl 92 (.pair (.int .i64) (.pair (.int .i64) (.pair (.sl 9 .str) (.sl 155 (.pair .str (.pair .bool (.sl 3 (.int .i64))))))))) (.int .i64)) y4,.sl .any 83 (.pair (.int .i64) (.pair (.int .i64) (.pair (.int .i64) (.pair (.int .i64) (.pair (.int .i64) (.pair (.int .i64) (.pair (.int .i64) (.pair (.int .i64) (.pair (.int .i64) (.pair (.int .i64) (.int .i64))))))))))) y5,.sl .any 49 (.pair (.int .i64) (.pair (.int .i64) (.pair (.int .i64) (.pair (.int .i64) (.pair (.int .i64) (.pair (.int .i64) (.int .i64))))))) y6,.sl .any 110 (.pair (.int .i64) .bool) y7])] => some (okO (g_Ls_WldOk_8 y1 y2 y3 y4 y5 y6 y7 y0),(.br (isL (valO (g_Ls_WldOk_8 y1 y2 y3 y4 y5 y6 y7 y0))) (.leaf .ret [(.T 2,.t (.val false [.bool (getL (valO (g_Ls_WldOk_8 y1 y2 y3 y4 y5 y6 y7 y0)))]))]) (.leaf (.exit 8) [(.T 2,.t (.val false [.undef]))])))
 | b,h => Os_WldOk_4 b h
theorem bs_WldOk_8 (y0:Int) (y1:tL0) (y2:Int) (y3:tL1) (y4:List (tL0×Int)) (y5:tL2) (y6:tL3) (y7:List (Int×Bool)):Tr.bt Es_WldOk Os_WldOk_4 (exec Es_WldOk 8 cs_WldOk_8 (St.of (hs_WldOk_8 y0 y1 y2 y3 y4 y5 y6 y7)) (leafRd Es_WldOk 8)) = (g_Ss_WldOk_8 y1 y2 y3 y4 y5 y6 y7 y0).bt (fun (y0:Int) => (hs_WldOk_8 y0 y1 y2 y3 y4 y5 y6 y7)) (xs_WldOk_8 y1 y2 y3 y4 y5 y6 y7) := by kernel_rfl
theorem ks_WldOk_5:OrcOk Es_WldOk Os_WldOk_5 lss_WldOk 5 := orc_add ks_WldOk_4 (fun n p hp h ex h' ho => by
 obtain ⟨b,c⟩ := p
 obtain ⟨xt,h1,h2⟩ := ho
 have h1:Os_WldOk_5 b h = some (true,xt) := h1
 unfold Os_WldOk_5 at h1
 split at h1
 ·injection h1 with h1
  injection h1 with e1 e2
  subst e2
  have hc:c = cs_WldOk_8 := ms_WldOk_8 _ hp rfl
  subst hc
  right
  rename_i y0 y1 y2 y3 y4 y5 y6 y7
  have key := LT_step ks_WldOk_4 hp (fun q hq => loopsAll_in _ _ _ _ hp hq) (fun (y0:Int) => (hs_WldOk_8 y0 y1 y2 y3 y4 y5 y6 y7)) (xs_WldOk_8 y1 y2 y3 y4 y5 y6 y7) (g_Ss_WldOk_8 y1 y2 y3 y4 y5 y6 y7) (fun x => by first | exact bs_WldOk_8 x y1 y2 y3 y4 y5 y6 y7) n (x := y0) (okO_some e1)
  have hx:∀ r,XT.sel (.br (isL r) (.leaf .ret [(.T 2,.t (.val false [.bool (getL r)]))]) (.leaf (.exit 8) [(.T 2,.t (.val false [.undef]))])) = xs_WldOk_8 y1 y2 y3 y4 y5 y6 y7 r := fun r => by first | rfl | rcases r with r | r <;> rfl | rcases r with r | r | r <;> rfl | rcases r with r | r | r | r <;> rfl
  have h3 := (hx (valO (g_Ls_WldOk_8 y1 y2 y3 y4 y5 y6 y7 y0))).symm.trans h2
  have e3 := congrArg Prod.fst h3
  have e4 := congrArg Prod.snd h3
  simp only at e3 e4
  rw [← e3,← e4]
  exact key
 ·exact .inl ⟨xt,h1,h2⟩)
noncomputable def g_As_WldOk (a0:tL0) (a1:Int) (a2:tL1) (a3:List (tL0×Int)) (a4:tL2) (a5:tL3) (a6:List (Int×Bool)):Bool := g_As_FroOk a0 a1 a2&&(!g_Vs_FroOk_0 a0 a1 a2 || g_AZ72 a0 a1 a2 a3 a4 a5 a6&&(!g_VZ72_0 a0 a1 a2 a3 a4 a5 a6 || (decide ((a4.length:Int) > 60) || (decide ((a5.length:Int) > 30) || (decide ((a6.length:Int) > 30) || okO (g_Ls_WldOk_0 a0 a1 a2 a3 a4 a5 a6 (0:Int))&&(isL (valO (g_Ls_WldOk_0 a0 a1 a2 a3 a4 a5 a6 (0:Int))) || okO (g_Ls_WldOk_2 a0 a1 a2 a3 a4 a5 a6 (0:Int))&&(isL (valO (g_Ls_WldOk_2 a0 a1 a2 a3 a4 a5 a6 (0:Int))) || okO (g_Ls_WldOk_4 a0 a1 a2 a3 a4 a5 a6 (0:Int))&&(isL (valO (g_Ls_WldOk_4 a0 a1 a2 a3 a4 a5 a6 (0:Int))) || okO (g_Ls_WldOk_6 a0 a1 a2 a3 a4 a5 a6 (0:Int))&&(isL (valO (g_Ls_WldOk_6 a0 a1 a2 a3 a4 a5 a6 (0:Int))) || okO (g_Ls_WldOk_8 a0 a1 a2 a3 a4 a5 a6 (0:Int)))))))))))
noncomputable def g_Vs_WldOk_0 (a0:tL0) (a1:Int) (a2:tL1) (a3:List (tL0×Int)) (a4:tL2) (a5:tL3) (a6:List (Int×Bool)):Bool := bif !g_Vs_FroOk_0 a0 a1 a2 then false else bif !g_VZ72_0 a0 a1 a2 a3 a4 a5 a6 then false else bif decide ((a4.length:Int) > 60) then false else bif decide ((a5.length:Int) > 30) then false else bif decide ((a6.length:Int) > 30) then false else bif isL (valO (g_Ls_WldOk_0 a0 a1 a2 a3 a4 a5 a6 (0:Int))) then getL (valO (g_Ls_WldOk_0 a0 a1 a2 a3 a4 a5 a6 (0:Int))) else bif isL (valO (g_Ls_WldOk_2 a0 a1 a2 a3 a4 a5 a6 (0:Int))) then getL (valO (g_Ls_WldOk_2 a0 a1 a2 a3 a4 a5 a6 (0:Int))) else bif isL (valO (g_Ls_WldOk_4 a0 a1 a2 a3 a4 a5 a6 (0:Int))) then getL (valO (g_Ls_WldOk_4 a0 a1 a2 a3 a4 a5 a6 (0:Int))) else bif isL (valO (g_Ls_WldOk_6 a0 a1 a2 a3 a4 a5 a6 (0:Int))) then getL (valO (g_Ls_WldOk_6 a0 a1 a2 a3 a4 a5 a6 (0:Int))) else bif isL (valO (g_Ls_WldOk_8 a0 a1 a2 a3 a4 a5 a6 (0:Int))) then getL (valO (g_Ls_WldOk_8 a0 a1 a2 a3 a4 a5 a6 (0:Int))) else true
noncomputable def Fs_WldOk:FSem := fun ys => match ys with
 | [.val true [.sl .any 92 (.pair (.int .i64) (.pair (.int .i64) (.pair (.sl 9 .str) (.sl 155 (.pair .str (.pair .bool (.sl 3 (.int .i64)))))))) a0,.int .i64 a1,.sl .any 73 (.pair (.int .i64) (.pair (.pair (.int .i64) (.pair (.int .i64) (.pair (.int .i64) (.pair (.int .i64) (.pair (.int .i64) (.pair (.int .i64) (.int .i64))))))) (.pair .bool (.pair (.sl 3 (.int .i64)) (.sl 3 (.int .i64)))))) a2,.sl .any 33 (.pair (.sl 92 (.pair (.int .i64) (.pair (.int .i64) (.pair (.sl 9 .str) (.sl 155 (.pair .str (.pair .bool (.sl 3 (.int .i64))))))))) (.int .i64)) a3,.sl .any 83 (.pair (.int .i64) (.pair (.int .i64) (.pair (.int .i64) (.pair (.int .i64) (.pair (.int .i64) (.pair (.int .i64) (.pair (.int .i64) (.pair (.int .i64) (.pair (.int .i64) (.pair (.int .i64) (.int .i64))))))))))) a4,.sl .any 49 (.pair (.int .i64) (.pair (.int .i64) (.pair (.int .i64) (.pair (.int .i64) (.pair (.int .i64) (.pair (.int .i64) (.int .i64))))))) a5,.sl .any 110 (.pair (.int .i64) .bool) a6]] => some ((g_As_WldOk a0 a1 a2 a3 a4 a5 a6),.val false [.bool (g_Vs_WldOk_0 a0 a1 a2 a3 a4 a5 a6)],[])
 | _ => none
theorem vs_WldOk (a0:tL0) (a1:Int) (a2:tL1) (a3:List (tL0×Int)) (a4:tL2) (a5:tL3) (a6:List (Int×Bool)):collapseH .std Es_WldOk Os_WldOk_5 (execFn Es_WldOk Tryz.f23 mss_WldOk [.val true [.sl .any 92 (.pair (.int .i64) (.pair (.int .i64) (.pair (.sl 9 .str) (.sl 155 (.pair .str (.pair .bool (.sl 3 (.int .i64)))))))) a0,.int .i64 a1,.sl .any 73 (.pair (.int .i64) (.pair (.pair (.int .i64) (.pair (.int .i64) (.pair (.int .i64) (.pair (.int .i64) (.pair (.int .i64) (.pair (.int .i64) (.int .i64))))))) (.pair .bool (.pair (.sl 3 (.int .i64)) (.sl 3 (.int .i64)))))) a2,.sl .any 33 (.pair (.sl 92 (.pair (.int .i64) (.pair (.int .i64) (.pair (.sl 9 .str) (.sl 155 (.pair .str (.pair .bool (.sl 3 (.int .i64))))))))) (.int .i64)) a3,.sl .any 83 (.pair (.int .i64) (.pair (.int .i64) (.pair (.int .i64) (.pair (.int .i64) (.pair (.int .i64) (.pair (.int .i64) (.pair (.int .i64) (.pair (.int .i64) (.pair (.int .i64) (.pair (.int .i64) (.int .i64))))))))))) a4,.sl .any 49 (.pair (.int .i64) (.pair (.int .i64) (.pair (.int .i64) (.pair (.int .i64) (.pair (.int .i64) (.pair (.int .i64) (.int .i64))))))) a5,.sl .any 110 (.pair (.int .i64) .bool) a6]]) = some ((g_As_WldOk a0 a1 a2 a3 a4 a5 a6),.val false [.bool (g_Vs_WldOk_0 a0 a1 a2 a3 a4 a5 a6)],[]) := by kernel_rfl
theorem ss_WldOk:Sound Tryz.prog 23 mss_WldOk Fs_WldOk := by
 refine fn_gen goods_WldOk (by kernel_rfl) .std (fn := Tryz.f23) (c := (Tryz.f23.body.getD .skip)) (o := Os_WldOk_5) (k := 5) (by kernel_rfl) (by kernel_rfl) (by kernel_rfl) (by kernel_rfl) (by decide) ks_WldOk_5 ?_
 intro ys r outs h
 unfold Fs_WldOk at h
 split at h
 ·exact (vs_WldOk _ _ _ _ _ _ _).trans h
 ·cases h
noncomputable def EZ73:Env where
 tt := mkTI Tryz.prog
 fn := fun _ => none
 bxf := fun _ => none
 mv := []
 keep := fun _ => []
 keepB := fun _ => []
 keepX := fun _ => []
 keepXB := fun _ => []
theorem goodFZ73:∀ f ms F,EZ73.fn f = some (ms,F) → Sound Tryz.prog f ms F := fun f ms F h => by cases h
theorem goodZ73:Good Tryz.prog EZ73 := ⟨rfl,goodFZ73,fun f ms F h => by cases h⟩
noncomputable def OZ73_0:Orc := fun _ _ => none
noncomputable def msZ73:List PM := [.own,.own]
noncomputable def lsZ73:List (Nat×Code) := loopsAll 0 (Tryz.f131.body.getD .skip)
theorem kZ73_0:OrcOk EZ73 OZ73_0 lsZ73 0 := orcOk_none
noncomputable def g_VZ73_0 (a0:Int) (a1:Bool) (a2:Int) (a3:Bool):Bool := bif a0 != a2 then false else bif !a1 == a3 then false else true
noncomputable def FZ73:FSem := fun ys => match ys with
 | [.val true [.int .i64 a0,.bool a1],.val true [.int .i64 a2,.bool a3]] => some (true,.val false [.bool (g_VZ73_0 a0 a1 a2 a3)],[])
 | _ => none
theorem vZ73 (a0:Int) (a1:Bool) (a2:Int) (a3:Bool):collapseH .std EZ73 OZ73_0 (execFn EZ73 Tryz.f131 msZ73 [.val true [.int .i64 a0,.bool a1],.val true [.int .i64 a2,.bool a3]]) = some (true,.val false [.bool (g_VZ73_0 a0 a1 a2 a3)],[]) := by kernel_rfl
theorem sZ73:Sound Tryz.prog 131 msZ73 FZ73 := by
 refine fn_gen goodZ73 (by kernel_rfl) .std (fn := Tryz.f131) (c := (Tryz.f131.body.getD .skip)) (o := OZ73_0) (k := 0) (by kernel_rfl) (by kernel_rfl) (by kernel_rfl) (by kernel_rfl) (by decide) kZ73_0 ?_
 intro ys r outs h
 unfold FZ73 at h
 split at h
 ·exact (vZ73 _ _ _ _).trans h
 ·cases h
noncomputable def EZ52:Env where
 tt := mkTI Tryz.prog
 fn := fun f => match f with
  | 131 => some (msZ73,FSem.wk msZ73 FZ73)
  | _ => none
 bxf := fun _ => none
 mv := []
 keep := fun b => match b with
  | 0 => [(0,false),(1,false),(5,false)]
  | _ => []
 keepB := fun b => match b with
  | 0 => []
  | _ => []
 keepX := fun b => match b with
  | 0 => [(4,false)]
  | _ => []
 keepXB := fun b => match b with
  | 0 => []
  | _ => []
theorem goodFZ52:∀ f ms F,EZ52.fn f = some (ms,F) → Sound Tryz.prog f ms F := fun f ms F h => by
 unfold EZ52 at h
 dsimp only at h
 split at h
 ·exact gF sZ73 h
 ·cases h
theorem goodZ52:Good Tryz.prog EZ52 := ⟨rfl,goodFZ52,fun f ms F h => by cases h⟩
noncomputable def OZ52_0:Orc := fun _ _ => none
noncomputable def msZ52:List PM := [.rd,.rd]
noncomputable def lsZ52:List (Nat×Code) := loopsAll 0 (Tryz.f87.body.getD .skip)
noncomputable def cZ52_0:Code := (loopOf 0 (Tryz.f87.body.getD .skip)).getD .skip
theorem lseqZ52:lsZ52 = [(0,cZ52_0)] := by kernel_rfl
theorem mZ52_0:∀ p,p ∈ lsZ52 → p.1 = 0 → p.2 = cZ52_0 := by
 intro p hp
 rw [lseqZ52] at hp
 simp only [List.mem_cons,List.not_mem_nil,or_false] at hp
 subst hp; simp
theorem kZ52_0:OrcOk EZ52 OZ52_0 lsZ52 0 := orcOk_none
noncomputable def hZ52_0 (y0:List (Int×Bool)) (y1:List (Int×Bool)) (y2:Int):List (Pl×LV) := [(.T 0,.t (.val false [.sl .any 110 (.pair (.int .i64) .bool) y0])),(.T 1,.t (.val false [.sl .any 110 (.pair (.int .i64) .bool) y1])),(.T 5,.t (.val false [.int .i64 y2]))]
noncomputable def g_SZ52_0 (y0:List (Int×Bool)) (y1:List (Int×Bool)):(Int) → RT (Int) ((Bool) ⊕ (Unit))
 | y2 => .br (true) (.br (decide (y2 < (y0.length:Int))) (.br (decide (0 ≤ y2 ∧ y2 < (y0.length:Int))) (.br (decide (0 ≤ y2 ∧ y2 < (y1.length:Int))) (.br (true) (.br (!g_VZ73_0 (at_ (.pair (.int .i64) Ty.bool) y0 (Int.toNat y2)).1 (at_ (.pair (.int .i64) Ty.bool) y0 (Int.toNat y2)).2 (at_ (.pair (.int .i64) Ty.bool) y1 (Int.toNat y2)).1 (at_ (.pair (.int .i64) Ty.bool) y1 (Int.toNat y2)).2) (.out (.inl false)) (.br (true) (.go (IntKind.i64.wrap (y2 + 1))) .bad)) .bad) .bad) .bad) (.out (.inr (())))) .bad
noncomputable def g_LZ52_0 (y0:List (Int×Bool)) (y1:List (Int×Bool)) (x:Int):Option ((Bool) ⊕ (Unit)) := loopO (g_SZ52_0 y0 y1) x
noncomputable def xZ52_0 (y0:List (Int×Bool)) (y1:List (Int×Bool)):((Bool) ⊕ (Unit)) → Ex×List (Pl×LV) := fun
 | .inl r => (.ret,[(.T 4,.t (.val false [.bool r]))])
 | .inr (r) => (.exit 0,[(.T 4,.t (.val false [.undef]))])
noncomputable def OZ52_1:Orc := fun b h => match b,h with
 | 0,[(.T 0,.t (.val false [.sl .any 110 (.pair (.int .i64) .bool) y0])),(.T 1,.t (.val false [.sl .any 110 (.pair (.int .i64) .bool) y1])),(.T 5,.t (.val false [.int .i64 y2]))] => some (okO (g_LZ52_0 y0 y1 y2),(.br (isL (valO (g_LZ52_0 y0 y1 y2))) (.leaf .ret [(.T 4,.t (.val false [.bool (getL (valO (g_LZ52_0 y0 y1 y2)))]))]) (.leaf (.exit 0) [(.T 4,.t (.val false [.undef]))])))
 | b,h => OZ52_0 b h
theorem bZ52_0 (y0:List (Int×Bool)) (y1:List (Int×Bool)) (y2:Int):Tr.bt EZ52 OZ52_0 (exec EZ52 0 cZ52_0 (St.of (hZ52_0 y0 y1 y2)) (leafRd EZ52 0)) = (g_SZ52_0 y0 y1 y2).bt (fun (y2:Int) => (hZ52_0 y0 y1 y2)) (xZ52_0 y0 y1) := by kernel_rfl
theorem kZ52_1:OrcOk EZ52 OZ52_1 lsZ52 1 := orc_add kZ52_0 (fun n p hp h ex h' ho => by
 obtain ⟨b,c⟩ := p
 obtain ⟨xt,h1,h2⟩ := ho
 have h1:OZ52_1 b h = some (true,xt) := h1
 unfold OZ52_1 at h1
 split at h1
 ·injection h1 with h1
  injection h1 with e1 e2
  subst e2
  have hc:c = cZ52_0 := mZ52_0 _ hp rfl
  subst hc
  right
  rename_i y0 y1 y2
  have key := LT_step kZ52_0 hp (fun q hq => loopsAll_in _ _ _ _ hp hq) (fun (y2:Int) => (hZ52_0 y0 y1 y2)) (xZ52_0 y0 y1) (g_SZ52_0 y0 y1) (fun x => by first | exact bZ52_0 y0 y1 x) n (x := y2) (okO_some e1)
  have hx:∀ r,XT.sel (.br (isL r) (.leaf .ret [(.T 4,.t (.val false [.bool (getL r)]))]) (.leaf (.exit 0) [(.T 4,.t (.val false [.undef]))])) = xZ52_0 y0 y1 r := fun r => by first | rfl | rcases r with r | r <;> rfl | rcases r with r | r | r <;> rfl | rcases r with r | r | r | r <;> rfl
  have h3 := (hx (valO (g_LZ52_0 y0 y1 y2))).symm.trans h2
  have e3 := congrArg Prod.fst h3
  have e4 := congrArg Prod.snd h3
  simp only at e3 e4
  rw [← e3,← e4]
  exact key
 ·exact .inl ⟨xt,h1,h2⟩)
noncomputable def g_AZ52 (a0:List (Int×Bool)) (a1:List (Int×Bool)):Bool := (a0.length:Int) != (a1.length:Int) || okO (g_LZ52_0 a0 a1 (0:Int))
noncomputable def g_VZ52_0 (a0:List (Int×Bool)) (a1:List (Int×Bool)):Bool := bif (a0.length:Int) != (a1.length:Int) then false else bif isL (valO (g_LZ52_0 a0 a1 (0:Int))) then getL (valO (g_LZ52_0 a0 a1 (0:Int))) else true
noncomputable def FZ52:FSem := fun ys => match ys with
 | [.val false [.sl .any 110 (.pair (.int .i64) .bool) a0],.val false [.sl .any 110 (.pair (.int .i64) .bool) a1]] => some ((g_AZ52 a0 a1),.val false [.bool (g_VZ52_0 a0 a1)],[])
 | _ => none
theorem vZ52 (a0:List (Int×Bool)) (a1:List (Int×Bool)):collapseH .std EZ52 OZ52_1 (execFn EZ52 Tryz.f87 msZ52 [.val false [.sl .any 110 (.pair (.int .i64) .bool) a0],.val false [.sl .any 110 (.pair (.int .i64) .bool) a1]]) = some ((g_AZ52 a0 a1),.val false [.bool (g_VZ52_0 a0 a1)],[]) := by kernel_rfl
theorem sZ52:Sound Tryz.prog 87 msZ52 FZ52 := by
 refine fn_gen goodZ52 (by kernel_rfl) .std (fn := Tryz.f87) (c := (Tryz.f87.body.getD .skip)) (o := OZ52_1) (k := 1) (by kernel_rfl) (by kernel_rfl) (by kernel_rfl) (by kernel_rfl) (by decide) kZ52_1 ?_
 intro ys r outs h
 unfold FZ52 at h
 split at h
 ·exact (vZ52 _ _).trans h
 ·cases h
noncomputable def Ew_eqIntS:Env where
 tt := mkTI Tryz.prog
 fn := fun _ => none
 bxf := fun _ => none
 mv := []
 keep := fun b => match b with
  | 0 => [(0,false),(1,false),(5,false)]
  | _ => []
 keepB := fun b => match b with
  | 0 => []
  | _ => []
 keepX := fun b => match b with
  | 0 => [(4,false)]
  | _ => []
 keepXB := fun b => match b with
  | 0 => []
  | _ => []
theorem goodFw_eqIntS:∀ f ms F,Ew_eqIntS.fn f = some (ms,F) → Sound Tryz.prog f ms F := fun f ms F h => by cases h
theorem goodw_eqIntS:Good Tryz.prog Ew_eqIntS := ⟨rfl,goodFw_eqIntS,fun f ms F h => by cases h⟩
noncomputable def Ow_eqIntS_0:Orc := fun _ _ => none
noncomputable def msw_eqIntS:List PM := [.rd,.rd]
noncomputable def lsw_eqIntS:List (Nat×Code) := loopsAll 0 (Tryz.f142.body.getD .skip)
noncomputable def cw_eqIntS_0:Code := (loopOf 0 (Tryz.f142.body.getD .skip)).getD .skip
theorem lseqw_eqIntS:lsw_eqIntS = [(0,cw_eqIntS_0)] := by kernel_rfl
theorem mw_eqIntS_0:∀ p,p ∈ lsw_eqIntS → p.1 = 0 → p.2 = cw_eqIntS_0 := by
 intro p hp
 rw [lseqw_eqIntS] at hp
 simp only [List.mem_cons,List.not_mem_nil,or_false] at hp
 subst hp; simp
theorem kw_eqIntS_0:OrcOk Ew_eqIntS Ow_eqIntS_0 lsw_eqIntS 0 := orcOk_none
noncomputable def hw_eqIntS_0 (y0:List Int) (y1:List Int) (y2:Int):List (Pl×LV) := [(.T 0,.t (.val false [.sl .any 3 (.int .i64) y0])),(.T 1,.t (.val false [.sl .any 3 (.int .i64) y1])),(.T 5,.t (.val false [.int .i64 y2]))]
noncomputable def g_Sw_eqIntS_0 (y0:List Int) (y1:List Int):(Int) → RT (Int) ((Bool) ⊕ (Unit))
 | y2 => .br (true) (.br (decide (y2 < (y0.length:Int))) (.br (decide (0 ≤ y2 ∧ y2 < (y0.length:Int))) (.br (decide (0 ≤ y2 ∧ y2 < (y1.length:Int))) (.br (true) (.br (at_ (.int .i64) y0 (Int.toNat y2) != at_ (.int .i64) y1 (Int.toNat y2)) (.out (.inl false)) (.br (true) (.go (IntKind.i64.wrap (y2 + 1))) .bad)) .bad) .bad) .bad) (.out (.inr (())))) .bad
noncomputable def g_Lw_eqIntS_0 (y0:List Int) (y1:List Int) (x:Int):Option ((Bool) ⊕ (Unit)) := loopO (g_Sw_eqIntS_0 y0 y1) x
noncomputable def xw_eqIntS_0 (y0:List Int) (y1:List Int):((Bool) ⊕ (Unit)) → Ex×List (Pl×LV) := fun
 | .inl r => (.ret,[(.T 4,.t (.val false [.bool r]))])
 | .inr (r) => (.exit 0,[(.T 4,.t (.val false [.undef]))])
noncomputable def Ow_eqIntS_1:Orc := fun b h => match b,h with
 | 0,[(.T 0,.t (.val false [.sl .any 3 (.int .i64) y0])),(.T 1,.t (.val false [.sl .any 3 (.int .i64) y1])),(.T 5,.t (.val false [.int .i64 y2]))] => some (okO (g_Lw_eqIntS_0 y0 y1 y2),(.br (isL (valO (g_Lw_eqIntS_0 y0 y1 y2))) (.leaf .ret [(.T 4,.t (.val false [.bool (getL (valO (g_Lw_eqIntS_0 y0 y1 y2)))]))]) (.leaf (.exit 0) [(.T 4,.t (.val false [.undef]))])))
 | b,h => Ow_eqIntS_0 b h
theorem bw_eqIntS_0 (y0:List Int) (y1:List Int) (y2:Int):Tr.bt Ew_eqIntS Ow_eqIntS_0 (exec Ew_eqIntS 0 cw_eqIntS_0 (St.of (hw_eqIntS_0 y0 y1 y2)) (leafRd Ew_eqIntS 0)) = (g_Sw_eqIntS_0 y0 y1 y2).bt (fun (y2:Int) => (hw_eqIntS_0 y0 y1 y2)) (xw_eqIntS_0 y0 y1) := by kernel_rfl
theorem kw_eqIntS_1:OrcOk Ew_eqIntS Ow_eqIntS_1 lsw_eqIntS 1 := orc_add kw_eqIntS_0 (fun n p hp h ex h' ho => by
 obtain ⟨b,c⟩ := p
 obtain ⟨xt,h1,h2⟩ := ho
 have h1:Ow_eqIntS_1 b h = some (true,xt) := h1
 unfold Ow_eqIntS_1 at h1
 split at h1
 ·injection h1 with h1
  injection h1 with e1 e2
  subst e2
  have hc:c = cw_eqIntS_0 := mw_eqIntS_0 _ hp rfl
  subst hc
  right
  rename_i y0 y1 y2
  have key := LT_step kw_eqIntS_0 hp (fun q hq => loopsAll_in _ _ _ _ hp hq) (fun (y2:Int) => (hw_eqIntS_0 y0 y1 y2)) (xw_eqIntS_0 y0 y1) (g_Sw_eqIntS_0 y0 y1) (fun x => by first | exact bw_eqIntS_0 y0 y1 x) n (x := y2) (okO_some e1)
  have hx:∀ r,XT.sel (.br (isL r) (.leaf .ret [(.T 4,.t (.val false [.bool (getL r)]))]) (.leaf (.exit 0) [(.T 4,.t (.val false [.undef]))])) = xw_eqIntS_0 y0 y1 r := fun r => by first | rfl | rcases r with r | r <;> rfl | rcases r with r | r | r <;> rfl | rcases r with r | r | r | r <;> rfl
  have h3 := (hx (valO (g_Lw_eqIntS_0 y0 y1 y2))).symm.trans h2
  have e3 := congrArg Prod.fst h3
  have e4 := congrArg Prod.snd h3
  simp only at e3 e4
  rw [← e3,← e4]
  exact key
 ·exact .inl ⟨xt,h1,h2⟩)
noncomputable def g_Aw_eqIntS (a0:List Int) (a1:List Int):Bool := (a0.length:Int) != (a1.length:Int) || okO (g_Lw_eqIntS_0 a0 a1 (0:Int))
noncomputable def g_Vw_eqIntS_0 (a0:List Int) (a1:List Int):Bool := bif (a0.length:Int) != (a1.length:Int) then false else bif isL (valO (g_Lw_eqIntS_0 a0 a1 (0:Int))) then getL (valO (g_Lw_eqIntS_0 a0 a1 (0:Int))) else true
noncomputable def Fw_eqIntS:FSem := fun ys => match ys with
 | [.val false [.sl .any 3 (.int .i64) a0],.val false [.sl .any 3 (.int .i64) a1]] => some ((g_Aw_eqIntS a0 a1),.val false [.bool (g_Vw_eqIntS_0 a0 a1)],[])
 | _ => none
theorem vw_eqIntS (a0:List Int) (a1:List Int):collapseH .std Ew_eqIntS Ow_eqIntS_1 (execFn Ew_eqIntS Tryz.f142 msw_eqIntS [.val false [.sl .any 3 (.int .i64) a0],.val false [.sl .any 3 (.int .i64) a1]]) = some ((g_Aw_eqIntS a0 a1),.val false [.bool (g_Vw_eqIntS_0 a0 a1)],[]) := by kernel_rfl
theorem sw_eqIntS:Sound Tryz.prog 142 msw_eqIntS Fw_eqIntS := by
 refine fn_gen goodw_eqIntS (by kernel_rfl) .std (fn := Tryz.f142) (c := (Tryz.f142.body.getD .skip)) (o := Ow_eqIntS_1) (k := 1) (by kernel_rfl) (by kernel_rfl) (by kernel_rfl) (by kernel_rfl) (by decide) kw_eqIntS_1 ?_
 intro ys r outs h
 unfold Fw_eqIntS at h
 split at h
 ·exact (vw_eqIntS _ _).trans h
 ·cases h
noncomputable def Ew_eqOpOp:Env where
 tt := mkTI Tryz.prog
 fn := fun _ => none
 bxf := fun _ => none
 mv := []
 keep := fun _ => []
 keepB := fun _ => []
 keepX := fun _ => []
 keepXB := fun _ => []
theorem goodFw_eqOpOp:∀ f ms F,Ew_eqOpOp.fn f = some (ms,F) → Sound Tryz.prog f ms F := fun f ms F h => by cases h
theorem goodw_eqOpOp:Good Tryz.prog Ew_eqOpOp := ⟨rfl,goodFw_eqOpOp,fun f ms F h => by cases h⟩
noncomputable def Ow_eqOpOp_0:Orc := fun _ _ => none
noncomputable def msw_eqOpOp:List PM := [.own,.own]
noncomputable def lsw_eqOpOp:List (Nat×Code) := loopsAll 0 (Tryz.f102.body.getD .skip)
theorem kw_eqOpOp_0:OrcOk Ew_eqOpOp Ow_eqOpOp_0 lsw_eqOpOp 0 := orcOk_none
noncomputable def g_Aw_eqOpOp (a0:Int) (a1:Int) (a2:Int) (a3:Int) (a4:Int) (a5:Int) (a6:Int) (a7:Int) (a8:Int) (a9:Int) (a10:Int) (a11:Int) (a12:Int) (a13:Int):Bool := a0 != a7 || (a1 != a8 || (a2 != a9 || (a3 != a10 || (a4 != a11 || (a5 != a12 || true)))))
noncomputable def g_Vw_eqOpOp_0 (a0:Int) (a1:Int) (a2:Int) (a3:Int) (a4:Int) (a5:Int) (a6:Int) (a7:Int) (a8:Int) (a9:Int) (a10:Int) (a11:Int) (a12:Int) (a13:Int):Bool := bif a0 != a7 then false else bif a1 != a8 then false else bif a2 != a9 then false else bif a3 != a10 then false else bif a4 != a11 then false else bif a5 != a12 then false else bif a6 != a13 then false else true
noncomputable def Fw_eqOpOp:FSem := fun ys => match ys with
 | [.val true [.int .i64 a0,.int .i64 a1,.int .i64 a2,.int .i64 a3,.int .i64 a4,.int .i64 a5,.int .i64 a6],.val true [.int .i64 a7,.int .i64 a8,.int .i64 a9,.int .i64 a10,.int .i64 a11,.int .i64 a12,.int .i64 a13]] => some ((g_Aw_eqOpOp a0 a1 a2 a3 a4 a5 a6 a7 a8 a9 a10 a11 a12 a13),.val false [.bool (g_Vw_eqOpOp_0 a0 a1 a2 a3 a4 a5 a6 a7 a8 a9 a10 a11 a12 a13)],[])
 | _ => none
theorem vw_eqOpOp (a0:Int) (a1:Int) (a2:Int) (a3:Int) (a4:Int) (a5:Int) (a6:Int) (a7:Int) (a8:Int) (a9:Int) (a10:Int) (a11:Int) (a12:Int) (a13:Int):collapseH .std Ew_eqOpOp Ow_eqOpOp_0 (execFn Ew_eqOpOp Tryz.f102 msw_eqOpOp [.val true [.int .i64 a0,.int .i64 a1,.int .i64 a2,.int .i64 a3,.int .i64 a4,.int .i64 a5,.int .i64 a6],.val true [.int .i64 a7,.int .i64 a8,.int .i64 a9,.int .i64 a10,.int .i64 a11,.int .i64 a12,.int .i64 a13]]) = some ((g_Aw_eqOpOp a0 a1 a2 a3 a4 a5 a6 a7 a8 a9 a10 a11 a12 a13),.val false [.bool (g_Vw_eqOpOp_0 a0 a1 a2 a3 a4 a5 a6 a7 a8 a9 a10 a11 a12 a13)],[]) := by kernel_rfl
theorem sw_eqOpOp:Sound Tryz.prog 102 msw_eqOpOp Fw_eqOpOp := by
 refine fn_gen goodw_eqOpOp (by kernel_rfl) .std (fn := Tryz.f102) (c := (Tryz.f102.body.getD .skip)) (o := Ow_eqOpOp_0) (k := 0) (by kernel_rfl) (by kernel_rfl) (by kernel_rfl) (by kernel_rfl) (by decide) kw_eqOpOp_0 ?_
 intro ys r outs h
 unfold Fw_eqOpOp at h
 split at h
 ·exact (vw_eqOpOp _ _ _ _ _ _ _ _ _ _ _ _ _ _).trans h
 ·cases h
noncomputable def Ew_eqFroTx:Env where
 tt := mkTI Tryz.prog
 fn := fun f => match f with
  | 102 => some (msw_eqOpOp,FSem.wk msw_eqOpOp Fw_eqOpOp)
  | 142 => some (msw_eqIntS,FSem.wk msw_eqIntS Fw_eqIntS)
  | _ => none
 bxf := fun _ => none
 mv := []
 keep := fun _ => []
 keepB := fun _ => []
 keepX := fun _ => []
 keepXB := fun _ => []
theorem goodFw_eqFroTx:∀ f ms F,Ew_eqFroTx.fn f = some (ms,F) → Sound Tryz.prog f ms F := fun f ms F h => by
 unfold Ew_eqFroTx at h
 dsimp only at h
 split at h
 ·exact gF sw_eqOpOp h
 ·exact gF sw_eqIntS h
 ·cases h
theorem goodw_eqFroTx:Good Tryz.prog Ew_eqFroTx := ⟨rfl,goodFw_eqFroTx,fun f ms F h => by cases h⟩
noncomputable def Ow_eqFroTx_0:Orc := fun _ _ => none
noncomputable def msw_eqFroTx:List PM := [.rd,.rd]
noncomputable def lsw_eqFroTx:List (Nat×Code) := loopsAll 0 (Tryz.f104.body.getD .skip)
theorem kw_eqFroTx_0:OrcOk Ew_eqFroTx Ow_eqFroTx_0 lsw_eqFroTx 0 := orcOk_none
noncomputable def g_Aw_eqFroTx (a0:Int) (a1:Int) (a2:Int) (a3:Int) (a4:Int) (a5:Int) (a6:Int) (a7:Int) (a8:Bool) (a9:List Int) (a10:List Int) (a11:Int) (a12:Int) (a13:Int) (a14:Int) (a15:Int) (a16:Int) (a17:Int) (a18:Int) (a19:Bool) (a20:List Int) (a21:List Int):Bool := a0 != a11 || g_Aw_eqOpOp a1 a2 a3 a4 a5 a6 a7 a12 a13 a14 a15 a16 a17 a18&&(!g_Vw_eqOpOp_0 a1 a2 a3 a4 a5 a6 a7 a12 a13 a14 a15 a16 a17 a18 || (!a8 == a19 || g_Aw_eqIntS a9 a20&&(!g_Vw_eqIntS_0 a9 a20 || g_Aw_eqIntS a10 a21)))
noncomputable def g_Vw_eqFroTx_0 (a0:Int) (a1:Int) (a2:Int) (a3:Int) (a4:Int) (a5:Int) (a6:Int) (a7:Int) (a8:Bool) (a9:List Int) (a10:List Int) (a11:Int) (a12:Int) (a13:Int) (a14:Int) (a15:Int) (a16:Int) (a17:Int) (a18:Int) (a19:Bool) (a20:List Int) (a21:List Int):Bool := bif a0 != a11 then false else bif !g_Vw_eqOpOp_0 a1 a2 a3 a4 a5 a6 a7 a12 a13 a14 a15 a16 a17 a18 then false else bif !a8 == a19 then false else bif !g_Vw_eqIntS_0 a9 a20 then false else bif !g_Vw_eqIntS_0 a10 a21 then false else true
noncomputable def Fw_eqFroTx:FSem := fun ys => match ys with
 | [.val true [.int .i64 a0,.int .i64 a1,.int .i64 a2,.int .i64 a3,.int .i64 a4,.int .i64 a5,.int .i64 a6,.int .i64 a7,.bool a8,.sl .any 3 (.int .i64) a9,.sl .any 3 (.int .i64) a10],.val true [.int .i64 a11,.int .i64 a12,.int .i64 a13,.int .i64 a14,.int .i64 a15,.int .i64 a16,.int .i64 a17,.int .i64 a18,.bool a19,.sl .any 3 (.int .i64) a20,.sl .any 3 (.int .i64) a21]] => some ((g_Aw_eqFroTx a0 a1 a2 a3 a4 a5 a6 a7 a8 a9 a10 a11 a12 a13 a14 a15 a16 a17 a18 a19 a20 a21),.val false [.bool (g_Vw_eqFroTx_0 a0 a1 a2 a3 a4 a5 a6 a7 a8 a9 a10 a11 a12 a13 a14 a15 a16 a17 a18 a19 a20 a21)],[])
 | _ => none
theorem vw_eqFroTx (a0:Int) (a1:Int) (a2:Int) (a3:Int) (a4:Int) (a5:Int) (a6:Int) (a7:Int) (a8:Bool) (a9:List Int) (a10:List Int) (a11:Int) (a12:Int) (a13:Int) (a14:Int) (a15:Int) (a16:Int) (a17:Int) (a18:Int) (a19:Bool) (a20:List Int) (a21:List Int):collapseH .std Ew_eqFroTx Ow_eqFroTx_0 (execFn Ew_eqFroTx Tryz.f104 msw_eqFroTx [.val true [.int .i64 a0,.int .i64 a1,.int .i64 a2,.int .i64 a3,.int .i64 a4,.int .i64 a5,.int .i64 a6,.int .i64 a7,.bool a8,.sl .any 3 (.int .i64) a9,.sl .any 3 (.int .i64) a10],.val true [.int .i64 a11,.int .i64 a12,.int .i64 a13,.int .i64 a14,.int .i64 a15,.int .i64 a16,.int .i64 a17,.int .i64 a18,.bool a19,.sl .any 3 (.int .i64) a20,.sl .any 3 (.int .i64) a21]]) = some ((g_Aw_eqFroTx a0 a1 a2 a3 a4 a5 a6 a7 a8 a9 a10 a11 a12 a13 a14 a15 a16 a17 a18 a19 a20 a21),.val false [.bool (g_Vw_eqFroTx_0 a0 a1 a2 a3 a4 a5 a6 a7 a8 a9 a10 a11 a12 a13 a14 a15 a16 a17 a18 a19 a20 a21)],[]) := by kernel_rfl
theorem sw_eqFroTx:Sound Tryz.prog 104 msw_eqFroTx Fw_eqFroTx := by
 refine fn_gen goodw_eqFroTx (by kernel_rfl) .std (fn := Tryz.f104) (c := (Tryz.f104.body.getD .skip)) (o := Ow_eqFroTx_0) (k := 0) (by kernel_rfl) (by kernel_rfl) (by kernel_rfl) (by kernel_rfl) (by decide) kw_eqFroTx_0 ?_
 intro ys r outs h
 unfold Fw_eqFroTx at h
 split at h
 ·exact (vw_eqFroTx _ _ _ _ _ _ _ _ _ _ _ _ _ _ _ _ _ _ _ _ _ _).trans h
 ·cases h
noncomputable def EZ74:Env where
 tt := mkTI Tryz.prog
 fn := fun f => match f with
  | 104 => some (msw_eqFroTx,FSem.wk msw_eqFroTx Fw_eqFroTx)
  | _ => none
 bxf := fun _ => none
 mv := []
 keep := fun b => match b with
  | 0 => [(0,false),(1,false),(5,false)]
  | _ => []
 keepB := fun b => match b with
  | 0 => []
  | _ => []
 keepX := fun b => match b with
  | 0 => [(4,false)]
  | _ => []
 keepXB := fun b => match b with
  | 0 => []
  | _ => []
theorem goodFZ74:∀ f ms F,EZ74.fn f = some (ms,F) → Sound Tryz.prog f ms F := fun f ms F h => by
 unfold EZ74 at h
 dsimp only at h
 split at h
 ·exact gF sw_eqFroTx h
 ·cases h
theorem goodZ74:Good Tryz.prog EZ74 := ⟨rfl,goodFZ74,fun f ms F h => by cases h⟩
noncomputable def OZ74_0:Orc := fun _ _ => none
noncomputable def msZ74:List PM := [.rd,.rd]
noncomputable def lsZ74:List (Nat×Code) := loopsAll 0 (Tryz.f43.body.getD .skip)
noncomputable def cZ74_0:Code := (loopOf 0 (Tryz.f43.body.getD .skip)).getD .skip
theorem lseqZ74:lsZ74 = [(0,cZ74_0)] := by kernel_rfl
theorem mZ74_0:∀ p,p ∈ lsZ74 → p.1 = 0 → p.2 = cZ74_0 := by
 intro p hp
 rw [lseqZ74] at hp
 simp only [List.mem_cons,List.not_mem_nil,or_false] at hp
 subst hp; simp
theorem kZ74_0:OrcOk EZ74 OZ74_0 lsZ74 0 := orcOk_none
noncomputable def hZ74_0 (y0:tL1) (y1:tL1) (y2:Int):List (Pl×LV) := [(.T 0,.t (.val false [.sl .any 73 (.pair (.int .i64) (.pair (.pair (.int .i64) (.pair (.int .i64) (.pair (.int .i64) (.pair (.int .i64) (.pair (.int .i64) (.pair (.int .i64) (.int .i64))))))) (.pair .bool (.pair (.sl 3 (.int .i64)) (.sl 3 (.int .i64)))))) y0])),(.T 1,.t (.val false [.sl .any 73 (.pair (.int .i64) (.pair (.pair (.int .i64) (.pair (.int .i64) (.pair (.int .i64) (.pair (.int .i64) (.pair (.int .i64) (.pair (.int .i64) (.int .i64))))))) (.pair .bool (.pair (.sl 3 (.int .i64)) (.sl 3 (.int .i64)))))) y1])),(.T 5,.t (.val false [.int .i64 y2]))]
noncomputable def g_SZ74_0 (y0:tL1) (y1:tL1):(Int) → RT (Int) ((Bool) ⊕ (Unit))
 | y2 => .br (true) (.br (decide (y2 < (y0.length:Int))) (.br (decide (0 ≤ y2 ∧ y2 < (y0.length:Int))) (.br (decide (0 ≤ y2 ∧ y2 < (y1.length:Int))) (.br (g_Aw_eqFroTx (at_ yT0 y0 (Int.toNat y2)).1 (at_ yT0 y0 (Int.toNat y2)).2.1.1 (at_ yT0 y0 (Int.toNat y2)).2.1.2.1 (at_ yT0 y0 (Int.toNat y2)).2.1.2.2.1 (at_ yT0 y0 (Int.toNat y2)).2.1.2.2.2.1 (at_ yT0 y0 (Int.toNat y2)).2.1.2.2.2.2.1 (at_ yT0 y0 (Int.toNat y2)).2.1.2.2.2.2.2.1 (at_ yT0 y0 (Int.toNat y2)).2.1.2.2.2.2.2.2 (at_ yT0 y0 (Int.toNat y2)).2.2.1 (at_ yT0 y0 (Int.toNat y2)).2.2.2.1 (at_ yT0 y0 (Int.toNat y2)).2.2.2.2 (at_ yT0 y1 (Int.toNat y2)).1 (at_ yT0 y1 (Int.toNat y2)).2.1.1 (at_ yT0 y1 (Int.toNat y2)).2.1.2.1 (at_ yT0 y1 (Int.toNat y2)).2.1.2.2.1 (at_ yT0 y1 (Int.toNat y2)).2.1.2.2.2.1 (at_ yT0 y1 (Int.toNat y2)).2.1.2.2.2.2.1 (at_ yT0 y1 (Int.toNat y2)).2.1.2.2.2.2.2.1 (at_ yT0 y1 (Int.toNat y2)).2.1.2.2.2.2.2.2 (at_ yT0 y1 (Int.toNat y2)).2.2.1 (at_ yT0 y1 (Int.toNat y2)).2.2.2.1 (at_ yT0 y1 (Int.toNat y2)).2.2.2.2) (.br (!g_Vw_eqFroTx_0 (at_ yT0 y0 (Int.toNat y2)).1 (at_ yT0 y0 (Int.toNat y2)).2.1.1 (at_ yT0 y0 (Int.toNat y2)).2.1.2.1 (at_ yT0 y0 (Int.toNat y2)).2.1.2.2.1 (at_ yT0 y0 (Int.toNat y2)).2.1.2.2.2.1 (at_ yT0 y0 (Int.toNat y2)).2.1.2.2.2.2.1 (at_ yT0 y0 (Int.toNat y2)).2.1.2.2.2.2.2.1 (at_ yT0 y0 (Int.toNat y2)).2.1.2.2.2.2.2.2 (at_ yT0 y0 (Int.toNat y2)).2.2.1 (at_ yT0 y0 (Int.toNat y2)).2.2.2.1 (at_ yT0 y0 (Int.toNat y2)).2.2.2.2 (at_ yT0 y1 (Int.toNat y2)).1 (at_ yT0 y1 (Int.toNat y2)).2.1.1 (at_ yT0 y1 (Int.toNat y2)).2.1.2.1 (at_ yT0 y1 (Int.toNat y2)).2.1.2.2.1 (at_ yT0 y1 (Int.toNat y2)).2.1.2.2.2.1 (at_ yT0 y1 (Int.toNat y2)).2.1.2.2.2.2.1 (at_ yT0 y1 (Int.toNat y2)).2.1.2.2.2.2.2.1 (at_ yT0 y1 (Int.toNat y2)).2.1.2.2.2.2.2.2 (at_ yT0 y1 (Int.toNat y2)).2.2.1 (at_ yT0 y1 (Int.toNat y2)).2.2.2.1 (at_ yT0 y1 (Int.toNat y2)).2.2.2.2) (.out (.inl false)) (.br (true) (.go (IntKind.i64.wrap (y2 + 1))) .bad)) .bad) .bad) .bad) (.out (.inr (())))) .bad
noncomputable def g_LZ74_0 (y0:tL1) (y1:tL1) (x:Int):Option ((Bool) ⊕ (Unit)) := loopO (g_SZ74_0 y0 y1) x
noncomputable def xZ74_0 (y0:tL1) (y1:tL1):((Bool) ⊕ (Unit)) → Ex×List (Pl×LV) := fun
 | .inl r => (.ret,[(.T 4,.t (.val false [.bool r]))])
 | .inr (r) => (.exit 0,[(.T 4,.t (.val false [.undef]))])
noncomputable def OZ74_1:Orc := fun b h => match b,h with
 | 0,[(.T 0,.t (.val false [.sl .any 73 (.pair (.int .i64) (.pair (.pair (.int .i64) (.pair (.int .i64) (.pair (.int .i64) (.pair (.int .i64) (.pair (.int .i64) (.pair (.int .i64) (.int .i64))))))) (.pair .bool (.pair (.sl 3 (.int .i64)) (.sl 3 (.int .i64)))))) y0])),(.T 1,.t (.val false [.sl .any 73 (.pair (.int .i64) (.pair (.pair (.int .i64) (.pair (.int .i64) (.pair (.int .i64) (.pair (.int .i64) (.pair (.int .i64) (.pair (.int .i64) (.int .i64))))))) (.pair .bool (.pair (.sl 3 (.int .i64)) (.sl 3 (.int .i64)))))) y1])),(.T 5,.t (.val false [.int .i64 y2]))] => some (okO (g_LZ74_0 y0 y1 y2),(.br (isL (valO (g_LZ74_0 y0 y1 y2))) (.leaf .ret [(.T 4,.t (.val false [.bool (getL (valO (g_LZ74_0 y0 y1 y2)))]))]) (.leaf (.exit 0) [(.T 4,.t (.val false [.undef]))])))
 | b,h => OZ74_0 b h
theorem bZ74_0 (y0:tL1) (y1:tL1) (y2:Int):Tr.bt EZ74 OZ74_0 (exec EZ74 0 cZ74_0 (St.of (hZ74_0 y0 y1 y2)) (leafRd EZ74 0)) = (g_SZ74_0 y0 y1 y2).bt (fun (y2:Int) => (hZ74_0 y0 y1 y2)) (xZ74_0 y0 y1) := by kernel_rfl
theorem kZ74_1:OrcOk EZ74 OZ74_1 lsZ74 1 := orc_add kZ74_0 (fun n p hp h ex h' ho => by
 obtain ⟨b,c⟩ := p
 obtain ⟨xt,h1,h2⟩ := ho
 have h1:OZ74_1 b h = some (true,xt) := h1
 unfold OZ74_1 at h1
 split at h1
 ·injection h1 with h1
  injection h1 with e1 e2
  subst e2
  have hc:c = cZ74_0 := mZ74_0 _ hp rfl
  subst hc
  right
  rename_i y0 y1 y2
  have key := LT_step kZ74_0 hp (fun q hq => loopsAll_in _ _ _ _ hp hq) (fun (y2:Int) => (hZ74_0 y0 y1 y2)) (xZ74_0 y0 y1) (g_SZ74_0 y0 y1) (fun x => by first | exact bZ74_0 y0 y1 x) n (x := y2) (okO_some e1)
  have hx:∀ r,XT.sel (.br (isL r) (.leaf .ret [(.T 4,.t (.val false [.bool (getL r)]))]) (.leaf (.exit 0) [(.T 4,.t (.val false [.undef]))])) = xZ74_0 y0 y1 r := fun r => by first | rfl | rcases r with r | r <;> rfl | rcases r with r | r | r <;> rfl | rcases r with r | r | r | r <;> rfl
  have h3 := (hx (valO (g_LZ74_0 y0 y1 y2))).symm.trans h2
  have e3 := congrArg Prod.fst h3
  have e4 := congrArg Prod.snd h3
  simp only at e3 e4
  rw [← e3,← e4]
  exact key
 ·exact .inl ⟨xt,h1,h2⟩)
noncomputable def g_AZ74 (a0:tL1) (a1:tL1):Bool := (a0.length:Int) != (a1.length:Int) || okO (g_LZ74_0 a0 a1 (0:Int))
noncomputable def g_VZ74_0 (a0:tL1) (a1:tL1):Bool := bif (a0.length:Int) != (a1.length:Int) then false else bif isL (valO (g_LZ74_0 a0 a1 (0:Int))) then getL (valO (g_LZ74_0 a0 a1 (0:Int))) else true
noncomputable def FZ74:FSem := fun ys => match ys with
 | [.val false [.sl .any 73 (.pair (.int .i64) (.pair (.pair (.int .i64) (.pair (.int .i64) (.pair (.int .i64) (.pair (.int .i64) (.pair (.int .i64) (.pair (.int .i64) (.int .i64))))))) (.pair .bool (.pair (.sl 3 (.int .i64)) (.sl 3 (.int .i64)))))) a0],.val false [.sl .any 73 (.pair (.int .i64) (.pair (.pair (.int .i64) (.pair (.int .i64) (.pair (.int .i64) (.pair (.int .i64) (.pair (.int .i64) (.pair (.int .i64) (.int .i64))))))) (.pair .bool (.pair (.sl 3 (.int .i64)) (.sl 3 (.int .i64)))))) a1]] => some ((g_AZ74 a0 a1),.val false [.bool (g_VZ74_0 a0 a1)],[])
 | _ => none
theorem vZ74 (a0:tL1) (a1:tL1):collapseH .std EZ74 OZ74_1 (execFn EZ74 Tryz.f43 msZ74 [.val false [.sl .any 73 (.pair (.int .i64) (.pair (.pair (.int .i64) (.pair (.int .i64) (.pair (.int .i64) (.pair (.int .i64) (.pair (.int .i64) (.pair (.int .i64) (.int .i64))))))) (.pair .bool (.pair (.sl 3 (.int .i64)) (.sl 3 (.int .i64)))))) a0],.val false [.sl .any 73 (.pair (.int .i64) (.pair (.pair (.int .i64) (.pair (.int .i64) (.pair (.int .i64) (.pair (.int .i64) (.pair (.int .i64) (.pair (.int .i64) (.int .i64))))))) (.pair .bool (.pair (.sl 3 (.int .i64)) (.sl 3 (.int .i64)))))) a1]]) = some ((g_AZ74 a0 a1),.val false [.bool (g_VZ74_0 a0 a1)],[]) := by kernel_rfl
theorem sZ74:Sound Tryz.prog 43 msZ74 FZ74 := by
 refine fn_gen goodZ74 (by kernel_rfl) .std (fn := Tryz.f43) (c := (Tryz.f43.body.getD .skip)) (o := OZ74_1) (k := 1) (by kernel_rfl) (by kernel_rfl) (by kernel_rfl) (by kernel_rfl) (by decide) kZ74_1 ?_
 intro ys r outs h
 unfold FZ74 at h
 split at h
 ·exact (vZ74 _ _).trans h
 ·cases h
noncomputable def EZ36:Env where
 tt := mkTI Tryz.prog
 fn := fun f => match f with
  | 142 => some (msw_eqIntS,FSem.wk msw_eqIntS Fw_eqIntS)
  | _ => none
 bxf := fun _ => none
 mv := []
 keep := fun _ => []
 keepB := fun _ => []
 keepX := fun _ => []
 keepXB := fun _ => []
theorem goodFZ36:∀ f ms F,EZ36.fn f = some (ms,F) → Sound Tryz.prog f ms F := fun f ms F h => by
 unfold EZ36 at h
 dsimp only at h
 split at h
 ·exact gF sw_eqIntS h
 ·cases h
theorem goodZ36:Good Tryz.prog EZ36 := ⟨rfl,goodFZ36,fun f ms F h => by cases h⟩
noncomputable def OZ36_0:Orc := fun _ _ => none
noncomputable def msZ36:List PM := [.rd,.rd]
noncomputable def lsZ36:List (Nat×Code) := loopsAll 0 (Tryz.f180.body.getD .skip)
theorem kZ36_0:OrcOk EZ36 OZ36_0 lsZ36 0 := orcOk_none
noncomputable def g_AZ36 (a0:ByteArray) (a1:Bool) (a2:List Int) (a3:ByteArray) (a4:Bool) (a5:List Int):Bool := !ByteArray.toList a0 == ByteArray.toList a3 || (!a1 == a4 || g_Aw_eqIntS a2 a5)
noncomputable def g_VZ36_0 (a0:ByteArray) (a1:Bool) (a2:List Int) (a3:ByteArray) (a4:Bool) (a5:List Int):Bool := bif !ByteArray.toList a0 == ByteArray.toList a3 then false else bif !a1 == a4 then false else bif !g_Vw_eqIntS_0 a2 a5 then false else true
noncomputable def FZ36:FSem := fun ys => match ys with
 | [.val true [.str a0,.bool a1,.sl .any 3 (.int .i64) a2],.val true [.str a3,.bool a4,.sl .any 3 (.int .i64) a5]] => some ((g_AZ36 a0 a1 a2 a3 a4 a5),.val false [.bool (g_VZ36_0 a0 a1 a2 a3 a4 a5)],[])
 | _ => none
theorem vZ36 (a0:ByteArray) (a1:Bool) (a2:List Int) (a3:ByteArray) (a4:Bool) (a5:List Int):collapseH .std EZ36 OZ36_0 (execFn EZ36 Tryz.f180 msZ36 [.val true [.str a0,.bool a1,.sl .any 3 (.int .i64) a2],.val true [.str a3,.bool a4,.sl .any 3 (.int .i64) a5]]) = some ((g_AZ36 a0 a1 a2 a3 a4 a5),.val false [.bool (g_VZ36_0 a0 a1 a2 a3 a4 a5)],[]) := by kernel_rfl
theorem sZ36:Sound Tryz.prog 180 msZ36 FZ36 := by
 refine fn_gen goodZ36 (by kernel_rfl) .std (fn := Tryz.f180) (c := (Tryz.f180.body.getD .skip)) (o := OZ36_0) (k := 0) (by kernel_rfl) (by kernel_rfl) (by kernel_rfl) (by kernel_rfl) (by decide) kZ36_0 ?_
 intro ys r outs h
 unfold FZ36 at h
 split at h
 ·exact (vZ36 _ _ _ _ _ _).trans h
 ·cases h
noncomputable def EZ31:Env where
 tt := mkTI Tryz.prog
 fn := fun f => match f with
  | 180 => some (msZ36,FSem.wk msZ36 FZ36)
  | _ => none
 bxf := fun _ => none
 mv := []
 keep := fun b => match b with
  | 0 => [(0,false),(1,false),(5,false)]
  | _ => []
 keepB := fun b => match b with
  | 0 => []
  | _ => []
 keepX := fun b => match b with
  | 0 => [(4,false)]
  | _ => []
 keepXB := fun b => match b with
  | 0 => []
  | _ => []
theorem goodFZ31:∀ f ms F,EZ31.fn f = some (ms,F) → Sound Tryz.prog f ms F := fun f ms F h => by
 unfold EZ31 at h
 dsimp only at h
 split at h
 ·exact gF sZ36 h
 ·cases h
theorem goodZ31:Good Tryz.prog EZ31 := ⟨rfl,goodFZ31,fun f ms F h => by cases h⟩
noncomputable def OZ31_0:Orc := fun _ _ => none
noncomputable def msZ31:List PM := [.rd,.rd]
noncomputable def lsZ31:List (Nat×Code) := loopsAll 0 (Tryz.f167.body.getD .skip)
noncomputable def cZ31_0:Code := (loopOf 0 (Tryz.f167.body.getD .skip)).getD .skip
theorem lseqZ31:lsZ31 = [(0,cZ31_0)] := by kernel_rfl
theorem mZ31_0:∀ p,p ∈ lsZ31 → p.1 = 0 → p.2 = cZ31_0 := by
 intro p hp
 rw [lseqZ31] at hp
 simp only [List.mem_cons,List.not_mem_nil,or_false] at hp
 subst hp; simp
theorem kZ31_0:OrcOk EZ31 OZ31_0 lsZ31 0 := orcOk_none
noncomputable def hZ31_0 (y0:tL4) (y1:tL4) (y2:Int):List (Pl×LV) := [(.T 0,.t (.val false [.sl .any 155 (.pair .str (.pair .bool (.sl 3 (.int .i64)))) y0])),(.T 1,.t (.val false [.sl .any 155 (.pair .str (.pair .bool (.sl 3 (.int .i64)))) y1])),(.T 5,.t (.val false [.int .i64 y2]))]
noncomputable def g_SZ31_0 (y0:tL4) (y1:tL4):(Int) → RT (Int) ((Bool) ⊕ (Unit))
 | y2 => .br (true) (.br (decide (y2 < (y0.length:Int))) (.br (decide (0 ≤ y2 ∧ y2 < (y0.length:Int))) (.br (decide (0 ≤ y2 ∧ y2 < (y1.length:Int))) (.br (g_AZ36 (at_ yT6 y0 (Int.toNat y2)).1 (at_ yT6 y0 (Int.toNat y2)).2.1 (at_ yT6 y0 (Int.toNat y2)).2.2 (at_ yT6 y1 (Int.toNat y2)).1 (at_ yT6 y1 (Int.toNat y2)).2.1 (at_ yT6 y1 (Int.toNat y2)).2.2) (.br (!g_VZ36_0 (at_ yT6 y0 (Int.toNat y2)).1 (at_ yT6 y0 (Int.toNat y2)).2.1 (at_ yT6 y0 (Int.toNat y2)).2.2 (at_ yT6 y1 (Int.toNat y2)).1 (at_ yT6 y1 (Int.toNat y2)).2.1 (at_ yT6 y1 (Int.toNat y2)).2.2) (.out (.inl false)) (.br (true) (.go (IntKind.i64.wrap (y2 + 1))) .bad)) .bad) .bad) .bad) (.out (.inr (())))) .bad
noncomputable def g_LZ31_0 (y0:tL4) (y1:tL4) (x:Int):Option ((Bool) ⊕ (Unit)) := loopO (g_SZ31_0 y0 y1) x
noncomputable def xZ31_0 (y0:tL4) (y1:tL4):((Bool) ⊕ (Unit)) → Ex×List (Pl×LV) := fun
 | .inl r => (.ret,[(.T 4,.t (.val false [.bool r]))])
 | .inr (r) => (.exit 0,[(.T 4,.t (.val false [.undef]))])
noncomputable def OZ31_1:Orc := fun b h => match b,h with
 | 0,[(.T 0,.t (.val false [.sl .any 155 (.pair .str (.pair .bool (.sl 3 (.int .i64)))) y0])),(.T 1,.t (.val false [.sl .any 155 (.pair .str (.pair .bool (.sl 3 (.int .i64)))) y1])),(.T 5,.t (.val false [.int .i64 y2]))] => some (okO (g_LZ31_0 y0 y1 y2),(.br (isL (valO (g_LZ31_0 y0 y1 y2))) (.leaf .ret [(.T 4,.t (.val false [.bool (getL (valO (g_LZ31_0 y0 y1 y2)))]))]) (.leaf (.exit 0) [(.T 4,.t (.val false [.undef]))])))
 | b,h => OZ31_0 b h
theorem bZ31_0 (y0:tL4) (y1:tL4) (y2:Int):Tr.bt EZ31 OZ31_0 (exec EZ31 0 cZ31_0 (St.of (hZ31_0 y0 y1 y2)) (leafRd EZ31 0)) = (g_SZ31_0 y0 y1 y2).bt (fun (y2:Int) => (hZ31_0 y0 y1 y2)) (xZ31_0 y0 y1) := by kernel_rfl
theorem kZ31_1:OrcOk EZ31 OZ31_1 lsZ31 1 := orc_add kZ31_0 (fun n p hp h ex h' ho => by
 obtain ⟨b,c⟩ := p
 obtain ⟨xt,h1,h2⟩ := ho
 have h1:OZ31_1 b h = some (true,xt) := h1
 unfold OZ31_1 at h1
 split at h1
 ·injection h1 with h1
  injection h1 with e1 e2
  subst e2
  have hc:c = cZ31_0 := mZ31_0 _ hp rfl
  subst hc
  right
  rename_i y0 y1 y2
  have key := LT_step kZ31_0 hp (fun q hq => loopsAll_in _ _ _ _ hp hq) (fun (y2:Int) => (hZ31_0 y0 y1 y2)) (xZ31_0 y0 y1) (g_SZ31_0 y0 y1) (fun x => by first | exact bZ31_0 y0 y1 x) n (x := y2) (okO_some e1)
  have hx:∀ r,XT.sel (.br (isL r) (.leaf .ret [(.T 4,.t (.val false [.bool (getL r)]))]) (.leaf (.exit 0) [(.T 4,.t (.val false [.undef]))])) = xZ31_0 y0 y1 r := fun r => by first | rfl | rcases r with r | r <;> rfl | rcases r with r | r | r <;> rfl | rcases r with r | r | r | r <;> rfl
  have h3 := (hx (valO (g_LZ31_0 y0 y1 y2))).symm.trans h2
  have e3 := congrArg Prod.fst h3
  have e4 := congrArg Prod.snd h3
  simp only at e3 e4
  rw [← e3,← e4]
  exact key
 ·exact .inl ⟨xt,h1,h2⟩)
noncomputable def g_AZ31 (a0:tL4) (a1:tL4):Bool := (a0.length:Int) != (a1.length:Int) || okO (g_LZ31_0 a0 a1 (0:Int))
noncomputable def g_VZ31_0 (a0:tL4) (a1:tL4):Bool := bif (a0.length:Int) != (a1.length:Int) then false else bif isL (valO (g_LZ31_0 a0 a1 (0:Int))) then getL (valO (g_LZ31_0 a0 a1 (0:Int))) else true
noncomputable def FZ31:FSem := fun ys => match ys with
 | [.val false [.sl .any 155 (.pair .str (.pair .bool (.sl 3 (.int .i64)))) a0],.val false [.sl .any 155 (.pair .str (.pair .bool (.sl 3 (.int .i64)))) a1]] => some ((g_AZ31 a0 a1),.val false [.bool (g_VZ31_0 a0 a1)],[])
 | _ => none
theorem vZ31 (a0:tL4) (a1:tL4):collapseH .std EZ31 OZ31_1 (execFn EZ31 Tryz.f167 msZ31 [.val false [.sl .any 155 (.pair .str (.pair .bool (.sl 3 (.int .i64)))) a0],.val false [.sl .any 155 (.pair .str (.pair .bool (.sl 3 (.int .i64)))) a1]]) = some ((g_AZ31 a0 a1),.val false [.bool (g_VZ31_0 a0 a1)],[]) := by kernel_rfl
theorem sZ31:Sound Tryz.prog 167 msZ31 FZ31 := by
 refine fn_gen goodZ31 (by kernel_rfl) .std (fn := Tryz.f167) (c := (Tryz.f167.body.getD .skip)) (o := OZ31_1) (k := 1) (by kernel_rfl) (by kernel_rfl) (by kernel_rfl) (by kernel_rfl) (by decide) kZ31_1 ?_
 intro ys r outs h
 unfold FZ31 at h
 split at h
 ·exact (vZ31 _ _).trans h
 ·cases h
noncomputable def EZ53:Env where
 tt := mkTI Tryz.prog
 fn := fun _ => none
 bxf := fun _ => none
 mv := []
 keep := fun b => match b with
  | 0 => [(0,false),(1,false),(5,false)]
  | _ => []
 keepB := fun b => match b with
  | 0 => []
  | _ => []
 keepX := fun b => match b with
  | 0 => [(4,false)]
  | _ => []
 keepXB := fun b => match b with
  | 0 => []
  | _ => []
theorem goodFZ53:∀ f ms F,EZ53.fn f = some (ms,F) → Sound Tryz.prog f ms F := fun f ms F h => by cases h
theorem goodZ53:Good Tryz.prog EZ53 := ⟨rfl,goodFZ53,fun f ms F h => by cases h⟩
noncomputable def OZ53_0:Orc := fun _ _ => none
noncomputable def msZ53:List PM := [.rd,.rd]
noncomputable def lsZ53:List (Nat×Code) := loopsAll 0 (Tryz.f166.body.getD .skip)
noncomputable def cZ53_0:Code := (loopOf 0 (Tryz.f166.body.getD .skip)).getD .skip
theorem lseqZ53:lsZ53 = [(0,cZ53_0)] := by kernel_rfl
theorem mZ53_0:∀ p,p ∈ lsZ53 → p.1 = 0 → p.2 = cZ53_0 := by
 intro p hp
 rw [lseqZ53] at hp
 simp only [List.mem_cons,List.not_mem_nil,or_false] at hp
 subst hp; simp
theorem kZ53_0:OrcOk EZ53 OZ53_0 lsZ53 0 := orcOk_none
noncomputable def hZ53_0 (y0:List ByteArray) (y1:List ByteArray) (y2:Int):List (Pl×LV) := [(.T 0,.t (.val false [.sl .any 9 .str y0])),(.T 1,.t (.val false [.sl .any 9 .str y1])),(.T 5,.t (.val false [.int .i64 y2]))]
noncomputable def g_SZ53_0 (y0:List ByteArray) (y1:List ByteArray):(Int) → RT (Int) ((Bool) ⊕ (Unit))
 | y2 => .br (true) (.br (decide (y2 < (y0.length:Int))) (.br (decide (0 ≤ y2 ∧ y2 < (y0.length:Int))) (.br (decide (0 ≤ y2 ∧ y2 < (y1.length:Int))) (.br (true) (.br (!ByteArray.toList (at_ Ty.str y0 (Int.toNat y2)) == ByteArray.toList (at_ Ty.str y1 (Int.toNat y2))) (.out (.inl false)) (.br (true) (.go (IntKind.i64.wrap (y2 + 1))) .bad)) .bad) .bad) .bad) (.out (.inr (())))) .bad
noncomputable def g_LZ53_0 (y0:List ByteArray) (y1:List ByteArray) (x:Int):Option ((Bool) ⊕ (Unit)) := loopO (g_SZ53_0 y0 y1) x
noncomputable def xZ53_0 (y0:List ByteArray) (y1:List ByteArray):((Bool) ⊕ (Unit)) → Ex×List (Pl×LV) := fun
 | .inl r => (.ret,[(.T 4,.t (.val false [.bool r]))])
 | .inr (r) => (.exit 0,[(.T 4,.t (.val false [.undef]))])
noncomputable def OZ53_1:Orc := fun b h => match b,h with
 | 0,[(.T 0,.t (.val false [.sl .any 9 .str y0])),(.T 1,.t (.val false [.sl .any 9 .str y1])),(.T 5,.t (.val false [.int .i64 y2]))] => some (okO (g_LZ53_0 y0 y1 y2),(.br (isL (valO (g_LZ53_0 y0 y1 y2))) (.leaf .ret [(.T 4,.t (.val false [.bool (getL (valO (g_LZ53_0 y0 y1 y2)))]))]) (.leaf (.exit 0) [(.T 4,.t (.val false [.undef]))])))
 | b,h => OZ53_0 b h
theorem bZ53_0 (y0:List ByteArray) (y1:List ByteArray) (y2:Int):Tr.bt EZ53 OZ53_0 (exec EZ53 0 cZ53_0 (St.of (hZ53_0 y0 y1 y2)) (leafRd EZ53 0)) = (g_SZ53_0 y0 y1 y2).bt (fun (y2:Int) => (hZ53_0 y0 y1 y2)) (xZ53_0 y0 y1) := by kernel_rfl
theorem kZ53_1:OrcOk EZ53 OZ53_1 lsZ53 1 := orc_add kZ53_0 (fun n p hp h ex h' ho => by
 obtain ⟨b,c⟩ := p
 obtain ⟨xt,h1,h2⟩ := ho
 have h1:OZ53_1 b h = some (true,xt) := h1
 unfold OZ53_1 at h1
 split at h1
 ·injection h1 with h1
  injection h1 with e1 e2
  subst e2
  have hc:c = cZ53_0 := mZ53_0 _ hp rfl
  subst hc
  right
  rename_i y0 y1 y2
  have key := LT_step kZ53_0 hp (fun q hq => loopsAll_in _ _ _ _ hp hq) (fun (y2:Int) => (hZ53_0 y0 y1 y2)) (xZ53_0 y0 y1) (g_SZ53_0 y0 y1) (fun x => by first | exact bZ53_0 y0 y1 x) n (x := y2) (okO_some e1)
  have hx:∀ r,XT.sel (.br (isL r) (.leaf .ret [(.T 4,.t (.val false [.bool (getL r)]))]) (.leaf (.exit 0) [(.T 4,.t (.val false [.undef]))])) = xZ53_0 y0 y1 r := fun r => by first | rfl | rcases r with r | r <;> rfl | rcases r with r | r | r <;> rfl | rcases r with r | r | r | r <;> rfl
  have h3 := (hx (valO (g_LZ53_0 y0 y1 y2))).symm.trans h2
  have e3 := congrArg Prod.fst h3
  have e4 := congrArg Prod.snd h3
  simp only at e3 e4
  rw [← e3,← e4]
  exact key
 ·exact .inl ⟨xt,h1,h2⟩)
noncomputable def g_AZ53 (a0:List ByteArray) (a1:List ByteArray):Bool := (a0.length:Int) != (a1.length:Int) || okO (g_LZ53_0 a0 a1 (0:Int))
noncomputable def g_VZ53_0 (a0:List ByteArray) (a1:List ByteArray):Bool := bif (a0.length:Int) != (a1.length:Int) then false else bif isL (valO (g_LZ53_0 a0 a1 (0:Int))) then getL (valO (g_LZ53_0 a0 a1 (0:Int))) else true
noncomputable def FZ53:FSem := fun ys => match ys with
 | [.val false [.sl .any 9 .str a0],.val false [.sl .any 9 .str a1]] => some ((g_AZ53 a0 a1),.val false [.bool (g_VZ53_0 a0 a1)],[])
 | _ => none
theorem vZ53 (a0:List ByteArray) (a1:List ByteArray):collapseH .std EZ53 OZ53_1 (execFn EZ53 Tryz.f166 msZ53 [.val false [.sl .any 9 .str a0],.val false [.sl .any 9 .str a1]]) = some ((g_AZ53 a0 a1),.val false [.bool (g_VZ53_0 a0 a1)],[]) := by kernel_rfl
theorem sZ53:Sound Tryz.prog 166 msZ53 FZ53 := by
 refine fn_gen goodZ53 (by kernel_rfl) .std (fn := Tryz.f166) (c := (Tryz.f166.body.getD .skip)) (o := OZ53_1) (k := 1) (by kernel_rfl) (by kernel_rfl) (by kernel_rfl) (by kernel_rfl) (by decide) kZ53_1 ?_
 intro ys r outs h
 unfold FZ53 at h
 split at h
 ·exact (vZ53 _ _).trans h
 ·cases h
noncomputable def EZ54:Env where
 tt := mkTI Tryz.prog
 fn := fun f => match f with
  | 166 => some (msZ53,FSem.wk msZ53 FZ53)
  | 167 => some (msZ31,FSem.wk msZ31 FZ31)
  | _ => none
 bxf := fun _ => none
 mv := []
 keep := fun _ => []
 keepB := fun _ => []
 keepX := fun _ => []
 keepXB := fun _ => []
theorem goodFZ54:∀ f ms F,EZ54.fn f = some (ms,F) → Sound Tryz.prog f ms F := fun f ms F h => by
 unfold EZ54 at h
 dsimp only at h
 split at h
 ·exact gF sZ53 h
 ·exact gF sZ31 h
 ·cases h
theorem goodZ54:Good Tryz.prog EZ54 := ⟨rfl,goodFZ54,fun f ms F h => by cases h⟩
noncomputable def OZ54_0:Orc := fun _ _ => none
noncomputable def msZ54:List PM := [.rd,.rd]
noncomputable def lsZ54:List (Nat×Code) := loopsAll 0 (Tryz.f141.body.getD .skip)
theorem kZ54_0:OrcOk EZ54 OZ54_0 lsZ54 0 := orcOk_none
noncomputable def g_AZ54 (a0:Int) (a1:Int) (a2:List ByteArray) (a3:tL4) (a4:Int) (a5:Int) (a6:List ByteArray) (a7:tL4):Bool := a0 != a4 || (a1 != a5 || g_AZ53 a2 a6&&(!g_VZ53_0 a2 a6 || g_AZ31 a3 a7))
noncomputable def g_VZ54_0 (a0:Int) (a1:Int) (a2:List ByteArray) (a3:tL4) (a4:Int) (a5:Int) (a6:List ByteArray) (a7:tL4):Bool := bif a0 != a4 then false else bif a1 != a5 then false else bif !g_VZ53_0 a2 a6 then false else bif !g_VZ31_0 a3 a7 then false else true
noncomputable def FZ54:FSem := fun ys => match ys with
 | [.val true [.int .i64 a0,.int .i64 a1,.sl .any 9 .str a2,.sl .any 155 (.pair .str (.pair .bool (.sl 3 (.int .i64)))) a3],.val true [.int .i64 a4,.int .i64 a5,.sl .any 9 .str a6,.sl .any 155 (.pair .str (.pair .bool (.sl 3 (.int .i64)))) a7]] => some ((g_AZ54 a0 a1 a2 a3 a4 a5 a6 a7),.val false [.bool (g_VZ54_0 a0 a1 a2 a3 a4 a5 a6 a7)],[])
 | _ => none
theorem vZ54 (a0:Int) (a1:Int) (a2:List ByteArray) (a3:tL4) (a4:Int) (a5:Int) (a6:List ByteArray) (a7:tL4):collapseH .std EZ54 OZ54_0 (execFn EZ54 Tryz.f141 msZ54 [.val true [.int .i64 a0,.int .i64 a1,.sl .any 9 .str a2,.sl .any 155 (.pair .str (.pair .bool (.sl 3 (.int .i64)))) a3],.val true [.int .i64 a4,.int .i64 a5,.sl .any 9 .str a6,.sl .any 155 (.pair .str (.pair .bool (.sl 3 (.int .i64)))) a7]]) = some ((g_AZ54 a0 a1 a2 a3 a4 a5 a6 a7),.val false [.bool (g_VZ54_0 a0 a1 a2 a3 a4 a5 a6 a7)],[]) := by kernel_rfl
theorem sZ54:Sound Tryz.prog 141 msZ54 FZ54 := by
 refine fn_gen goodZ54 (by kernel_rfl) .std (fn := Tryz.f141) (c := (Tryz.f141.body.getD .skip)) (o := OZ54_0) (k := 0) (by kernel_rfl) (by kernel_rfl) (by kernel_rfl) (by kernel_rfl) (by decide) kZ54_0 ?_
 intro ys r outs h
 unfold FZ54 at h
 split at h
 ·exact (vZ54 _ _ _ _ _ _ _ _).trans h
 ·cases h
noncomputable def EZ37:Env where
 tt := mkTI Tryz.prog
 fn := fun f => match f with
  | 141 => some (msZ54,FSem.wk msZ54 FZ54)
  | _ => none
 bxf := fun _ => none
 mv := []
 keep := fun b => match b with
  | 0 => [(0,false),(1,false),(5,false)]
  | _ => []
 keepB := fun b => match b with
  | 0 => []
  | _ => []
 keepX := fun b => match b with
  | 0 => [(4,false)]
  | _ => []
 keepXB := fun b => match b with
  | 0 => []
  | _ => []
theorem goodFZ37:∀ f ms F,EZ37.fn f = some (ms,F) → Sound Tryz.prog f ms F := fun f ms F h => by
 unfold EZ37 at h
 dsimp only at h
 split at h
 ·exact gF sZ54 h
 ·cases h
theorem goodZ37:Good Tryz.prog EZ37 := ⟨rfl,goodFZ37,fun f ms F h => by cases h⟩
noncomputable def OZ37_0:Orc := fun _ _ => none
noncomputable def msZ37:List PM := [.rd,.rd]
noncomputable def lsZ37:List (Nat×Code) := loopsAll 0 (Tryz.f103.body.getD .skip)
noncomputable def cZ37_0:Code := (loopOf 0 (Tryz.f103.body.getD .skip)).getD .skip
theorem lseqZ37:lsZ37 = [(0,cZ37_0)] := by kernel_rfl
theorem mZ37_0:∀ p,p ∈ lsZ37 → p.1 = 0 → p.2 = cZ37_0 := by
 intro p hp
 rw [lseqZ37] at hp
 simp only [List.mem_cons,List.not_mem_nil,or_false] at hp
 subst hp; simp
theorem kZ37_0:OrcOk EZ37 OZ37_0 lsZ37 0 := orcOk_none
noncomputable def hZ37_0 (y0:tL0) (y1:tL0) (y2:Int):List (Pl×LV) := [(.T 0,.t (.val false [.sl .any 92 (.pair (.int .i64) (.pair (.int .i64) (.pair (.sl 9 .str) (.sl 155 (.pair .str (.pair .bool (.sl 3 (.int .i64)))))))) y0])),(.T 1,.t (.val false [.sl .any 92 (.pair (.int .i64) (.pair (.int .i64) (.pair (.sl 9 .str) (.sl 155 (.pair .str (.pair .bool (.sl 3 (.int .i64)))))))) y1])),(.T 5,.t (.val false [.int .i64 y2]))]
noncomputable def g_SZ37_0 (y0:tL0) (y1:tL0):(Int) → RT (Int) ((Bool) ⊕ (Unit))
 | y2 => .br (true) (.br (decide (y2 < (y0.length:Int))) (.br (decide (0 ≤ y2 ∧ y2 < (y0.length:Int))) (.br (decide (0 ≤ y2 ∧ y2 < (y1.length:Int))) (.br (g_AZ54 (at_ yT3 y0 (Int.toNat y2)).1 (at_ yT3 y0 (Int.toNat y2)).2.1 (at_ yT3 y0 (Int.toNat y2)).2.2.1 (at_ yT3 y0 (Int.toNat y2)).2.2.2 (at_ yT3 y1 (Int.toNat y2)).1 (at_ yT3 y1 (Int.toNat y2)).2.1 (at_ yT3 y1 (Int.toNat y2)).2.2.1 (at_ yT3 y1 (Int.toNat y2)).2.2.2) (.br (!g_VZ54_0 (at_ yT3 y0 (Int.toNat y2)).1 (at_ yT3 y0 (Int.toNat y2)).2.1 (at_ yT3 y0 (Int.toNat y2)).2.2.1 (at_ yT3 y0 (Int.toNat y2)).2.2.2 (at_ yT3 y1 (Int.toNat y2)).1 (at_ yT3 y1 (Int.toNat y2)).2.1 (at_ yT3 y1 (Int.toNat y2)).2.2.1 (at_ yT3 y1 (Int.toNat y2)).2.2.2) (.out (.inl false)) (.br (true) (.go (IntKind.i64.wrap (y2 + 1))) .bad)) .bad) .bad) .bad) (.out (.inr (())))) .bad
noncomputable def g_LZ37_0 (y0:tL0) (y1:tL0) (x:Int):Option ((Bool) ⊕ (Unit)) := loopO (g_SZ37_0 y0 y1) x
noncomputable def xZ37_0 (y0:tL0) (y1:tL0):((Bool) ⊕ (Unit)) → Ex×List (Pl×LV) := fun
 | .inl r => (.ret,[(.T 4,.t (.val false [.bool r]))])
 | .inr (r) => (.exit 0,[(.T 4,.t (.val false [.undef]))])
noncomputable def OZ37_1:Orc := fun b h => match b,h with
 | 0,[(.T 0,.t (.val false [.sl .any 92 (.pair (.int .i64) (.pair (.int .i64) (.pair (.sl 9 .str) (.sl 155 (.pair .str (.pair .bool (.sl 3 (.int .i64)))))))) y0])),(.T 1,.t (.val false [.sl .any 92 (.pair (.int .i64) (.pair (.int .i64) (.pair (.sl 9 .str) (.sl 155 (.pair .str (.pair .bool (.sl 3 (.int .i64)))))))) y1])),(.T 5,.t (.val false [.int .i64 y2]))] => some (okO (g_LZ37_0 y0 y1 y2),(.br (isL (valO (g_LZ37_0 y0 y1 y2))) (.leaf .ret [(.T 4,.t (.val false [.bool (getL (valO (g_LZ37_0 y0 y1 y2)))]))]) (.leaf (.exit 0) [(.T 4,.t (.val false [.undef]))])))
 | b,h => OZ37_0 b h
theorem bZ37_0 (y0:tL0) (y1:tL0) (y2:Int):Tr.bt EZ37 OZ37_0 (exec EZ37 0 cZ37_0 (St.of (hZ37_0 y0 y1 y2)) (leafRd EZ37 0)) = (g_SZ37_0 y0 y1 y2).bt (fun (y2:Int) => (hZ37_0 y0 y1 y2)) (xZ37_0 y0 y1) := by kernel_rfl
theorem kZ37_1:OrcOk EZ37 OZ37_1 lsZ37 1 := orc_add kZ37_0 (fun n p hp h ex h' ho => by
 obtain ⟨b,c⟩ := p
 obtain ⟨xt,h1,h2⟩ := ho
 have h1:OZ37_1 b h = some (true,xt) := h1
 unfold OZ37_1 at h1
 split at h1
 ·injection h1 with h1
  injection h1 with e1 e2
  subst e2
  have hc:c = cZ37_0 := mZ37_0 _ hp rfl
  subst hc
  right
  rename_i y0 y1 y2
  have key := LT_step kZ37_0 hp (fun q hq => loopsAll_in _ _ _ _ hp hq) (fun (y2:Int) => (hZ37_0 y0 y1 y2)) (xZ37_0 y0 y1) (g_SZ37_0 y0 y1) (fun x => by first | exact bZ37_0 y0 y1 x) n (x := y2) (okO_some e1)
  have hx:∀ r,XT.sel (.br (isL r) (.leaf .ret [(.T 4,.t (.val false [.bool (getL r)]))]) (.leaf (.exit 0) [(.T 4,.t (.val false [.undef]))])) = xZ37_0 y0 y1 r := fun r => by first | rfl | rcases r with r | r <;> rfl | rcases r with r | r | r <;> rfl | rcases r with r | r | r | r <;> rfl
  have h3 := (hx (valO (g_LZ37_0 y0 y1 y2))).symm.trans h2
  have e3 := congrArg Prod.fst h3
  have e4 := congrArg Prod.snd h3
  simp only at e3 e4
  rw [← e3,← e4]
  exact key
 ·exact .inl ⟨xt,h1,h2⟩)
noncomputable def g_AZ37 (a0:tL0) (a1:tL0):Bool := (a0.length:Int) != (a1.length:Int) || okO (g_LZ37_0 a0 a1 (0:Int))
noncomputable def g_VZ37_0 (a0:tL0) (a1:tL0):Bool := bif (a0.length:Int) != (a1.length:Int) then false else bif isL (valO (g_LZ37_0 a0 a1 (0:Int))) then getL (valO (g_LZ37_0 a0 a1 (0:Int))) else true
noncomputable def FZ37:FSem := fun ys => match ys with
 | [.val false [.sl .any 92 (.pair (.int .i64) (.pair (.int .i64) (.pair (.sl 9 .str) (.sl 155 (.pair .str (.pair .bool (.sl 3 (.int .i64)))))))) a0],.val false [.sl .any 92 (.pair (.int .i64) (.pair (.int .i64) (.pair (.sl 9 .str) (.sl 155 (.pair .str (.pair .bool (.sl 3 (.int .i64)))))))) a1]] => some ((g_AZ37 a0 a1),.val false [.bool (g_VZ37_0 a0 a1)],[])
 | _ => none
theorem vZ37 (a0:tL0) (a1:tL0):collapseH .std EZ37 OZ37_1 (execFn EZ37 Tryz.f103 msZ37 [.val false [.sl .any 92 (.pair (.int .i64) (.pair (.int .i64) (.pair (.sl 9 .str) (.sl 155 (.pair .str (.pair .bool (.sl 3 (.int .i64)))))))) a0],.val false [.sl .any 92 (.pair (.int .i64) (.pair (.int .i64) (.pair (.sl 9 .str) (.sl 155 (.pair .str (.pair .bool (.sl 3 (.int .i64)))))))) a1]]) = some ((g_AZ37 a0 a1),.val false [.bool (g_VZ37_0 a0 a1)],[]) := by kernel_rfl
theorem sZ37:Sound Tryz.prog 103 msZ37 FZ37 := by
 refine fn_gen goodZ37 (by kernel_rfl) .std (fn := Tryz.f103) (c := (Tryz.f103.body.getD .skip)) (o := OZ37_1) (k := 1) (by kernel_rfl) (by kernel_rfl) (by kernel_rfl) (by kernel_rfl) (by decide) kZ37_1 ?_
 intro ys r outs h
 unfold FZ37 at h
 split at h
 ·exact (vZ37 _ _).trans h
 ·cases h
end Go.Proofs.YtedhpmhlmdcpbaaGreatDoor.E
